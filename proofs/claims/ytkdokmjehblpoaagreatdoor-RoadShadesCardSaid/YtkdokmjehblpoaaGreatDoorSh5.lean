/- Part 5 of a proof. No conditions. -/
import Derived.Test.YtkdokmjehblpoaaGreatDoorSh4
import Derived.Laws.MathBits
set_option maxRecDepth 100000
set_option linter.unusedVariables false
set_option linter.unusedSimpArgs false
namespace Go.Dx
open Go.IntKind (i64 u64 u8)
open Go.Sx Go.Proofs
noncomputable section
def ctB18 : CTab := [(44, .con AT44), (23, .con AT23), (22, .con AT22), (15, .con AT15), (55, .con C55), (61, .con C61), (108, .con C108), (46, .con C46), (111, .con C111), (56, .con C56), (47, .con C47), (145, .con C145), (140, .con C140), (49, .con C49), (52, .con C52), (123, .con C123), (50, .con C50), (91, .con C91), (24, .con C24), (70, .con C70), (62, .con C62), (68, .con C68), (63, .con C63), (69, .con C69), (117, .inl s117 u0), (116, .inl s116 u0), (115, .con C115), (114, .con C114), (73, .con C73), (147, .con C147), (64, .con C64), (66, .con C66), (113, .con C113), (65, .con C65), (67, .con C67), (53, .con C53), (58, .con C58), (122, .con C122), (72, .con C72), (45, .con C45), (90, .con C90), (119, .con C119), (121, .con C121), (99, .con C99), (129, .con C129), (148, .con C148), (149, .con C149), (112, .con C112), (118, .con C118), (120, .con C120), (51, .con C51), (133, .con C133), (103, .con C103), (106, .con C106), (110, .con C110), (100, .con C100), (134, .con C134), (135, .con C135), (137, .con C137), (138, .con C138), (78, .con C78), (54, .con C54), (59, .con C59), (48, .con C48), (102, .con C102), (104, .con C104), (105, .con C105), (107, .con C107), (171, .con C171), (84, .con C84), (85, .con C85), (127, .con C127), (101, .con C101), (86, .con C86), (71, .con C71), (93, .con C93), (92, .con C92), (79, .con C79), (136, .con C136), (144, .con C144), (162, .con C162), (146, .con C146), (83, .inl s83 u0), (19, .inl s19 uB), (17, .inl s17 uB), (43, .inl s43 uB), (57, .inl s57 uB), (109, .inl s109 uB), (139, .inl s139 uB), (163, .inl s163 uB), (177, .inl s177 uB), (141, .inl s141 uB), (142, .inl s142 uB), (143, .inl s143 uB), (131, .inl s131 uB), (161, .inl s161 uB)]
theorem tabB18 : TabOk Tryz.prog eqs its ctB18 := .con okA44 (.con okA23 (.con okA22 (.con okA15 (.con ok55 (.con ok61 (.con ok108 (.con ok46 (.con ok111 (.con ok56 (.con ok47 (.con ok145 (.con ok140 (.con ok49 (.con ok52 (.con ok123 (.con ok50 (.con ok91 (.con ok24 (.con ok70 (.con ok62 (.con ok68 (.con ok63 (.con ok69 (.inl Tryz.func117 (by kernel_rfl) (by kernel_rfl) (by kernel_rfl) (.inl Tryz.func116 (by kernel_rfl) (by kernel_rfl) (by kernel_rfl) (.con ok115 (.con ok114 (.con ok73 (.con ok147 (.con ok64 (.con ok66 (.con ok113 (.con ok65 (.con ok67 (.con ok53 (.con ok58 (.con ok122 (.con ok72 (.con ok45 (.con ok90 (.con ok119 (.con ok121 (.con ok99 (.con ok129 (.con ok148 (.con ok149 (.con ok112 (.con ok118 (.con ok120 (.con ok51 (.con ok133 (.con ok103 (.con ok106 (.con ok110 (.con ok100 (.con ok134 (.con ok135 (.con ok137 (.con ok138 (.con ok78 (.con ok54 (.con ok59 (.con ok48 (.con ok102 (.con ok104 (.con ok105 (.con ok107 (.con ok171 (.con ok84 (.con ok85 (.con ok127 (.con ok101 (.con ok86 (.con ok71 (.con ok93 (.con ok92 (.con ok79 (.con ok136 (.con ok144 (.con ok162 (.con ok146 (.inl Tryz.func83 (by kernel_rfl) (by kernel_rfl) (by kernel_rfl) (.inl Tryz.func19 (by kernel_rfl) (by kernel_rfl) (by kernel_rfl) (.inl Tryz.func17 (by kernel_rfl) (by kernel_rfl) (by kernel_rfl) (.inl Tryz.func43 (by kernel_rfl) (by kernel_rfl) (by kernel_rfl) (.inl Tryz.func57 (by kernel_rfl) (by kernel_rfl) (by kernel_rfl) (.inl Tryz.func109 (by kernel_rfl) (by kernel_rfl) (by kernel_rfl) (.inl Tryz.func139 (by kernel_rfl) (by kernel_rfl) (by kernel_rfl) (.inl Tryz.func163 (by kernel_rfl) (by kernel_rfl) (by kernel_rfl) (.inl Tryz.func177 (by kernel_rfl) (by kernel_rfl) (by kernel_rfl) (.inl Tryz.func141 (by kernel_rfl) (by kernel_rfl) (by kernel_rfl) (.inl Tryz.func142 (by kernel_rfl) (by kernel_rfl) (by kernel_rfl) (.inl Tryz.func143 (by kernel_rfl) (by kernel_rfl) (by kernel_rfl) (.inl Tryz.func131 (by kernel_rfl) (by kernel_rfl) (by kernel_rfl) (.inl Tryz.func161 (by kernel_rfl) (by kernel_rfl) (by kernel_rfl) (.nil))))))))))))))))))))))))))))))))))))))))))))))))))))))))))))))))))))))))))))))))))))))))))))))))
theorem run19 (w0 : World) : sat (LPof w0 (SV ctB18)) (runL (JJ) ctB18 uB s19 []) (topQ (.bool true)) := run_norm (by kernel_rfl)
def C19 : PCon := mkC [] (fun _ => True) fun _ => .bool true
theorem ok19 : (vP C19).Ok Tryz.prog 19 := mkC_ev (J := JJ) (un := uB) tabB18 hE hI Tryz.func19 (by kernel_rfl) (by kernel_rfl) (by kernel_rfl) rfl (fun w0 ds hp => run19 w0)
end
end Go.Dx
namespace Go.Dx
open Go.IntKind (i64 u64 u8)
open Go.Sx
noncomputable section
theorem wrapU {x : Int} (h1 : 0 <= x) (h2 : x < 18446744073709551616) : u64.wrap x = x := IntWalk.u64_in _ (by omega)
theorem mulS {x y A B : Int} (h1 : -A <= x) (h2 : x <= A) (h3 : -B <= y) (h4 : y <= B) : -(A * B) <= x * y /\ x * y <= A * B := by
 have hA : 0 <= A := by omega
 have hB : 0 <= B := by omega
 by_cases hy : 0 <= y
 ·have a1 : x * y <= A * y := Int.mul_le_mul_of_nonneg_right h2 hy
  have a2 : A * y <= A * B := iml h4 hA
  have a3 : -A * y <= x * y := Int.mul_le_mul_of_nonneg_right h1 hy
  rw [Int.neg_mul] at a3
  exact ⟨by omega, by omega⟩
 ·have hy' : 0 <= -y := by omega
  have a1 : x * (-y) <= A * (-y) := Int.mul_le_mul_of_nonneg_right h2 hy'
  have a2 : A * (-y) <= A * B := iml (by omega) hA
  have a3 : -A * (-y) <= x * (-y) := Int.mul_le_mul_of_nonneg_right h1 hy'
  have b1 : x * (-y) = -(x * y) := Int.mul_neg _ _
  have b3 : -A * (-y) = -(A * (-y)) := Int.neg_mul _ _
  exact ⟨by omega, by omega⟩
theorem sqN (x : Int) : 0 <= x * x := by
 by_cases h : 0 <= x
 ·exact imn h h
 ·rw [← Int.neg_mul_neg]; exact imn (by omega) (by omega)
theorem parts {x : Int} (h0 : 0 <= x) (h1 : x < 18446744073709551616) : 0 <= x / 4294967296 /\ x / 4294967296 <= 4294967295 /\ 0 <= x % 4294967296 /\ x % 4294967296 <= 4294967295 := by omega
theorem hi_p {x y : Int} (hx0 : 0 <= x) (hx : x < 18446744073709551616) (hy0 : 0 <= y) (hy : y < 18446744073709551616) : F162_0 x y = x * y / 18446744073709551616 := by
 rw [← mul64_arith x y hx0 hx hy0 hy]
 unfold F162_0
 simp only [and_low32 _ hx0 hx, and_low32 _ hy0 hy, IntKind.wrap_u64]
 rw [and_low32 _ (by omega) (by omega)]
 simp only [show (2 : Int) ^ 32 = 4294967296 from rfl]
 rw [Int.fdiv_eq_ediv_of_nonneg _ (by omega), Int.fdiv_eq_ediv_of_nonneg _ (by omega), Int.fdiv_eq_ediv_of_nonneg _ (by omega), Int.fdiv_eq_ediv_of_nonneg _ (by omega), Int.fdiv_eq_ediv_of_nonneg _ (by omega)]
theorem lo_p (x y : Int) : F162_1 x y = x * y % 18446744073709551616 := by unfold F162_1; rw [IntKind.wrap_u64]
theorem hilo_r {x y : Int} (hx0 : 0 <= x) (hx : x < 18446744073709551616) (hy0 : 0 <= y) (hy : y < 18446744073709551616) : F138_0 x y = x * y / 18446744073709551616 /\ F138_1 x y = x * y % 18446744073709551616 := by
 unfold F138_0 F138_1
 rw [wrapU hx0 hx, wrapU hy0 hy]
 rw [Int.tdiv_eq_ediv_of_nonneg hx0, Int.tdiv_eq_ediv_of_nonneg hy0, Int.tmod_eq_emod_of_nonneg hx0, Int.tmod_eq_emod_of_nonneg hy0]
 have ex : x = x / 4294967296 * 4294967296 + x % 4294967296 := by omega
 have ey : y = y / 4294967296 * 4294967296 + y % 4294967296 := by omega
 generalize hx1 : x / 4294967296 = x1 at *
 generalize hx0' : x % 4294967296 = x0 at *
 generalize hy1 : y / 4294967296 = y1 at *
 generalize hy0' : y % 4294967296 = y0 at *
 have b1 : 0 <= x1 /\ x1 <= 4294967295 := by omega
 have b2 : 0 <= x0 /\ x0 <= 4294967295 := by omega
 have b3 : 0 <= y1 /\ y1 <= 4294967295 := by omega
 have b4 : 0 <= y0 /\ y0 <= 4294967295 := by omega
 have pA := prod_bound x1 y1 b1.1 b1.2 b3.1 b3.2
 have pB := prod_bound x1 y0 b1.1 b1.2 b4.1 b4.2
 have pC := prod_bound x0 y0 b2.1 b2.2 b4.1 b4.2
 have pD := prod_bound x0 y1 b2.1 b2.2 b3.1 b3.2
 have hxy : x * y = x1 * y1 * 18446744073709551616 + (x1 * y0 + x0 * y1) * 4294967296 + x0 * y0 := by rw [ex, ey]; exact split_mul x1 x0 y1 y0
 rw [hxy]
 rw [wrapU b1.1 (by omega), wrapU b3.1 (by omega)]
 generalize x1 * y1 = A at *
 generalize x1 * y0 = B at *
 generalize x0 * y0 = C at *
 generalize x0 * y1 = D at *
 rw [wrapU (x := A) (by omega) (by omega), wrapU (x := B) (by omega) (by omega), wrapU (x := C) (by omega) (by omega), wrapU (x := D) (by omega) (by omega)]
 rw [Int.tdiv_eq_ediv_of_nonneg (a := C) (by omega), Int.tmod_eq_emod_of_nonneg (a := C) (by omega)]
 rw [wrapU (x := C / 4294967296) (by omega) (by omega)]
 rw [wrapU (x := B + C / 4294967296) (by omega) (by omega)]
 rw [Int.tdiv_eq_ediv_of_nonneg (a := B + C / 4294967296) (by omega), Int.tmod_eq_emod_of_nonneg (a := B + C / 4294967296) (by omega)]
 rw [wrapU (x := (B + C / 4294967296) / 4294967296) (by omega) (by omega)]
 rw [wrapU (x := D + (B + C / 4294967296) % 4294967296) (by omega) (by omega)]
 rw [Int.tdiv_eq_ediv_of_nonneg (a := D + (B + C / 4294967296) % 4294967296) (by omega)]
 rw [wrapU (x := (D + (B + C / 4294967296) % 4294967296) / 4294967296) (by omega) (by omega)]
 simp only [IntKind.wrap_u64]
 constructor
 ·omega
 ·omega
theorem atMost_p {x y z w : Int} (hx0 : 0 <= x) (hx : x < 9223372036854775808) (hy0 : 0 <= y) (hy : y < 9223372036854775808) (hz0 : 0 <= z) (hz : z < 9223372036854775808) (hw0 : 0 <= w) (hw : w < 9223372036854775808) :
 F135_0 (F134_0 x y) (F134_1 x y) (F134_0 z w) (F134_1 z w) = decide (x * y <= z * w) := by
 unfold F134_0 F134_1 F135_0
 rw [wrapU hx0 (by omega), wrapU hy0 (by omega), wrapU hz0 (by omega), wrapU hw0 (by omega)]
 rw [hi_p hx0 (by omega) hy0 (by omega), hi_p hz0 (by omega) hw0 (by omega), lo_p, lo_p]
 generalize x * y = a
 generalize z * w = b
 rw [Bool.eq_iff_iff]
 simp only [Bool.cond_eq_ite, Bool.and_true, Bool.and_eq_true, beq_iff_eq, decide_eq_true_eq]
 split <;> (try split) <;> (try split) <;> simp_all <;> omega
theorem above_r {x y z w : Int} (hx0 : 0 <= x) (hx : x < 9223372036854775808) (hy0 : 0 <= y) (hy : y < 9223372036854775808) (hz0 : 0 <= z) (hz : z < 9223372036854775808) (hw0 : 0 <= w) (hw : w < 9223372036854775808) :
 (!F137_0 (F138_0 x y) (F138_1 x y) (F138_0 z w) (F138_1 z w)) = decide (x * y <= z * w) := by
 unfold F137_0
 rw [(hilo_r hx0 (by omega) hy0 (by omega)).1, (hilo_r hx0 (by omega) hy0 (by omega)).2, (hilo_r hz0 (by omega) hw0 (by omega)).1, (hilo_r hz0 (by omega) hw0 (by omega)).2]
 generalize x * y = a
 generalize z * w = b
 rw [Bool.eq_iff_iff]
 simp only [Bool.cond_eq_ite, Bool.not_eq_true', beq_iff_eq, decide_eq_true_eq]
 split <;> (try split) <;> simp_all <;> omega
def nr (ax ay bx by' px py r : Int) : Bool :=
 bif decide ((px - ax) * (bx - ax) + (py - ay) * (by' - ay) <= 0) then decide ((px - ax) * (px - ax) + (py - ay) * (py - ay) <= r * r)
 else bif decide ((bx - ax) * (bx - ax) + (by' - ay) * (by' - ay) <= (px - ax) * (bx - ax) + (py - ay) * (by' - ay)) then decide ((px - bx) * (px - bx) + (py - by') * (py - by') <= r * r)
 else decide (((bx - ax) * (py - ay) - (by' - ay) * (px - ax)) * ((bx - ax) * (py - ay) - (by' - ay) * (px - ax)) <= r * r * ((bx - ax) * (bx - ax) + (by' - ay) * (by' - ay)))
def sm (x : Int) : Prop := -536870912 <= x /\ x <= 536870912
theorem abs_sq (c : Int) : max c (0 - c) * max c (0 - c) = c * c := by
 by_cases h : 0 <= c
 ·rw [show max c (0 - c) = c from by omega]
 ·rw [show max c (0 - c) = -c from by omega, Int.neg_mul_neg]
section
variable {ax ay bx by' px py r : Int}
theorem near_p (h1 : sm ax) (h2 : sm ay) (h3 : sm bx) (h4 : sm by') (h5 : sm px) (h6 : sm py) (h7 : 0 <= r) (h8 : r <= 1073741824) : F103_0 ax ay bx by' px py r = nr ax ay bx by' px py r := by
 unfold sm at *
 unfold F103_0 nr F84_0 F84_1
 rw [wrapI (x := bx - ax) (by omega) (by omega), wrapI (x := by' - ay) (by omega) (by omega), wrapI (x := px - ax) (by omega) (by omega), wrapI (x := py - ay) (by omega) (by omega), wrapI (x := px - bx) (by omega) (by omega), wrapI (x := py - by') (by omega) (by omega)]
 have e1 : -1073741824 <= bx - ax /\ bx - ax <= 1073741824 := by omega
 have e2 : -1073741824 <= by' - ay /\ by' - ay <= 1073741824 := by omega
 have e3 : -1073741824 <= px - ax /\ px - ax <= 1073741824 := by omega
 have e4 : -1073741824 <= py - ay /\ py - ay <= 1073741824 := by omega
 have e5 : -1073741824 <= px - bx /\ px - bx <= 1073741824 := by omega
 have e6 : -1073741824 <= py - by' /\ py - by' <= 1073741824 := by omega
 generalize bx - ax = dx at *
 generalize by' - ay = dy at *
 generalize px - ax = ux at *
 generalize py - ay = uy at *
 generalize px - bx = vx at *
 generalize py - by' = vy at *
 have k : ∀ a b c d : Int, (-1073741824 <= a /\ a <= 1073741824) -> (-1073741824 <= b /\ b <= 1073741824) -> (-1073741824 <= c /\ c <= 1073741824) -> (-1073741824 <= d /\ d <= 1073741824) -> F85_0 a b c d = a * c + b * d /\ -2305843009213693952 <= a * c + b * d /\ a * c + b * d <= 2305843009213693952 := by
  intro a b c d ha hb hc hd
  have m1 := mulS ha.1 ha.2 hc.1 hc.2
  have m2 := mulS hb.1 hb.2 hd.1 hd.2
  unfold F85_0
  rw [wrapI (x := a * c) (by omega) (by omega), wrapI (x := b * d) (by omega) (by omega), wrapI (by omega) (by omega)]
  exact ⟨rfl, by omega, by omega⟩
 have hr := mulS (x := r) (y := r) (A := 1073741824) (B := 1073741824) (by omega) h8 (by omega) h8
 have hr0 : 0 <= r * r := imn h7 h7
 have s1 : 0 <= dx * dx := sqN dx
 have s2 : 0 <= dy * dy := sqN dy
 rw [(k ux uy dx dy e3 e4 e1 e2).1, (k ux uy ux uy e3 e4 e3 e4).1, (k dx dy dx dy e1 e2 e1 e2).1, (k vx vy vx vy e5 e6 e5 e6).1, wrapI (x := r * r) (by omega) (by omega)]
 have c1 := mulS e1.1 e1.2 e4.1 e4.2
 have c2 := mulS e2.1 e2.2 e3.1 e3.2
 have d1 := mulS e1.1 e1.2 e1.1 e1.2
 have d2 := mulS e2.1 e2.2 e2.1 e2.2
 rw [show F127_0 dx dy ux uy = dx * uy - dy * ux from by
  unfold F127_0
  rw [wrapI (x := dx * uy) (by omega) (by omega), wrapI (x := dy * ux) (by omega) (by omega), wrapI (by omega) (by omega)]]
 rw [wrapI (x := 0 - (dx * uy - dy * ux)) (by omega) (by omega)]
 rw [atMost_p (by omega) (by omega) (by omega) (by omega) hr0 (by omega) (by omega) (by omega), abs_sq]
theorem near_r (h1 : sm ax) (h2 : sm ay) (h3 : sm bx) (h4 : sm by') (h5 : sm px) (h6 : sm py) (h7 : 0 <= r) (h8 : r <= 1073741824) : F106_0 px py ax ay bx by' r = nr ax ay bx by' px py r := by
 unfold sm at *
 unfold F106_0 nr F93_0 F93_1
 rw [wrapI (x := bx - ax) (by omega) (by omega), wrapI (x := by' - ay) (by omega) (by omega), wrapI (x := px - ax) (by omega) (by omega), wrapI (x := py - ay) (by omega) (by omega), wrapI (x := px - bx) (by omega) (by omega), wrapI (x := py - by') (by omega) (by omega)]
 have e1 : -1073741824 <= bx - ax /\ bx - ax <= 1073741824 := by omega
 have e2 : -1073741824 <= by' - ay /\ by' - ay <= 1073741824 := by omega
 have e3 : -1073741824 <= px - ax /\ px - ax <= 1073741824 := by omega
 have e4 : -1073741824 <= py - ay /\ py - ay <= 1073741824 := by omega
 have e5 : -1073741824 <= px - bx /\ px - bx <= 1073741824 := by omega
 have e6 : -1073741824 <= py - by' /\ py - by' <= 1073741824 := by omega
 generalize bx - ax = dx at *
 generalize by' - ay = dy at *
 generalize px - ax = ux at *
 generalize py - ay = uy at *
 generalize px - bx = vx at *
 generalize py - by' = vy at *
 have k : ∀ a b c d : Int, (-1073741824 <= a /\ a <= 1073741824) -> (-1073741824 <= b /\ b <= 1073741824) -> (-1073741824 <= c /\ c <= 1073741824) -> (-1073741824 <= d /\ d <= 1073741824) -> F92_0 a b c d = a * c + b * d /\ -2305843009213693952 <= a * c + b * d /\ a * c + b * d <= 2305843009213693952 := by
  intro a b c d ha hb hc hd
  have m1 := mulS ha.1 ha.2 hc.1 hc.2
  have m2 := mulS hb.1 hb.2 hd.1 hd.2
  unfold F92_0
  rw [wrapI (x := a * c) (by omega) (by omega), wrapI (x := b * d) (by omega) (by omega), wrapI (by omega) (by omega)]
  exact ⟨rfl, by omega, by omega⟩
 have hr := mulS (x := r) (y := r) (A := 1073741824) (B := 1073741824) (by omega) h8 (by omega) h8
 have hr0 : 0 <= r * r := imn h7 h7
 have s1 : 0 <= dx * dx := sqN dx
 have s2 : 0 <= dy * dy := sqN dy
 rw [(k ux uy dx dy e3 e4 e1 e2).1, (k ux uy ux uy e3 e4 e3 e4).1, (k dx dy dx dy e1 e2 e1 e2).1, (k vx vy vx vy e5 e6 e5 e6).1, wrapI (x := r * r) (by omega) (by omega)]
 have c1 := mulS e1.1 e1.2 e4.1 e4.2
 have c2 := mulS e2.1 e2.2 e3.1 e3.2
 have d1 := mulS e1.1 e1.2 e1.1 e1.2
 have d2 := mulS e2.1 e2.2 e2.1 e2.2
 rw [show F79_0 dx dy ux uy = dx * uy - dy * ux from by
  unfold F79_0
  rw [wrapI (x := dx * uy) (by omega) (by omega), wrapI (x := dy * ux) (by omega) (by omega), wrapI (by omega) (by omega)]]
 unfold F136_0
 rw [wrapI (x := 0 - (dx * uy - dy * ux)) (by omega) (by omega)]
 rw [above_r (by omega) (by omega) (by omega) (by omega) hr0 (by omega) (by omega) (by omega), abs_sq]
theorem nr_swap (h7 : 0 <= r) : nr ax ay bx by' px py r = nr bx by' ax ay px py r := by
 unfold nr
 have hr0 : 0 <= r * r := imn h7 h7
 have e1 : (px - bx) * (ax - bx) + (py - by') * (ay - by') = ((bx - ax) * (bx - ax) + (by' - ay) * (by' - ay)) - ((px - ax) * (bx - ax) + (py - ay) * (by' - ay)) := by grind
 have e2 : (ax - bx) * (ax - bx) + (ay - by') * (ay - by') = (bx - ax) * (bx - ax) + (by' - ay) * (by' - ay) := by grind
 have e3 : ((ax - bx) * (py - by') - (ay - by') * (px - bx)) = -((bx - ax) * (py - ay) - (by' - ay) * (px - ax)) := by grind
 rw [e1, e2, e3, Int.neg_mul_neg]
 have q1 : 0 <= (bx - ax) * (bx - ax) := sqN _
 have q2 : 0 <= (by' - ay) * (by' - ay) := sqN _
 by_cases hz : (bx - ax) * (bx - ax) + (by' - ay) * (by' - ay) = 0
 ·-- one point
  have z1 : bx - ax = 0 := by
   have : (bx - ax) * (bx - ax) = 0 := by omega
   rcases Int.mul_eq_zero.1 this with h | h <;> exact h
  have z2 : by' - ay = 0 := by
   have : (by' - ay) * (by' - ay) = 0 := by omega
   rcases Int.mul_eq_zero.1 this with h | h <;> exact h
  have : bx = ax := by omega
  have : by' = ay := by omega
  subst bx by'
  simp
 ·have hf : 0 < (bx - ax) * (bx - ax) + (by' - ay) * (by' - ay) := by omega
  generalize (px - ax) * (bx - ax) + (py - ay) * (by' - ay) = t at *
  generalize (bx - ax) * (bx - ax) + (by' - ay) * (by' - ay) = f at *
  by_cases h1 : t <= 0
  ·rw [dqt h1, cond_true]
   rw [dqf (show ¬ f - t <= 0 by omega), cond_false, dqt (show f <= f - t by omega), cond_true]
  ·rw [dqf h1, cond_false]
   by_cases h2 : f <= t
   ·rw [dqt h2, cond_true, dqt (show f - t <= 0 by omega), cond_true]
   ·rw [dqf h2, cond_false, dqf (show ¬ f - t <= 0 by omega), cond_false, dqf (show ¬ f <= f - t by omega), cond_false]
end
end
end Go.Dx
namespace Go.Dx
open Go.IntKind (i64 u64 u8)
def sd (ax ay bx b2 px py : Int) : Int := (bx - ax) * (py - ay) - (b2 - ay) * (px - ax)
section
variable {ax ay bx b2 X0 Y0 X1 Y1 : Int}
def Btw (px py ax ay bx b2 : Int) : Prop := min ax bx <= px /\ px <= max ax bx /\ min ay b2 <= py /\ py <= max ay b2
end
end Go.Dx
namespace Go.Dx
open Go.IntKind (i64 u64 u8)
open Go.Sx
noncomputable section
theorem out_from (a l h : Int) : F71_0 a l h = !F86_0 a l h := by
 unfold F71_0 F86_0
 by_cases h1 : a < l
 ·rw [dqt h1, dqf (show ¬ l <= a by omega)]; rfl
 ·rw [dqf h1, dqt (show l <= a by omega)]
  by_cases h2 : h < a
  ·rw [dqt h2, cond_false, cond_true]; exact dqf (by omega)
  ·rw [dqf h2, cond_false, cond_true]; exact dqt (by omega)
theorem exB_congr {n : Nat} {p q : Nat -> Bool} (h : ∀ i, i < n -> p i = q i) : exB n p = exB n q := by
 cases hq : exB n q with
 | true =>
   obtain ⟨i, hi, hp⟩ := exB_iff.1 hq
   exact exB_true i hi (by rw [h i hi]; exact hp)
 | false =>
   refine exB_false fun i hi => ?_
   rw [h i hi]
   cases hp : q i with
   | false => rfl
   | true => rw [exB_true i hi hp] at hq; cases hq
theorem wild_placed (n : Nat) (f : Nat -> List V) : F45_0 n f = !F51 n f := by
 unfold F45_0 F99_0 F133
 rw [idx_geq]
 unfold exB F51
 congr 1
 congr 1
 funext i
 rw [out_from]; rfl
theorem toL_len (s : ByteArray) : ∀ (k i : Nat) (r : List UInt8), s.size - i = k -> (ByteArray.toList.loop s i r).length = r.length + k := by
 intro k
 induction k with
 | zero =>
   intro i r h
   rw [ByteArray.toList.loop]
   have : ¬ i < s.size := by omega
   simp [this]
 | succ k ih =>
   intro i r h
   rw [ByteArray.toList.loop]
   have : i < s.size := by omega
   simp only [this, if_true]
   rw [ih (i + 1) _ (by omega)]
   simp; omega
theorem toL_nil (s : ByteArray) : (s.toList == (⟨#[]⟩ : ByteArray).toList) = decide (s.size = 0) := by
 have e : (⟨#[]⟩ : ByteArray).toList = [] := by decide +kernel
 rw [e]
 have hl : s.toList.length = s.size := by
  unfold ByteArray.toList; rw [toL_len s s.size 0 [] (by omega)]; simp
 by_cases h : s.size = 0
 ·rw [dqt h]
  have : s.toList = [] := List.eq_nil_of_length_eq_zero (by omega)
  rw [this]; rfl
 ·rw [dqf h]
  cases hs : s.toList with
  | nil => rw [hs] at hl; simp at hl; omega
  | cons a l => rfl
theorem dropWhile_nil {α : Type} {p : α -> Bool} : ∀ {l : List α}, l.dropWhile p = [] ↔ ∀ x ∈ l, p x = true
 | [] => by simp
 | a :: l => by
   rw [List.dropWhile_cons]
   cases h : p a with
   | true => simp only [if_true]; rw [dropWhile_nil]; simp [h]
   | false => simp [h]
theorem trim_nil (l cs : List UInt8) : Lib.trimS l cs = [] ↔ ∀ b ∈ l, cs.contains b = true := by
 unfold Lib.trimS Lib.trimLeftS Lib.trimRightS
 rw [dropWhile_nil]
 constructor
 ·intro h
  have h1 : l.reverse.dropWhile (cs.contains ·) = [] := by
   cases hd : l.reverse.dropWhile (cs.contains ·) with
   | nil => rfl
   | cons a r =>
     have ha : cs.contains a = true := h a (by rw [hd]; simp)
     have hh := List.head_dropWhile_not (cs.contains ·) (l := l.reverse) (by rw [hd]; simp)
     simp only [hd, List.head_cons] at hh
     rw [ha] at hh; cases hh
  rw [dropWhile_nil] at h1
  exact fun b hb => h1 b (by simpa using hb)
 ·intro h b hb
  have : b ∈ l.reverse := by
   have := List.mem_reverse.1 hb
   exact (List.dropWhile_sublist _).subset this
  exact h b (by simpa using this)
def nmB (b : Nat) : Bool := (decide (97 <= b) && decide (b <= 122)) || ((decide (48 <= b) && decide (b <= 57)) || decide (b = 45))
theorem cut_bytes (b : UInt8) : ([97, 98, 99, 100, 101, 102, 103, 104, 105, 106, 107, 108, 109, 110, 111, 112, 113, 114, 115, 116, 117, 118, 119, 120, 121, 122, 48, 49, 50, 51, 52, 53, 54, 55, 56, 57, 45] : List UInt8).contains b = nmB b.toNat := by
 have key : ∀ n : Fin 256, ([97, 98, 99, 100, 101, 102, 103, 104, 105, 106, 107, 108, 109, 110, 111, 112, 113, 114, 115, 116, 117, 118, 119, 120, 121, 122, 48, 49, 50, 51, 52, 53, 54, 55, 56, 57, 45] : List UInt8).contains (UInt8.ofNat n.val) = nmB n.val := by decide +kernel
 have := key ⟨b.toNat, b.toNat_lt⟩
 simpa using this
theorem getD_el {l : List UInt8} {i : Nat} (h : i < l.length) : l.getD i 0 = l[i] := by simp [List.getD, h]
theorem badN_eq (s : ByteArray) (i : Nat) : (!badN s i) = (nmB (s.data.toList.getD i 0).toNat && (decide (0 < i) || (decide (97 <= (s.data.toList.getD i 0).toNat) && decide ((s.data.toList.getD i 0).toNat <= 122)))) := by
 unfold badN nmB
 generalize (s.data.toList.getD i 0).toNat = b
 rw [Bool.eq_iff_iff]
 simp only [Bool.cond_eq_ite, Bool.not_eq_true', Bool.and_eq_true, Bool.or_eq_true, decide_eq_true_eq]
 split <;> split <;> (try split) <;> simp_all <;> omega
theorem name_eq (s : ByteArray) : F114_0 s = F122 s := by
 unfold F114_0 F122
 rw [toL_nil]
 have hsz : s.size = s.data.toList.length := by rw [Array.length_toList]; rfl
 by_cases h0 : s.size = 0
 ·rw [dqt h0, h0]; rfl
 rw [dqf h0]
 have e0 : decide (0 < (s.size : Int)) = true := dqt (by omega)
 rw [e0]
 by_cases h24 : (s.size : Int) <= 24
 case neg => rw [dqf h24]; simp
 rw [dqt h24]
 simp only [Bool.not_false, cond_true, Bool.and_true]
 rw [toL_nil]
 rw [Bool.eq_iff_iff]
 have ht : (F146 s (ByteArray.mk (Array.mk [97, 98, 99, 100, 101, 102, 103, 104, 105, 106, 107, 108, 109, 110, 111, 112, 113, 114, 115, 116, 117, 118, 119, 120, 121, 122, 48, 49, 50, 51, 52, 53, 54, 55, 56, 57, 45]))).size = 0 ↔ ∀ b ∈ s.data.toList, nmB b.toNat = true := by
  rw [show (F146 s (ByteArray.mk (Array.mk [97, 98, 99, 100, 101, 102, 103, 104, 105, 106, 107, 108, 109, 110, 111, 112, 113, 114, 115, 116, 117, 118, 119, 120, 121, 122, 48, 49, 50, 51, 52, 53, 54, 55, 56, 57, 45]))).size = (Lib.trimS s.data.toList [97, 98, 99, 100, 101, 102, 103, 104, 105, 106, 107, 108, 109, 110, 111, 112, 113, 114, 115, 116, 117, 118, 119, 120, 121, 122, 48, 49, 50, 51, 52, 53, 54, 55, 56, 57, 45]).length from by simp [F146, ByteArray.size]]
  rw [List.length_eq_zero_iff, trim_nil]
  constructor
  ·intro h b hb; rw [← cut_bytes]; exact h b hb
  ·intro h b hb; rw [cut_bytes]; exact h b hb
 have hb : allB s.size (fun i => !badN s i) = true ↔ (∀ b ∈ s.data.toList, nmB b.toNat = true) /\ 97 <= (s.data.toList.getD 0 0).toNat /\ (s.data.toList.getD 0 0).toNat <= 122 := by
  rw [allB_true]
  constructor
  ·intro h
   refine ⟨fun b hb => ?_, ?_⟩
   ·obtain ⟨i, hi, rfl⟩ := List.getElem_of_mem hb
    have := h i (by omega)
    rw [badN_eq, Bool.and_eq_true] at this
    rw [getD_el hi] at this
    exact this.1
   ·have := h 0 (by omega)
    rw [badN_eq] at this
    simp only [Bool.and_eq_true, Bool.or_eq_true, decide_eq_true_eq] at this
    rcases this.2 with h1 | h1
    ·omega
    ·exact h1
  ·rintro ⟨h1, h2, h3⟩ i hi
   rw [badN_eq]
   have hi' : i < s.data.toList.length := by omega
   rw [h1 _ (by rw [getD_el hi']; exact List.getElem_mem hi')]
   by_cases hz : i = 0
   ·subst hz; rw [dqt h2, dqt h3]; rfl
   ·simp; omega
 rw [hb, ← ht]
 cases hd : decide ((F146 s (ByteArray.mk (Array.mk [97, 98, 99, 100, 101, 102, 103, 104, 105, 106, 107, 108, 109, 110, 111, 112, 113, 114, 115, 116, 117, 118, 119, 120, 121, 122, 48, 49, 50, 51, 52, 53, 54, 55, 56, 57, 45]))).size = 0) with
 | false =>
   have := of_decide_eq_false hd
   simp [this]
 | true =>
   have := of_decide_eq_true hd
   simp only [cond_true, this, true_and]
   rw [show s.data.1.getD 0 0 = s.data.toList.getD 0 0 from rfl]
   generalize (s.data.toList.getD 0 0).toNat = b
   by_cases g : 97 <= b
   ·rw [dqt (show (97 : Int) <= (b : Int) by omega)]
    simp only [cond_true, decide_eq_true_eq]; omega
   ·rw [dqf (show ¬ (97 : Int) <= (b : Int) by omega)]
    simp; omega
end
noncomputable section
theorem pt_wild (x y : Int) : F113_0 x y = !ptOk x y := by unfold F113_0 ptOk; exact wild_placed _ _
theorem dup_eq (n : Nat) (f : Nat -> List V) (s : ByteArray) : F90_0 n f s = exB n fun k => (sv (hdV (f k))).toList == s.toList := by
 unfold F90_0 F129; rw [idx_geq]; rfl
theorem dupC_eq (n : Nat) (f : Nat -> List V) (s : ByteArray) : F121_0 n f s = exB n fun k => (sv (hdV (f k))).toList == s.toList := by
 unfold F121_0 F149; rw [idx_geq]; rfl
theorem far_eq (n : Nat) (f : Nat -> List V) : F115_0 n f = exB n fun i => !ptOk (jv0 (f i)) (jv1 (f i)) := by
 unfold F115_0 F147; rw [idx_geq]; exact exB_congr fun i _ => pt_wild _ _
theorem road_eq (n0 : Nat) (f0 : FnV) (i : Nat) : c62 n0 (elV tyR f0) i = cR n0 f0 i := by
 unfold c62 cR F63 F70 roadE
 rw [name_eq, dup_eq, far_eq]
 simp only [Int.toNat_natCast, Nat.sub_zero, Nat.zero_add, out_from, Bool.not_not]
 rfl
theorem tree_eq (n2 : Nat) (f2 : FnV) (i : Nat) : c64 n2 (elV tyT f2) i = cT f2 i := by
 show F65_0 (jv0 (f2 i)) (jv1 (f2 i)) (jv2 (f2 i)) (jv3 (f2 i)) (jv4 (f2 i)) = _
 unfold cT F65_0 treeE
 rw [wild_placed]
 show (bif !!ptOk _ _ then _ else _) = _
 generalize ptOk _ _ = p
 generalize jv2 (f2 i) = a
 generalize jv3 (f2 i) = z
 generalize jv4 (f2 i) = w
 cases p
 ·rfl
 ·simp only [Bool.not_true, Bool.not_false, cond_true]
  rw [out_from]
  cases ha : F86_0 a 1 20000
  ·simp only [Bool.not_false, Bool.not_true, cond_true, cond_false]
   by_cases hw : 1 <= w /\ w <= 1000
   ·have e : F86_0 w 1 1000 = false := by unfold F86_0; rw [dqf (by omega), cond_false]; exact dqf (by omega)
    rw [e, wrapI (by omega) (by omega)]
    unfold F86_0
    by_cases hz : z < 0
    ·rw [dqt hz]; rfl
    ·rw [dqf hz]
     by_cases hz2 : w <= z
     ·rw [dqt (show w - 1 < z by omega), dqt hz2]; rfl
     ·rw [dqf (show ¬ w - 1 < z by omega), dqf hz2, dqf (show ¬ 1000 < w by omega)]; rfl
   ·have e : F86_0 w 1 1000 = true := by
     unfold F86_0
     by_cases h1 : w < 1
     ·rw [dqt h1]; rfl
     ·rw [dqf h1, cond_false]; exact dqt (by omega)
    rw [e]
    have : (bif bif decide (z < 0) then true else decide (w <= z) then true else decide (1000 < w)) = true := by
     by_cases hz : z < 0
     ·rw [dqt hz]; rfl
     ·rw [dqf hz, cond_false]
      by_cases h2 : w <= z
      ·rw [dqt h2]; rfl
      ·rw [dqf h2, cond_false]; exact dqt (by omega)
    rw [this]
    cases !F86_0 z 0 (i64.wrap (w - 1)) <;> rfl
  ·rfl
theorem wnd_eq (x0 x1 x2 x3 : Int) : F118_0 x0 x1 x2 x3 = bif bif bif bif bif decide (x0 < 0) then true else decide (x1 <= x0) then true else decide (1000 < x1) then true else decide (x2 < 0) then true else decide (x3 <= x2) then true else decide (1000 < x3) := by
 have key : ∀ a b : Int, ((bif !F86_0 b 1 1000 then F86_0 a 0 (i64.wrap (b - 1)) else true) = true) ↔ (a < 0 ∨ b <= a ∨ 1000 < b) := by
  intro a b
  unfold F86_0
  by_cases h1 : b < 1
  ·rw [dqt h1]; simp; omega
  ·rw [dqf h1]
   by_cases h2 : 1000 < b
   ·rw [dqt h2]; simp; omega
   ·rw [dqf h2, wrapI (by omega) (by omega)]
    simp only [cond_false, Bool.not_false, cond_true, Bool.cond_eq_ite]
    split <;> simp_all <;> omega
 have e1 := key x0 x1
 have e2 := key x2 x3
 have : F118_0 x0 x1 x2 x3 = (bif !(bif !F86_0 x1 1 1000 then F86_0 x0 0 (i64.wrap (x1 - 1)) else true) then (bif !F86_0 x3 1 1000 then F86_0 x2 0 (i64.wrap (x3 - 1)) else true) else true) := by
  unfold F118_0
  cases F86_0 x1 1 1000 <;> cases F86_0 x0 0 (i64.wrap (x1 - 1)) <;> rfl
 rw [this]
 generalize (bif !F86_0 x1 1 1000 then F86_0 x0 0 (i64.wrap (x1 - 1)) else true) = p at e1 ⊢
 generalize (bif !F86_0 x3 1 1000 then F86_0 x2 0 (i64.wrap (x3 - 1)) else true) = q at e2 ⊢
 rw [Bool.eq_iff_iff]
 simp only [Bool.cond_eq_ite]
 cases p <;> cases q <;> simp_all <;> omega
theorem front_eq (n4 : Nat) (f4 : FnV) (i : Nat) : c66 n4 (elV tyF f4) i = cF f4 i := by
 show F67_0 (jv0 (f4 i)) (jv1 (f4 i)) (jv2 (f4 i)) (jv3 (f4 i)) (lenV (hdV (tlV (tlV (tlV (tlV (f4 i))))))) (fun j => views tp4 (atV (hdV (tlV (tlV (tlV (tlV (f4 i)))))) j)) = _
 unfold cF F67_0 F72
 rw [wild_placed]
 have : ∀ n (f : Nat -> List V), F119_0 n f = exB n fun j => badW (f j) := by
  intro n f
  unfold F119_0 F148; rw [idx_geq]
  exact exB_congr fun j _ => by rw [wnd_eq]; rfl
 rw [this]
 rfl
theorem colx (p q r t : Bool) (B : Int) : (bif p then bif !q then bif !r then bif t then 7 else B else 7 else 7 else 7) = (bif bif bif bif !p then true else q then true else r then true else t then 7 else B) := by
 cases p <;> cases q <;> cases r <;> cases t <;> rfl
theorem col_eq (n6 : Nat) (f6 : FnV) (i : Nat) : c68 n6 (elV tyC f6) i = cC n6 f6 i := by
 unfold c68 cC F69_0 F73
 rw [name_eq, dupC_eq, wild_placed]
 simp only [Int.toNat_natCast, Nat.sub_zero, Nat.zero_add]
 unfold colE
 simp only [out_from, Bool.not_not]
 rw [colx]
 rfl
theorem first_congr {n : Nat} {c d : Nat -> Int} (h : ∀ i, c i = d i) : firstI n c = firstI n d /\ firstE n c = firstE n d := by
 have : c = d := funext h
 rw [this]; exact ⟨rfl, rfl⟩
theorem check_eq (n0 : Nat) (f0 : FnV) (n2 : Nat) (f2 : FnV) (n4 : Nat) (f4 : FnV) (n6 : Nat) (f6 : FnV) :
 (F23_0 n0 f0 n2 f2 n4 f4 n6 f6, F23_1 n0 f0 n2 f2 n4 f4 n6 f6, F23_2 n0 f0 n2 f2 n4 f4 n6 f6) = F24 n0 f0 n2 f2 n4 f4 n6 f6 := by
 unfold F23_0 F23_1 F23_2 F24 long z1 z2 z3 r24 F62_0 F62_1 F64_0 F64_1 F66_0 F66_1 F68_0 F68_1
 rw [(first_congr (road_eq n0 f0)).1, (first_congr (road_eq n0 f0)).2, (first_congr (tree_eq n2 f2)).1, (first_congr (tree_eq n2 f2)).2, (first_congr (front_eq n4 f4)).1, (first_congr (front_eq n4 f4)).2, (first_congr (col_eq n6 f6)).1, (first_congr (col_eq n6 f6)).2]
 cases (bif bif bif decide (8 < (n0 : Int)) then true else decide (12 < (n2 : Int)) then true else decide (8 < (n4 : Int)) then true else decide (24 < (n6 : Int)))
 ·simp only [cond_false]
  cases h1 : firstE n0 (cR n0 f0) != 0
  ·simp only [cond_false]
   cases h2 : firstE n2 (cT f2) != 0
   ·simp only [cond_false]
    cases h3 : firstE n4 (cF f4) != 0
    ·simp only [cond_false]
     cases h4 : firstE n6 (cC n6 f6) != 0
     ·rfl
     ·rfl
    ·rfl
   ·rfl
  ·rfl
 ·rfl
end
noncomputable section
theorem elV2 (ts : List Ty) (f : Nat -> List V) : elV ts (elV ts f) = elV ts f := by
 funext i; exact views_idem ts _
theorem firstE_zero {n : Nat} {c : Nat -> Int} (h : firstE n c = 0) : ∀ i, i < n -> c i = 0 := by
 unfold firstE at h
 rcases idx_ex (n := n) (p := fun i => c i != 0) with ⟨_, h2⟩ | ⟨j, h1, h2, h3, _⟩
 ·intro i hi
  have := h2 i hi
  simpa using this
 ·rw [h2] at h
  have : ((j : Int) == -1) = false := by rw [beq_eq_false_iff_ne]; omega
  rw [this, cond_false, Int.toNat_natCast] at h
  rw [h] at h3; cases h3
section
variable {n0 : Nat} {f0 : Nat -> List V} {n2 : Nat} {f2 : Nat -> List V} {n4 : Nat} {f4 : Nat -> List V} {n6 : Nat} {f6 : Nat -> List V} {i j m l : Int}
structure Valid (n0 : Nat) (f0 : FnV) (n2 : Nat) (f2 : FnV) (n4 : Nat) (f4 : FnV) (n6 : Nat) (f6 : FnV) : Prop where
 l0 : n0 <= 8
 l2 : n2 <= 12
 l4 : n4 <= 8
 l6 : n6 <= 24
 rd : ∀ i, i < n0 -> cR n0 f0 i = 0
 tr : ∀ i, i < n2 -> cT f2 i = 0
 fr : ∀ i, i < n4 -> cF f4 i = 0
 cl : ∀ i, i < n6 -> cC n6 f6 i = 0
theorem r24_zero {n : Nat} {c : Nat -> Int} {k : Int} {z : Int × Int × Int} (h : (r24 n c k z).2.2 = 0) : (∀ i, i < n -> c i = 0) /\ z.2.2 = 0 := by
 unfold r24 at h
 cases hb : firstE n c != 0 with
 | true => rw [hb] at h; simp only [cond_true] at h; rw [h] at hb; cases hb
 | false =>
   rw [hb] at h
   exact ⟨firstE_zero (by simpa using hb), h⟩
theorem valid (h : F24_2 n0 f0 n2 f2 n4 f4 n6 f6 = 0) : Valid n0 f0 n2 f2 n4 f4 n6 f6 := by
 unfold F24_2 F24 at h
 cases hl : long n0 f0 n2 f2 n4 f4 n6 f6 with
 | true => rw [hl] at h; cases h
 | false =>
   rw [hl, cond_false] at h
   obtain ⟨h1, h⟩ := r24_zero h
   unfold z1 at h
   obtain ⟨h2, h⟩ := r24_zero h
   unfold z2 at h
   obtain ⟨h3, h⟩ := r24_zero h
   unfold z3 at h
   obtain ⟨h4, _⟩ := r24_zero h
   unfold long at hl
   simp only [Bool.cond_eq_ite, Bool.ite_eq_false_distrib] at hl
   have : n0 <= 8 /\ n2 <= 12 /\ n4 <= 8 /\ n6 <= 24 := by
    refine ⟨?_, ?_, ?_, ?_⟩ <;> (apply Classical.byContradiction; intro hn) <;> simp_all <;> omega
   exact ⟨this.1, this.2.1, this.2.2.1, this.2.2.2, h1, h2, h3, h4⟩
def bad1 (i m : Int) : Bool := bif decide (i < 0) then true else decide (m <= i)
def ix1 (e i m : Int) : Int := bif e == 0 then (bif bad1 i m then 4 else 0) else e
def ix2 (e i m j l : Int) : Int := bif e == 0 then (bif bif bad1 i m then true else bad1 j l then 4 else 0) else e
theorem F23_24 : F23_2 n0 f0 n2 f2 n4 f4 n6 f6 = F24_2 n0 f0 n2 f2 n4 f4 n6 f6 := congrArg (fun t => t.2.2) (check_eq n0 f0 n2 f2 n4 f4 n6 f6)
theorem out_bad {i : Int} {m : Nat} (hm : m <= 9223372036854775807) : F86_0 i 0 (i64.wrap ((m : Int) - 1)) = bad1 i m := by
 unfold F86_0 bad1
 rw [wrapI (by omega) (by omega)]
 by_cases h : i < 0
 ·rw [dqt h]; rfl
 ·rw [dqf h, cond_false, cond_false]
  by_cases g : (m : Int) <= i
  ·rw [dqt g]; exact dqt (by omega)
  ·rw [dqf g]; exact dqf (by omega)
theorem chk2 {i : Int} {m : Nat} (hm : F24_2 n0 (elV tyR f0) n2 (elV tyT f2) n4 (elV tyF f4) n6 (elV tyC f6) = 0 -> m <= 9223372036854775807) :
 F44 n0 (elV tyR f0) n2 (elV tyT f2) n4 (elV tyF f4) n6 (elV tyC f6) 2 (elV tp1 (secF [vi i, vi m] 0 1)) = ix1 (F24_2 n0 (elV tyR f0) n2 (elV tyT f2) n4 (elV tyF f4) n6 (elV tyC f6)) i m := by
 unfold F44 outs ix1
 simp only [elV2, F23_24]
 cases he : F24_2 n0 (elV tyR f0) n2 (elV tyT f2) n4 (elV tyF f4) n6 (elV tyC f6) == 0 with
 | false => rfl
 | true =>
   rw [cond_true, cond_true]
   have := hm (eq_of_beq he)
   rw [← out_bad this]
   show (bif !(true && !F86_0 i 0 (i64.wrap ((m : Int) - 1))) then _ else _) = _
   rw [Bool.true_and, Bool.not_not]
theorem chk4 {i j : Int} {m l : Nat} (hm : F24_2 n0 (elV tyR f0) n2 (elV tyT f2) n4 (elV tyF f4) n6 (elV tyC f6) = 0 -> m <= 9223372036854775807 /\ l <= 9223372036854775807) :
 F44 n0 (elV tyR f0) n2 (elV tyT f2) n4 (elV tyF f4) n6 (elV tyC f6) 4 (elV tp1 (secF [vi i, vi m, vi j, vi l] 0 1)) = ix2 (F24_2 n0 (elV tyR f0) n2 (elV tyT f2) n4 (elV tyF f4) n6 (elV tyC f6)) i m j l := by
 unfold F44 outs ix2
 simp only [elV2, F23_24]
 cases he : F24_2 n0 (elV tyR f0) n2 (elV tyT f2) n4 (elV tyF f4) n6 (elV tyC f6) == 0 with
 | false => rfl
 | true =>
   rw [cond_true, cond_true]
   have := hm (eq_of_beq he)
   rw [← out_bad this.1, ← out_bad this.2]
   show (bif !((true && !F86_0 i 0 (i64.wrap ((m : Int) - 1))) && !F86_0 j 0 (i64.wrap ((l : Int) - 1))) then _ else _) = _
   cases F86_0 i 0 (i64.wrap ((m : Int) - 1)) <;> cases F86_0 j 0 (i64.wrap ((l : Int) - 1)) <;> rfl
theorem chk50 {i m : Int} : F50_0 n0 (elV tyR f0) n2 (elV tyT f2) n4 (elV tyF f4) n6 (elV tyC f6) i m = ix1 (F24_2 n0 (elV tyR f0) n2 (elV tyT f2) n4 (elV tyF f4) n6 (elV tyC f6)) i m := by
 unfold F50_0 F91_0 ix1 bad1
 simp only [elV2]
 generalize F24_2 n0 (elV tyR f0) n2 (elV tyT f2) n4 (elV tyF f4) n6 (elV tyC f6) = e
 by_cases he : e = 0
 ·subst he
  cases (bif decide (i < 0) then true else decide (m <= i)) <;> rfl
 ·rw [show (e == 0) = false from by simpa using he]; rfl
end
end
noncomputable section
theorem from_in {a l h : Int} (hf : F71_0 a l h = true) : l <= a /\ a <= h := by
 unfold F71_0 at hf
 by_cases h1 : l <= a
 ·rw [dqt h1, cond_true] at hf; exact ⟨h1, of_decide_eq_true hf⟩
 ·rw [dqf h1] at hf; cases hf
theorem front_in {f4 : Nat -> List V} {i : Nat} (h : cF f4 i = 0) :
 (∀ x, x ∈ [jv0 (f4 i), jv1 (f4 i), jv2 (f4 i), jv3 (f4 i)] -> -100000 <= x /\ x <= 100000) /\ lenV (hdV (tlV (tlV (tlV (tlV (f4 i)))))) <= 6 /\ ∀ j, j < lenV (hdV (tlV (tlV (tlV (tlV (f4 i)))))) -> badW (views tp4 (atV (hdV (tlV (tlV (tlV (tlV (f4 i)))))) j)) = false := by
 unfold cF F72 at h
 generalize jv0 (f4 i) = a at h ⊢
 generalize jv1 (f4 i) = b at h ⊢
 generalize jv2 (f4 i) = c at h ⊢
 generalize jv3 (f4 i) = d at h ⊢
 generalize lenV (hdV (tlV (tlV (tlV (tlV (f4 i)))))) = n at h ⊢
 generalize hdV (tlV (tlV (tlV (tlV (f4 i))))) = w at h ⊢
 cases hp : F51 4 (elV tp1 (secF [V.int .i64 a, V.int .i64 b, V.int .i64 c, V.int .i64 d] 0 ((1 + 1 + 1 + 1 - 0) / 4))) with
 | false => rw [hp] at h; cases h
 | true =>
   rw [hp, Bool.not_true, cond_false] at h
   cases he : (a == c && (b == d && true)) with
   | true => rw [he] at h; cases h
   | false =>
     rw [he, cond_false] at h
     by_cases hn : 6 < (n : Int)
     ·rw [dqt hn] at h; cases h
     ·rw [dqf hn, cond_false] at h
      cases hw : exB n (fun j => badW (views tp4 (atV w j))) with
      | true => rw [hw] at h; cases h
      | false =>
        unfold F51 at hp
        have h0 := from_in (allB_ok hp 0 (by omega))
        have h1 := from_in (allB_ok hp 1 (by omega))
        have h2 := from_in (allB_ok hp 2 (by omega))
        have h3 := from_in (allB_ok hp 3 (by omega))
        refine ⟨fun x hx => ?_, by omega, fun j hj => ?_⟩
        ·simp only [List.mem_cons, List.not_mem_nil, or_false] at hx
         rcases hx with rfl | rfl | rfl | rfl
         ·exact h0
         ·exact h1
         ·exact h2
         ·exact h3
        ·cases hb : badW (views tp4 (atV w j)) with
         | false => rfl
         | true => rw [exB_true j hj hb] at hw; cases hw
end
noncomputable section
section
variable {ax ay bx b2 px py r : Int}
theorem sd_p (h1 : sm ax) (h2 : sm ay) (h3 : sm bx) (h4 : sm b2) (h5 : sm px) (h6 : sm py) : F127_0 (F84_0 bx ax) (F84_1 b2 ay) (F84_0 px ax) (F84_1 py ay) = sd ax ay bx b2 px py /\ -4611686018427387904 <= sd ax ay bx b2 px py /\ sd ax ay bx b2 px py <= 4611686018427387904 := by
 unfold sm at *
 unfold sd F127_0 F84_0 F84_1
 rw [wrapI (x := bx - ax) (by omega) (by omega), wrapI (x := b2 - ay) (by omega) (by omega), wrapI (x := px - ax) (by omega) (by omega), wrapI (x := py - ay) (by omega) (by omega)]
 have c1 := mulS (x := bx - ax) (y := py - ay) (A := 1073741824) (B := 1073741824) (by omega) (by omega) (by omega) (by omega)
 have c2 := mulS (x := b2 - ay) (y := px - ax) (A := 1073741824) (B := 1073741824) (by omega) (by omega) (by omega) (by omega)
 rw [wrapI (x := (bx - ax) * (py - ay)) (by omega) (by omega), wrapI (x := (b2 - ay) * (px - ax)) (by omega) (by omega), wrapI (by omega) (by omega)]
 exact ⟨rfl, by omega, by omega⟩
theorem sg_cases (n : Int) : (F144_0 n = 0 /\ n = 0) ∨ (F144_0 n = 1 /\ 0 < n) ∨ (F144_0 n = -1 /\ n < 0) := by unfold F144_0; omega
theorem btw_b (px py ax ay bx b2 : Int) : F171_0 px py ax ay bx b2 = true ↔ Btw px py ax ay bx b2 := by
 unfold F171_0 F71_0 Btw
 simp only [Bool.cond_eq_ite, decide_eq_true_eq]
 split <;> (try split) <;> simp_all <;> omega
theorem btw_f {px py ax ay bx b2 : Int} (h : ¬ Btw px py ax ay bx b2) : F171_0 px py ax ay bx b2 = false := by
 cases hb : F171_0 px py ax ay bx b2 with
 | false => rfl
 | true => exact (h ((btw_b _ _ _ _ _ _).1 hb)).elim
end
end
noncomputable section
theorem ix1_zero {e i m : Int} (h : ix1 e i m = 0) : e = 0 /\ 0 <= i /\ i < m := by
 unfold ix1 at h
 cases he : e == 0 with
 | false => rw [he, cond_false] at h; rw [h] at he; cases he
 | true =>
   rw [he, cond_true] at h
   refine ⟨eq_of_beq he, ?_⟩
   unfold bad1 at h
   by_cases h1 : i < 0
   ·rw [dqt h1] at h; cases h
   ·rw [dqf h1, cond_false] at h
    by_cases h2 : m <= i
    ·rw [dqt h2] at h; cases h
    ·omega
end
noncomputable section
section
variable {ax ay bx b2 w X0 Y0 X1 Y1 px py : Int}
def pl (x : Int) : Prop := -100000000 <= x /\ x <= 100000000
end
end
noncomputable section
theorem rough_eq (a b c d : Int) : F53_0 a b c d = !F58_0 a b c d := by
 unfold F53_0 F58_0
 rw [wild_placed]
 generalize F51 _ _ = p
 have e1 : decide (c < a) = !decide (a <= c) := by by_cases h : a <= c <;> simp [h] <;> omega
 have e2 : decide (d < b) = !decide (b <= d) := by by_cases h : b <= d <;> simp [h] <;> omega
 rw [e1, e2]
 generalize decide (a <= c) = q
 generalize decide (b <= d) = u
 cases p <;> cases q <;> cases u <;> rfl
theorem patch_in {a b c d : Int} (h : F58_0 a b c d = true) : (-100000 <= a /\ a <= 100000) /\ (-100000 <= b /\ b <= 100000) /\ (-100000 <= c /\ c <= 100000) /\ (-100000 <= d /\ d <= 100000) /\ a <= c /\ b <= d := by
 unfold F58_0 at h
 cases hp : F51 4 (elV tp1 (secF [vi a, vi b, vi c, vi d] 0 ((1 + 1 + 1 + 1 - 0) / 4))) with
 | false => rw [hp] at h; cases h
 | true =>
   rw [hp, cond_true] at h
   by_cases h1 : a <= c
   ·rw [dqt h1, cond_true] at h
    have h2 := of_decide_eq_true h
    unfold F51 at hp
    exact ⟨from_in (allB_ok hp 0 (by omega)), from_in (allB_ok hp 1 (by omega)), from_in (allB_ok hp 2 (by omega)), from_in (allB_ok hp 3 (by omega)), h1, h2⟩
   ·rw [dqf h1] at h; cases h
theorem pt_in {x y : Int} (h : ptOk x y = true) : (-100000 <= x /\ x <= 100000) /\ (-100000 <= y /\ y <= 100000) := by
 unfold ptOk F51 at h
 exact ⟨from_in (allB_ok h 0 (by omega)), from_in (allB_ok h 1 (by omega))⟩
structure RoadIn (n : Nat) (f : Nat -> List V) (w : Int) : Prop where
 two : 2 <= n
 eight : n <= 8
 pts : ∀ j, j < n -> (-100000 <= jv0 (f j) /\ jv0 (f j) <= 100000) /\ (-100000 <= jv1 (f j) /\ jv1 (f j) <= 100000)
 adj : ∀ j, j + 1 < n -> eqP f (j + 1) j = false
 w1 : 100 <= w
 w2 : w <= 30000
theorem road_in {n0 : Nat} {f0 : Nat -> List V} {i : Nat} (h : cR n0 f0 i = 0) : RoadIn (lenV (hdV (tlV (tlV (f0 i))))) (fun j => views tp2 (atV (hdV (tlV (tlV (f0 i)))) j)) (jv3 (f0 i)) := by
 have h' : F70 n0 (elV tyR f0) (i : Int) = 0 := h
 unfold F70 at h'
 simp only [Int.toNat_natCast] at h'
 cases hn : F122 (sv (hdV (elV tyR f0 i))) with
 | false => rw [hn] at h'; cases h'
 | true =>
   rw [hn, Bool.not_true, cond_false] at h'
   cases hd : exB i (fun k => (sv (hdV (elV tyR f0 k))).toList == (sv (hdV (elV tyR f0 i))).toList) with
   | true => rw [hd] at h'; cases h'
   | false =>
     rw [hd, cond_false] at h'
     have h2 : roadE (jv1 (f0 i)) (lenV (hdV (tlV (tlV (f0 i))))) (fun j => views tp2 (atV (hdV (tlV (tlV (f0 i)))) j)) (jv3 (f0 i)) = 0 := h'
     unfold roadE at h2
     generalize (fun j => views tp2 (atV (hdV (tlV (tlV (f0 i)))) j)) = f at h2 ⊢
     generalize lenV (hdV (tlV (tlV (f0 i)))) = n at h2 ⊢
     generalize jv3 (f0 i) = w at h2 ⊢
     generalize jv1 (f0 i) = k at h2
     cases h3 : F71_0 k 0 3 with
     | false => rw [h3] at h2; cases h2
     | true =>
       rw [h3, Bool.not_true, cond_false] at h2
       by_cases h4 : (n : Int) < 2
       ·rw [dqt h4] at h2; cases h2
       ·rw [dqf h4, cond_false] at h2
        by_cases h5 : 8 < (n : Int)
        ·rw [dqt h5] at h2; cases h2
        ·rw [dqf h5, cond_false] at h2
         cases h6 : exB n (fun i => !ptOk (jv0 (f i)) (jv1 (f i))) with
         | true => rw [h6] at h2; cases h2
         | false =>
           rw [h6, cond_false] at h2
           cases h7 : F71_0 w 100 30000 with
           | false => rw [h7] at h2; cases h2
           | true =>
             rw [h7, Bool.not_true, cond_false] at h2
             cases h8 : adjP n f with
             | true => rw [h8] at h2; cases h2
             | false =>
               have hw := from_in h7
               refine ⟨by omega, by omega, fun j hj => ?_, fun j hj => ?_, hw.1, hw.2⟩
               ·apply pt_in
                cases hp : ptOk (jv0 (f j)) (jv1 (f j)) with
                | true => rfl
                | false => rw [exB_true j hj (by rw [hp]; rfl)] at h6; cases h6
               ·cases hp : eqP f (j + 1) j with
                | false => rfl
                | true =>
                  unfold adjP at h8
                  rw [exB_true (j + 1) hj (by rw [Nat.add_sub_cancel, hp]; simp)] at h8; cases h8
end
end Go.Dx
namespace Go.Dx
open Go.IntKind (i64 u64 u8)
open Go.Sx Go.Proofs
noncomputable section
def ctB24 : CTab := (19, .con C19) :: ctB17
theorem tabB24 : TabOk Tryz.prog eqs its ctB24 := .con ok19 (tabB17)
end
noncomputable section
def ctB28 : CTab := [(19, .con C19), (22, .con C22), (15, .con C15), (55, .con C55), (61, .con C61), (108, .con C108), (46, .con C46), (111, .con C111), (56, .con C56), (47, .con C47), (145, .con C145), (140, .con C140), (49, .con C49), (52, .con C52), (123, .con C123), (50, .con C50), (44, .con C44), (91, .con C91), (24, .con C24), (23, .con C23), (70, .con C70), (62, .con C62), (68, .con C68), (63, .con C63), (69, .con C69), (117, .inl s117 u0), (116, .inl s116 u0), (115, .con C115), (114, .con C114), (73, .con C73), (147, .con C147), (64, .con C64), (66, .con C66), (113, .con C113), (65, .con C65), (67, .con C67), (53, .con C53), (58, .con C58), (122, .con C122), (72, .con C72), (45, .con C45), (90, .con C90), (119, .con C119), (121, .con C121), (99, .con C99), (129, .con C129), (148, .con C148), (149, .con C149), (112, .con C112), (118, .con C118), (120, .con C120), (51, .con C51), (133, .con C133), (103, .con C103), (106, .con C106), (110, .con C110), (100, .con C100), (134, .con C134), (135, .con C135), (137, .con C137), (138, .con C138), (78, .con C78), (54, .con C54), (59, .con C59), (48, .con C48), (102, .con C102), (104, .con C104), (105, .con C105), (107, .con C107), (171, .con C171), (84, .con C84), (85, .con C85), (127, .con C127), (101, .con C101), (86, .con C86), (71, .con C71), (93, .con C93), (92, .con C92), (79, .con C79), (136, .con C136), (144, .con C144), (162, .con C162), (146, .con C146), (83, .inl s83 u0), (161, .inl s161 u0)]
theorem tabB28 : TabOk Tryz.prog eqs its ctB28 := .con ok19 (.con ok22 (.con ok15 (.con ok55 (.con ok61 (.con ok108 (.con ok46 (.con ok111 (.con ok56 (.con ok47 (.con ok145 (.con ok140 (.con ok49 (.con ok52 (.con ok123 (.con ok50 (.con ok44 (.con ok91 (.con ok24 (.con ok23 (.con ok70 (.con ok62 (.con ok68 (.con ok63 (.con ok69 (.inl Tryz.func117 (by kernel_rfl) (by kernel_rfl) (by kernel_rfl) (.inl Tryz.func116 (by kernel_rfl) (by kernel_rfl) (by kernel_rfl) (.con ok115 (.con ok114 (.con ok73 (.con ok147 (.con ok64 (.con ok66 (.con ok113 (.con ok65 (.con ok67 (.con ok53 (.con ok58 (.con ok122 (.con ok72 (.con ok45 (.con ok90 (.con ok119 (.con ok121 (.con ok99 (.con ok129 (.con ok148 (.con ok149 (.con ok112 (.con ok118 (.con ok120 (.con ok51 (.con ok133 (.con ok103 (.con ok106 (.con ok110 (.con ok100 (.con ok134 (.con ok135 (.con ok137 (.con ok138 (.con ok78 (.con ok54 (.con ok59 (.con ok48 (.con ok102 (.con ok104 (.con ok105 (.con ok107 (.con ok171 (.con ok84 (.con ok85 (.con ok127 (.con ok101 (.con ok86 (.con ok71 (.con ok93 (.con ok92 (.con ok79 (.con ok136 (.con ok144 (.con ok162 (.con ok146 (.inl Tryz.func83 (by kernel_rfl) (by kernel_rfl) (by kernel_rfl) (.inl Tryz.func161 (by kernel_rfl) (by kernel_rfl) (by kernel_rfl) (.nil)))))))))))))))))))))))))))))))))))))))))))))))))))))))))))))))))))))))))))))))))))))
def P131 : List V -> Prop
 | [.int _ x] => x = 8
 | _ => False
def C131 : PCon := mkC [.int .u64] P131 fun _ => .int .i64 4
theorem n131 {w0 : World} : sat (LPof w0 (SV ctB28)) (runL JJ ctB28 u0 s131 [.int .u64 8]) (topQ (.int .i64 4)) := run_norm (by kernel_rfl)
theorem ok131 : (vP C131).Ok Tryz.prog 131 := mkE (un := u0) tabB28 Tryz.func131 (by kernel_rfl) fun ds hp => by
 have hp' : jv0 ds = 8 := hp
 intro hd w0
 show sat _ (runL JJ ctB28 u0 s131 [.int .u64 (jv0 ds)]) _
 rw [hp']
 exact n131
def Q131 : List V -> Bool
 | [.int _ x] => decide (x = 8)
 | _ => false
def CB131 : PCon := mkCB [.int .u64] Q131 fun _ => .int .i64 4
theorem okB131 : (vP CB131).Ok Tryz.prog 131 := mkCB_ok (pre := P131) (fun ds h => by
 unfold Q131 at h
 split at h
 ·rename_i x; exact (show x = 8 from of_decide_eq_true h)
 ·cases h) ok131
end
end Go.Dx
namespace Go.Dx
theorem vf_if {ts : List Ty} (h : ts.all isCellTy = true) {n : Nat} {p : Nat -> Bool} {ds : List V} {f : Nat -> List V} (h1 : VFok ts n f) (hf : fitVs [] (views ts ds) ds = views ts ds) : VFok ts n fun i => cond (p i) ds (f i) := fun i hi => by
 show okE _ (views ts (cond (p i) ds (f i))) = true /\ subVs [] (cond (p i) ds (f i)) (views ts (cond (p i) ds (f i)))
 cases p i with
 | true => exact ⟨okE_views h _, fitVs_ok _ _ hf⟩
 | false => exact h1 i hi
theorem sq0 (x : Int) : 0 <= x * x := by
 rcases Int.le_total 0 x with h | h
 ·exact imn h h
 ·have := imn (show 0 <= -x by omega) (show 0 <= -x by omega)
  rwa [Int.neg_mul_neg] at this
theorem cancel {k a b : Int} (hk : 0 < k) (h : k * a <= k * b) : a <= b := Int.le_of_mul_le_mul_left h hk
theorem cancel2 {k a b : Int} (hk : 0 < k) (h : k * k * a <= k * k * b) : a <= b := cancel (Int.mul_pos hk hk) h
def q2 (x y : Int) : Int := x * x + y * y
theorem q2_0 (x y : Int) : 0 <= q2 x y := by unfold q2; have := sq0 x; have := sq0 y; omega
theorem q2_mul (k x y : Int) : q2 (k * x) (k * y) = k * k * q2 x y := by unfold q2; grind
def At (ax ay bx b2 px py k r n m : Int) : Prop := 0 <= n /\ n <= m /\ 0 < m /\ q2 (m * px - k * ((m - n) * ax + n * bx)) (m * py - k * ((m - n) * ay + n * b2)) <= (m * k * r) * (m * k * r)
def Nq (ax ay bx b2 px py k r : Int) : Prop := ∃ n m, At ax ay bx b2 px py k r n m
section
variable {ax ay bx b2 px py r n m k : Int}
theorem nr_of (hr : 0 <= r) (h : Nq ax ay bx b2 px py 1 r) : nr ax ay bx b2 px py r = true := by
 obtain ⟨n, m, h1, h2, h3, h4⟩ := h
 rw [Int.mul_one] at h4
 have ex : m * px - 1 * ((m - n) * ax + n * bx) = m * (px - ax) - n * (bx - ax) := by grind
 have ey : m * py - 1 * ((m - n) * ay + n * b2) = m * (py - ay) - n * (b2 - ay) := by grind
 rw [ex, ey] at h4
 unfold nr
 have e1 : px - bx = (px - ax) - (bx - ax) := by omega
 have e2 : py - b2 = (py - ay) - (b2 - ay) := by omega
 rw [e1, e2]
 generalize px - ax = ux at *
 generalize py - ay = uy at *
 generalize bx - ax = dx at *
 generalize b2 - ay = dy at *
 have hmn := imn (Int.le_of_lt h3) h1
 have hR : (m * r) * (m * r) = m * m * (r * r) := by grind
 by_cases c1 : ux * dx + uy * dy <= 0
 ·rw [dqt c1, cond_true]
  refine dqt (cancel2 h3 ?_)
  have e : q2 (m * ux - n * dx) (m * uy - n * dy) = m * m * (ux * ux + uy * uy) + n * n * q2 dx dy - 2 * (m * n * (ux * dx + uy * dy)) := by unfold q2; grind
  have k1 := imn (sq0 n) (q2_0 dx dy)
  have k2 := imn hmn (show 0 <= -(ux * dx + uy * dy) by omega)
  rw [Int.mul_neg] at k2
  omega
 ·rw [dqf c1, cond_false]
  by_cases c2 : dx * dx + dy * dy <= ux * dx + uy * dy
  ·rw [dqt c2, cond_true]
   refine dqt (cancel2 h3 ?_)
   have e : q2 (m * ux - n * dx) (m * uy - n * dy) = m * m * ((ux - dx) * (ux - dx) + (uy - dy) * (uy - dy)) + (m - n) * (m - n) * q2 dx dy + 2 * (m * (m - n) * ((ux * dx + uy * dy) - (dx * dx + dy * dy))) := by unfold q2; grind
   have k1 := imn (sq0 (m - n)) (q2_0 dx dy)
   have k2 := imn (imn (Int.le_of_lt h3) (show 0 <= m - n by omega)) (show 0 <= (ux * dx + uy * dy) - (dx * dx + dy * dy) by omega)
   omega
  ·rw [dqf c2, cond_false]
   refine dqt (cancel2 h3 ?_)
   have e : q2 dx dy * q2 (m * ux - n * dx) (m * uy - n * dy) = m * m * ((dx * uy - dy * ux) * (dx * uy - dy * ux)) + (dx * (m * ux - n * dx) + dy * (m * uy - n * dy)) * (dx * (m * ux - n * dx) + dy * (m * uy - n * dy)) := by unfold q2; grind
   have k1 := sq0 (dx * (m * ux - n * dx) + dy * (m * uy - n * dy))
   have k2 := iml h4 (q2_0 dx dy)
   have e3 : q2 dx dy * (m * r * (m * r)) = m * m * (r * r * (dx * dx + dy * dy)) := by unfold q2; grind
   omega
theorem nr_ex (hr : 0 <= r) (h : nr ax ay bx b2 px py r = true) : Nq ax ay bx b2 px py 1 r := by
 unfold nr at h
 by_cases c1 : (px - ax) * (bx - ax) + (py - ay) * (b2 - ay) <= 0
 ·rw [dqt c1, cond_true] at h
  have h := of_decide_eq_true h
  refine ⟨0, 1, by omega, by omega, by omega, ?_⟩
  have e : q2 (1 * px - 1 * ((1 - 0) * ax + 0 * bx)) (1 * py - 1 * ((1 - 0) * ay + 0 * b2)) = (px - ax) * (px - ax) + (py - ay) * (py - ay) := by unfold q2; grind
  rw [e, Int.one_mul, Int.one_mul]; exact h
 ·rw [dqf c1, cond_false] at h
  by_cases c2 : (bx - ax) * (bx - ax) + (b2 - ay) * (b2 - ay) <= (px - ax) * (bx - ax) + (py - ay) * (b2 - ay)
  ·rw [dqt c2, cond_true] at h
   have h := of_decide_eq_true h
   refine ⟨1, 1, by omega, by omega, by omega, ?_⟩
   have e : q2 (1 * px - 1 * ((1 - 1) * ax + 1 * bx)) (1 * py - 1 * ((1 - 1) * ay + 1 * b2)) = (px - bx) * (px - bx) + (py - b2) * (py - b2) := by unfold q2; grind
   rw [e, Int.one_mul, Int.one_mul]; exact h
  ·rw [dqf c2, cond_false] at h
   have h := of_decide_eq_true h
   refine ⟨(px - ax) * (bx - ax) + (py - ay) * (b2 - ay), (bx - ax) * (bx - ax) + (b2 - ay) * (b2 - ay), by omega, by omega, by omega, ?_⟩
   have ex : ((bx - ax) * (bx - ax) + (b2 - ay) * (b2 - ay)) * px - 1 * (((bx - ax) * (bx - ax) + (b2 - ay) * (b2 - ay) - ((px - ax) * (bx - ax) + (py - ay) * (b2 - ay))) * ax + ((px - ax) * (bx - ax) + (py - ay) * (b2 - ay)) * bx) = ((bx - ax) * (bx - ax) + (b2 - ay) * (b2 - ay)) * (px - ax) - ((px - ax) * (bx - ax) + (py - ay) * (b2 - ay)) * (bx - ax) := by grind
   have ey : ((bx - ax) * (bx - ax) + (b2 - ay) * (b2 - ay)) * py - 1 * (((bx - ax) * (bx - ax) + (b2 - ay) * (b2 - ay) - ((px - ax) * (bx - ax) + (py - ay) * (b2 - ay))) * ay + ((px - ax) * (bx - ax) + (py - ay) * (b2 - ay)) * b2) = ((bx - ax) * (bx - ax) + (b2 - ay) * (b2 - ay)) * (py - ay) - ((px - ax) * (bx - ax) + (py - ay) * (b2 - ay)) * (b2 - ay) := by grind
   rw [ex, ey]
   clear ex ey
   generalize px - ax = ux at *
   generalize py - ay = uy at *
   generalize bx - ax = dx at *
   generalize b2 - ay = dy at *
   have e : q2 ((dx * dx + dy * dy) * ux - (ux * dx + uy * dy) * dx) ((dx * dx + dy * dy) * uy - (ux * dx + uy * dy) * dy) = (dx * dx + dy * dy) * ((dx * uy - dy * ux) * (dx * uy - dy * ux)) := by unfold q2; grind
   rw [e, Int.mul_one]
   have k1 := iml h (show 0 <= dx * dx + dy * dy by omega)
   have e2 : (dx * dx + dy * dy) * r * ((dx * dx + dy * dy) * r) = (dx * dx + dy * dy) * (r * r * (dx * dx + dy * dy)) := by grind
   omega
theorem nr_iff (hr : 0 <= r) : nr ax ay bx b2 px py r = true ↔ Nq ax ay bx b2 px py 1 r := ⟨nr_ex hr, nr_of hr⟩
end
noncomputable section
end
abbrev P2 := Int × Int
def sdp (a b p : P2) : Int := sd a.1 a.2 b.1 b.2 p.1 p.2
def ltP (a b : P2) : Prop := a.1 < b.1 ∨ (a.1 = b.1 /\ a.2 < b.2)
def leP (a b : P2) : Prop := a.1 < b.1 ∨ (a.1 = b.1 /\ a.2 <= b.2)
def Pv (x y : Int) : Prop := 0 < x ∨ (x = 0 /\ 0 < y)
theorem pos_cancel {k a : Int} (hk : 0 < k) (h : 0 < k * a) : 0 < a := by
 apply Classical.byContradiction; intro hn
 have := imn (Int.le_of_lt hk) (show 0 <= -a by omega)
 rw [Int.mul_neg] at this; omega
section
variable {ux uy vx vy wx wy : Int}
theorem crT (hu : Pv ux uy) (hv : Pv vx vy) (hw : Pv wx wy) (h1 : 0 <= ux * vy - uy * vx) (h2 : 0 <= vx * wy - vy * wx) : 0 <= ux * wy - uy * wx := by
 unfold Pv at *
 rcases hv with hv | ⟨rfl, hv⟩
 ·have e : vx * (ux * wy - uy * wx) = wx * (ux * vy - uy * vx) + ux * (vx * wy - vy * wx) := by grind
  have k1 := imn (show 0 <= wx by omega) h1
  have k2 := imn (show 0 <= ux by omega) h2
  exact cancel hv (by rw [Int.mul_zero]; omega)
 ·have k3 : 0 <= vy * wx := imn (by omega) (by omega)
  have : wx = 0 := by
   rcases Int.mul_eq_zero.1 (show vy * wx = 0 by omega) with h | h <;> omega
  subst this
  have := imn (show 0 <= ux by omega) (show 0 <= wy by omega)
  omega
theorem crS (hu : Pv ux uy) (hv : Pv vx vy) (hw : Pv wx wy) (h1 : 0 < ux * vy - uy * vx) (h2 : 0 < vx * wy - vy * wx) : 0 < ux * wy - uy * wx := by
 unfold Pv at *
 rcases hv with hv | ⟨rfl, hv⟩
 ·have e : vx * (ux * wy - uy * wx) = wx * (ux * vy - uy * vx) + ux * (vx * wy - vy * wx) := by grind
  have k1 := imn (show 0 <= wx by omega) (Int.le_of_lt h1)
  have k2 := imn (show 0 <= ux by omega) (Int.le_of_lt h2)
  by_cases hz : wx = 0 /\ ux = 0
  ·obtain ⟨rfl, rfl⟩ := hz
   have := imn (show 0 <= uy by omega) (Int.le_of_lt hv)
   omega
  ·refine pos_cancel hv ?_
   rcases (show 0 < wx ∨ 0 < ux by omega) with h | h
   ·have := Int.mul_pos h h1; omega
   ·have := Int.mul_pos h h2; omega
 ·have k3 : 0 <= vy * wx := imn (by omega) (by omega)
  omega
end
section
variable {a b c p q t a' : P2}
theorem pv_of (h : ltP a b) : Pv (b.1 - a.1) (b.2 - a.2) := by unfold ltP at h; unfold Pv; omega
theorem ltP_trans (h1 : ltP a b) (h2 : ltP b c) : ltP a c := by unfold ltP at *; omega
theorem ltP_le (h1 : ltP a b) (h2 : leP b c) : ltP a c := by unfold ltP leP at *; omega
theorem leP_lt (h1 : leP a b) (h2 : ltP b c) : ltP a c := by unfold ltP leP at *; omega
theorem leP_of (h1 : ltP a b) : leP a b := by unfold ltP leP at *; omega
theorem leP_refl (a : P2) : leP a a := by unfold leP; omega
theorem ltP_irr (a : P2) : ¬ ltP a a := by unfold ltP; omega
theorem ltP_tri (a b : P2) : ltP a b ∨ a = b ∨ ltP b a := by
 by_cases h : a.1 = b.1 /\ a.2 = b.2
 ·exact .inr (.inl (Prod.ext h.1 h.2))
 ·unfold ltP; omega
theorem leP_eq (h1 : leP a b) (h2 : leP b a) : a = b := by
 unfold leP at *; exact Prod.ext (by omega) (by omega)
theorem sdp_0 (a b : P2) : sdp a b a = 0 := by unfold sdp sd; grind
theorem sdp_1 (a b : P2) : sdp a b b = 0 := by unfold sdp sd; grind
theorem sdp_2 (a b : P2) : sdp a a b = 0 := by unfold sdp sd; grind
theorem sdp_neg (a b p : P2) : sdp b a p = -sdp a b p := by unfold sdp sd; grind
theorem t_above (h1 : ltP a t) (h2 : ltP a q) (h3 : ltP a p) (h4 : 0 <= sdp a t q) (h5 : sdp a t p <= 0) : 0 <= sdp a p q := by
 have k := crT (pv_of h3) (pv_of h1) (pv_of h2) (by unfold sdp sd at h5; grind) (by unfold sdp sd at h4; grind)
 unfold sdp sd; exact k
theorem t_below (h1 : ltP a b) (h2 : ltP q b) (h3 : ltP b p) (h4 : 0 <= sdp a b q) (h5 : 0 < sdp a b p) : 0 <= sdp b p q := by
 have e4 : sdp a b q = (b.1 - q.1) * (b.2 - a.2) - (b.2 - q.2) * (b.1 - a.1) := by unfold sdp sd; grind
 have e5 : sdp a b p = (b.1 - a.1) * (p.2 - b.2) - (b.2 - a.2) * (p.1 - b.1) := by unfold sdp sd; grind
 have e6 : sdp b p q = (b.1 - q.1) * (p.2 - b.2) - (b.2 - q.2) * (p.1 - b.1) := by unfold sdp sd; grind
 rw [e4] at h4; rw [e5] at h5; rw [e6]
 exact crT (pv_of h2) (pv_of h1) (pv_of h3) h4 (Int.le_of_lt h5)
theorem t_ext (h1 : ltP a' a) (h2 : ltP a b) (h3 : ltP b p) (h4 : 0 < sdp a' a b) (h5 : 0 < sdp a b p) : 0 < sdp a' a p := by
 have e4 : sdp a' a b = (a.1 - a'.1) * (b.2 - a.2) - (a.2 - a'.2) * (b.1 - a.1) := by unfold sdp sd; grind
 have e5 : sdp a b p = (b.1 - a.1) * (p.2 - b.2) - (b.2 - a.2) * (p.1 - b.1) := by unfold sdp sd; grind
 have e6 : sdp a' a p = sdp a' a b + ((a.1 - a'.1) * (p.2 - b.2) - (a.2 - a'.2) * (p.1 - b.1)) := by unfold sdp sd; grind
 rw [e6]
 have := crS (pv_of h1) (pv_of h2) (pv_of h3) (by rw [← e4]; exact h4) (by rw [← e5]; exact h5)
 omega
end
def popS (p : P2) : List P2 -> List P2
 | b :: a :: l => bif decide (sdp a b p <= 0) then popS p (a :: l) else b :: a :: l
 | l => l
def chainS : List P2 -> List P2 -> List P2
 | st, [] => st
 | st, p :: l => chainS (p :: popS p st) l
def Ch (D : P2 -> Prop) : List P2 -> Prop
 | [] => False
 | [s] => D s /\ ∀ q, D q -> leP s q
 | b :: a :: l => ltP a b /\ D b /\ (∀ q, D q -> 0 <= sdp a b q) /\ (∀ c, l.head? = some c -> 0 < sdp c a b) /\ Ch D (a :: l)
theorem Ch.cong {D D' : P2 -> Prop} (h : ∀ q, D q ↔ D' q) {l : List P2} (hc : Ch D l) : Ch D' l := by
 rwa [show D' = D from funext fun q => propext (h q).symm]
theorem ch_ext {D : P2 -> Prop} {p : P2} (hp : ∀ q, D q -> ltP q p) : ∀ (l : List P2) (a b : P2), Ch D (b :: a :: l) -> 0 < sdp a b p -> Ch (fun q => D q ∨ q = p) (b :: a :: l)
 | [], a, b, h, h2 => by
   obtain ⟨h3, h4, h5, h6, h7, h8⟩ := h
   refine ⟨h3, .inl h4, ?_, h6, .inl h7, ?_⟩
   ·rintro q (hq | rfl)
    ·exact h5 q hq
    ·exact Int.le_of_lt h2
   ·rintro q (hq | rfl)
    ·exact h8 q hq
    ·exact leP_of (hp _ h7)
 | c :: l, a, b, h, h2 => by
   obtain ⟨h3, h4, h5, h6, h7⟩ := h
   refine ⟨h3, .inl h4, ?_, h6, ?_⟩
   ·rintro q (hq | rfl)
    ·exact h5 q hq
    ·exact Int.le_of_lt h2
   ·exact ch_ext hp l c a h7 (t_ext h7.1 h3 (hp _ h4) (h6 c rfl) h2)
theorem ch_pop {D : P2 -> Prop} {p : P2} (hp : ∀ q, D q -> ltP q p) : ∀ (l : List P2) (t : P2), Ch D (t :: l) -> (∀ q, D q -> ltP t q -> 0 <= sdp t p q) -> Ch (fun q => D q ∨ q = p) (p :: popS p (t :: l))
 | [], t, h, h2 => by
   obtain ⟨h3, h4⟩ := h
   refine ⟨hp _ h3, .inr rfl, ?_, (fun c hc => by cases hc), .inl h3, ?_⟩
   ·rintro q (hq | rfl)
    ·rcases ltP_tri t q with k | rfl | k
     ·exact h2 q hq k
     ·rw [sdp_0]; omega
     ·exact (ltP_irr _ (leP_lt (h4 q hq) k)).elim
    ·rw [sdp_1]; omega
   ·rintro q (hq | rfl)
    ·exact h4 q hq
    ·exact leP_of (hp _ h3)
 | a :: l, t, h, h2 => by
   have h' := h
   obtain ⟨h3, h4, h5, h6, h7⟩ := h
   have ha : D a := by cases l with
    | nil => exact h7.1
    | cons c l => exact h7.2.1
   unfold popS
   by_cases hs : sdp a t p <= 0
   ·rw [dqt hs, cond_true]
    exact ch_pop hp l a h7 fun q hq hlt => t_above h3 hlt (hp _ ha) (h5 q hq) hs
   ·rw [dqf hs, cond_false]
    refine ⟨hp _ h4, .inr rfl, ?_, ?_, ch_ext hp l a t h' (by omega)⟩
    ·rintro q (hq | rfl)
     ·rcases ltP_tri t q with k | rfl | k
      ·exact h2 q hq k
      ·rw [sdp_0]; omega
      ·exact t_below h3 k (hp _ h4) (h5 q hq) (by omega)
     ·rw [sdp_1]; omega
    ·intro c hc
     simp only [List.head?_cons, Option.some.injEq] at hc
     subst hc; omega
theorem ch_chain : ∀ (l : List P2) (D : P2 -> Prop) (t : P2) (st : List P2), Ch D (t :: st) -> (∀ q, D q -> leP q t) -> (∀ p ∈ l, ltP t p) -> l.Pairwise ltP ->
 ∃ z r, chainS (t :: st) l = z :: r /\ Ch (fun q => D q ∨ q ∈ l) (z :: r) /\ ∀ q, (D q ∨ q ∈ l) -> leP q z
 | [], D, t, st, h1, h2, _, _ => ⟨t, st, rfl, h1.cong (by simp), by simpa using h2⟩
 | p :: l, D, t, st, h1, h2, h3, h4 => by
   have hp : ∀ q, D q -> ltP q p := fun q hq => leP_lt (h2 q hq) (h3 p (by simp))
   have k := ch_pop hp st t h1 fun q hq hlt => (ltP_irr _ (leP_lt (h2 q hq) hlt)).elim
   rw [List.pairwise_cons] at h4
   obtain ⟨z, r, e, hc, hz⟩ := ch_chain l _ p _ k (fun q hq => by
    rcases hq with hq | rfl
    ·exact leP_of (hp q hq)
    ·exact leP_refl _) h4.1 h4.2
   refine ⟨z, r, e, hc.cong fun q => ?_, fun q hq => hz q ?_⟩
   ·simp only [List.mem_cons]; constructor
    ·rintro ((h | h) | h)
     ·exact .inl h
     ·exact .inr (.inl h)
     ·exact .inr (.inr h)
    ·rintro (h | h | h)
     ·exact .inl (.inl h)
     ·exact .inl (.inr h)
     ·exact .inr h
   ·simp only [List.mem_cons] at hq
    rcases hq with h | h | h
    ·exact .inl (.inl h)
    ·exact .inl (.inr h)
    ·exact .inr h
theorem ch_all {m : P2} {l : List P2} (h : (m :: l).Pairwise ltP) : ∃ z r, chainS [] (m :: l) = z :: r /\ Ch (fun q => q ∈ m :: l) (z :: r) /\ ∀ q, q ∈ m :: l -> leP q z := by
 rw [List.pairwise_cons] at h
 obtain ⟨z, r, e, hc, hz⟩ := ch_chain l (fun q => q = m) m [] ⟨rfl, fun q hq => by rw [hq]; exact leP_refl _⟩ (fun q hq => by rw [hq]; exact leP_refl _) h.1 h.2
 exact ⟨z, r, e, hc.cong (by simp), fun q hq => hz q (by simpa using hq)⟩
def Adj : List P2 -> P2 -> P2 -> Prop
 | b :: a :: l, x, y => (x = a /\ y = b) ∨ Adj (a :: l) x y
 | _, _, _ => False
def botS : List P2 -> P2
 | [] => (0, 0)
 | [s] => s
 | _ :: a :: l => botS (a :: l)
section
variable {D : P2 -> Prop}
theorem ch_mem : ∀ {st : List P2}, Ch D st -> ∀ q ∈ st, D q
 | [s], h, q, hq => by simp at hq; subst hq; exact h.1
 | b :: a :: l, h, q, hq => by
   rcases List.mem_cons.1 hq with rfl | hq
   ·exact h.2.1
   ·exact ch_mem h.2.2.2.2 q hq
theorem adj_mem : ∀ {st : List P2} {x y : P2}, Adj st x y -> x ∈ st /\ y ∈ st
 | b :: a :: l, x, y, h => by
   rcases h with ⟨rfl, rfl⟩ | h
   ·simp
   ·have := adj_mem h
    exact ⟨List.mem_cons_of_mem _ this.1, List.mem_cons_of_mem _ this.2⟩
theorem adj_edge : ∀ {st : List P2} {x y : P2}, Ch D st -> Adj st x y -> ltP x y /\ ∀ q, D q -> 0 <= sdp x y q
 | b :: a :: l, x, y, h, ha => by
   rcases ha with ⟨rfl, rfl⟩ | ha
   ·exact ⟨h.1, h.2.2.1⟩
   ·exact adj_edge h.2.2.2.2 ha
theorem adj_lt : ∀ {st : List P2} {t x y : P2}, Ch D (t :: st) -> Adj (t :: st) x y -> leP y t
 | a :: l, t, x, y, h, ha => by
   rcases ha with ⟨rfl, rfl⟩ | ha
   ·exact leP_refl _
   ·have := adj_lt h.2.2.2.2 ha
    exact leP_of (leP_lt this h.1)
theorem adj_next : ∀ {st : List P2} {t x y : P2}, Ch D (t :: st) -> Adj (t :: st) x y -> y = t ∨ ∃ c, Adj (t :: st) y c /\ 0 < sdp x y c
 | [], t, x, y, h, ha => ha.elim
 | a :: l, t, x, y, h, ha => by
   rcases ha with ⟨rfl, rfl⟩ | ha
   ·exact .inl rfl
   ·right
    rcases adj_next h.2.2.2.2 ha with rfl | ⟨c, h1, h2⟩
    ·refine ⟨t, .inl ⟨rfl, rfl⟩, ?_⟩
     cases l with
     | nil => exact ha.elim
     | cons c l =>
       rcases ha with ⟨rfl, _⟩ | ha
       ·exact h.2.2.2.1 _ rfl
       ·-- y is the top of this chain, and so it is the first pair
        have := adj_lt h.2.2.2.2.2.2.2.2 ha
        exact (ltP_irr _ (ltP_le h.2.2.2.2.1 this)).elim
    ·exact ⟨c, .inr h1, h2⟩
theorem adj_prev : ∀ {st : List P2} {x y : P2}, Ch D st -> Adj st x y -> x = botS st ∨ ∃ c, Adj st c x /\ 0 < sdp c x y
 | [b, a], x, y, h, ha => by
   rcases ha with ⟨rfl, rfl⟩ | ha
   ·exact .inl rfl
   ·exact ha.elim
 | b :: a :: c :: l, x, y, h, ha => by
   rcases ha with ⟨rfl, rfl⟩ | ha
   ·exact .inr ⟨c, .inr (.inl ⟨rfl, rfl⟩), h.2.2.2.1 _ rfl⟩
   ·rcases adj_prev h.2.2.2.2 ha with e | ⟨d, h1, h2⟩
    ·exact .inl e
    ·exact .inr ⟨d, .inr h1, h2⟩
theorem adj_bot : ∀ {st : List P2}, 2 <= st.length -> ∃ b, Adj st (botS st) b
 | [b, a], _ => ⟨b, .inl ⟨rfl, rfl⟩⟩
 | b :: a :: c :: l, _ => let ⟨d, h⟩ := adj_bot (st := a :: c :: l) (by simp); ⟨d, .inr h⟩
theorem adj_top {a b : P2} {l : List P2} : Adj (b :: a :: l) a b := .inl ⟨rfl, rfl⟩
theorem bot_le : ∀ {st : List P2}, Ch D st -> D (botS st) /\ ∀ q, D q -> leP (botS st) q
 | [s], h => h
 | b :: a :: l, h => bot_le (st := a :: l) h.2.2.2.2
end
def ngP (p : P2) : P2 := (-p.1, -p.2)
theorem sdp_ng (a b p : P2) : sdp (ngP a) (ngP b) (ngP p) = sdp a b p := by unfold sdp sd ngP; grind
theorem ng_ng (p : P2) : ngP (ngP p) = p := by unfold ngP; simp
theorem ltP_ng {a b : P2} (h : ltP a b) : ltP (ngP b) (ngP a) := by unfold ltP ngP at *; simp only; omega
theorem popS_ng (p : P2) : ∀ st : List P2, popS (ngP p) (st.map ngP) = (popS p st).map ngP
 | [] => rfl
 | [_] => rfl
 | b :: a :: l => by
   have ih := popS_ng p (a :: l)
   simp only [List.map_cons] at ih
   simp only [List.map_cons, popS, sdp_ng]
   cases decide (sdp a b p <= 0)
   ·rfl
   ·exact ih
theorem chainS_ng : ∀ (l st : List P2), chainS (st.map ngP) (l.map ngP) = (chainS st l).map ngP
 | [], st => rfl
 | p :: l, st => by
   simp only [List.map_cons, chainS]
   rw [← chainS_ng l]
   simp only [List.map_cons, popS_ng]
theorem adj_ng : ∀ {st : List P2} {x y : P2}, Adj (st.map ngP) x y ↔ Adj st (ngP x) (ngP y)
 | [], x, y => Iff.rfl
 | [_], x, y => Iff.rfl
 | b :: a :: l, x, y => by
   have ih := adj_ng (st := a :: l) (x := x) (y := y)
   simp only [List.map_cons] at ih
   simp only [List.map_cons, Adj, ih]
   have e : ∀ u v : P2, u = ngP v ↔ ngP u = v := fun u v => ⟨fun h => by rw [h, ng_ng], fun h => by rw [← h, ng_ng]⟩
   rw [e, e]
section
variable {a b c p q z m x y w d : P2} {D : P2 -> Prop}
theorem joint0 (ha : ltP a z) (hc : ltP c z) (h0 : sdp a z c = 0) (hq : leP q z) (h1 : 0 <= sdp a z q) (h2 : 0 <= sdp z c q) : sdp a z q = 0 := by
 rcases ltP_tri q z with k | rfl | k
 ·have e1 : sdp a z q = -((z.1 - a.1) * (z.2 - q.2) - (z.2 - a.2) * (z.1 - q.1)) := by unfold sdp sd; grind
  have e2 : sdp z c q = (z.1 - c.1) * (z.2 - q.2) - (z.2 - c.2) * (z.1 - q.1) := by unfold sdp sd; grind
  have e3 : sdp a z c = -((z.1 - a.1) * (z.2 - c.2) - (z.2 - a.2) * (z.1 - c.1)) := by unfold sdp sd; grind
  rw [e3] at h0; rw [e2] at h2; rw [e1] at h1
  have := crT (pv_of ha) (pv_of hc) (pv_of k) (by omega) h2
  rw [e1]; omega
 ·exact sdp_1 _ _
 ·exact (ltP_irr _ (leP_lt hq k)).elim
theorem ltP_ne (h : ltP a z) : ¬ (z.1 - a.1 = 0 /\ z.2 - a.2 = 0) := by unfold ltP at h; omega
theorem flat3 (h : ltP a z) (hx : sdp a z x = 0) (hy : sdp a z y = 0) (hw : sdp a z w = 0) : sdp x y w = 0 := by
 have k1 : (z.1 - a.1) * sdp x y w = (w.1 - x.1) * (sdp a z x - sdp a z y) + (y.1 - x.1) * (sdp a z w - sdp a z x) := by unfold sdp sd; grind
 have k2 : (z.2 - a.2) * sdp x y w = (w.2 - x.2) * (sdp a z x - sdp a z y) + (y.2 - x.2) * (sdp a z w - sdp a z x) := by unfold sdp sd; grind
 rw [hx, hy, hw] at k1 k2
 simp only [Int.sub_self, Int.mul_zero, Int.add_zero] at k1 k2
 have hn := ltP_ne h
 rcases Int.mul_eq_zero.1 k1 with e | e
 ·rcases Int.mul_eq_zero.1 k2 with e' | e'
  ·exact (hn ⟨e, e'⟩).elim
  ·exact e'
 ·exact e
end
structure Hull (D : P2 -> Prop) (A B : List P2) (z m : P2) : Prop where
 cA : Ch D A
 cB : Ch (fun q => D (ngP q)) (B.map ngP)
 tA : ∃ r, A = z :: r
 tB : ∃ r, B = m :: r
 bA : botS A = m
 bB : botS B = z
 zm : ltP m z
 hz : ∀ q, D q -> leP q z
 hm : ∀ q, D q -> leP m q
theorem bot_ng : ∀ {st : List P2}, st ≠ [] -> botS (st.map ngP) = ngP (botS st)
 | [s], _ => rfl
 | b :: a :: l, _ => bot_ng (st := a :: l) (by simp)
theorem leP_ng {a b : P2} (h : leP a b) : leP (ngP b) (ngP a) := by unfold leP ngP at *; simp only; omega
theorem pw_ng {l : List P2} (h : l.Pairwise ltP) : (l.reverse.map ngP).Pairwise ltP := by
 rw [List.pairwise_map, List.pairwise_reverse]
 exact h.imp fun h => ltP_ng h
theorem hull_of {m : P2} {l : List P2} (hs : (m :: l).Pairwise ltP) (h2 : l ≠ []) : ∃ z, Hull (fun q => q ∈ m :: l) (chainS [] (m :: l)) (chainS [] (m :: l).reverse) z m := by
 obtain ⟨z, r, e, hc, hz⟩ := ch_all hs
 have hb := bot_le hc
 have hmm : ∀ q ∈ m :: l, leP m q := by
  intro q hq
  rcases List.mem_cons.1 hq with rfl | hq
  ·exact leP_refl _
  ·exact leP_of ((List.pairwise_cons.1 hs).1 q hq)
 have hbm : botS (z :: r) = m := leP_eq (hb.2 m (by simp)) (hmm _ hb.1)
 have hs2 := pw_ng hs
 have hD : ∀ q, q ∈ ((m :: l).reverse.map ngP) ↔ ngP q ∈ m :: l := fun q => by
  rw [List.mem_map]
  constructor
  ·rintro ⟨p, hp, rfl⟩; rw [ng_ng]; exact List.mem_reverse.1 hp
  ·intro hq; exact ⟨ngP q, List.mem_reverse.2 hq, ng_ng q⟩
 have k : ∃ x t, (m :: l).reverse.map ngP = x :: t := by
  cases hr : (m :: l).reverse.map ngP with
  | nil => simp at hr
  | cons x t => exact ⟨x, t, rfl⟩
 obtain ⟨x, t, ex⟩ := k
 have hs3 := hs2
 rw [ex] at hs3
 obtain ⟨z', r', e', hc', hz'⟩ := ch_all hs3
 rw [← ex] at e' hc' hz'
 have en := chainS_ng (m :: l).reverse []
 simp only [List.map_nil] at en
 rw [en] at e'
 have hc2 := hc'.cong hD
 rw [← e'] at hc2
 have hB : ∃ rB, chainS [] (m :: l).reverse = m :: rB := by
  cases hB : chainS [] (m :: l).reverse with
  | nil => rw [hB] at e'; simp at e'
  | cons b rB =>
    rw [hB] at e'
    simp only [List.map_cons, List.cons.injEq] at e'
    have k1 := hz' (ngP m) ((hD _).2 (by rw [ng_ng]; simp))
    have k2 : ngP z' ∈ m :: l := by
     have : z' ∈ (m :: l).reverse.map ngP := ch_mem hc' z' (by simp)
     exact (hD _).1 this
    have k3 := leP_ng k1
    rw [ng_ng, ← e'.1, ng_ng] at k3
    rw [← e'.1, ng_ng] at k2
    exact ⟨rB, by rw [leP_eq k3 (hmm _ k2)]⟩
 refine ⟨z, ⟨by rw [e]; exact hc, hc2, ⟨r, e⟩, hB, by rw [e]; exact hbm, ?_, ?_, hz, hmm⟩⟩
 ·obtain ⟨rB, eB⟩ := hB
  have hb2 := bot_le hc2
  rw [bot_ng (by rw [eB]; simp)] at hb2
  have k1 := hb2.2 (ngP z) (by show ngP (ngP z) ∈ _; rw [ng_ng]; exact ch_mem hc z (by simp))
  have k2 := leP_ng k1
  rw [ng_ng, ng_ng] at k2
  have k3 := hb2.1
  rw [show (ngP (ngP (botS (chainS [] (m :: l).reverse)))) = _ from ng_ng _] at k3
  exact leP_eq (hz _ k3) k2
 ·cases l with
  | nil => exact (h2 rfl).elim
  | cons y l =>
    have := (List.pairwise_cons.1 hs).1 y (by simp)
    exact ltP_le this (hz y (by simp))
section
variable {D : P2 -> Prop} {A B : List P2} {z m x y q : P2}
def Ed (A B : List P2) (x y : P2) : Prop := Adj A x y ∨ Adj B x y
theorem Hull.adjB (h : Hull D A B z m) (ha : Adj B x y) : Adj (B.map ngP) (ngP x) (ngP y) := adj_ng.2 (by rw [ng_ng, ng_ng]; exact ha)
theorem Hull.e1 (h : Hull D A B z m) (he : Ed A B x y) : x ≠ y /\ D x /\ D y /\ ∀ q, D q -> 0 <= sdp x y q := by
 rcases he with ha | ha
 ·have k := adj_edge h.cA ha
  have hm := adj_mem ha
  exact ⟨(fun e => by rw [e] at k; exact ltP_irr _ k.1), ch_mem h.cA _ hm.1, ch_mem h.cA _ hm.2, k.2⟩
 ·have ha' := h.adjB ha
  have k := adj_edge h.cB ha'
  have hm := adj_mem ha'
  have k1 := ch_mem h.cB _ hm.1
  have k2 := ch_mem h.cB _ hm.2
  simp only [ng_ng] at k1 k2
  refine ⟨(fun e => by rw [e] at k; exact ltP_irr _ k.1), k1, k2, fun q hq => ?_⟩
  have := k.2 (ngP q) (by rw [ng_ng]; exact hq)
  rwa [sdp_ng] at this
theorem Hull.lenA (h : Hull D A B z m) : 2 <= A.length := by
 obtain ⟨r, e⟩ := h.tA
 cases r with
 | nil =>
   have := h.bA
   rw [e] at this
   simp only [botS] at this
   have k := h.zm; rw [this] at k
   exact (ltP_irr _ k).elim
 | cons a r => rw [e]; simp
theorem Hull.lenB (h : Hull D A B z m) : 2 <= B.length := by
 obtain ⟨r, e⟩ := h.tB
 cases r with
 | nil =>
   have := h.bB
   rw [e] at this
   simp only [botS] at this
   have k := h.zm; rw [this] at k
   exact (ltP_irr _ k).elim
 | cons a r => rw [e]; simp
def NotFlat (D : P2 -> Prop) : Prop := ∃ x y w, D x /\ D y /\ D w /\ sdp x y w ≠ 0
theorem Hull.bend (h : Hull D A B z m) (h3 : 3 <= A.length ∨ 3 <= B.length) : NotFlat D := by
 rcases h3 with h3 | h3
 ·match A, h.cA, h3 with
  | b :: a :: c :: l, hc, _ =>
    have k := hc.2.2.2.1 c rfl
    exact ⟨c, a, b, ch_mem hc c (by simp), ch_mem hc a (by simp), ch_mem hc b (by simp), by omega⟩
 ·match B, h.cB, h3 with
  | b :: a :: c :: l, hc, _ =>
    have k := hc.2.2.2.1 (ngP c) rfl
    rw [sdp_ng] at k
    have k1 := ch_mem hc (ngP c) (by simp)
    have k2 := ch_mem hc (ngP a) (by simp)
    have k3 := ch_mem hc (ngP b) (by simp)
    simp only [ng_ng] at k1 k2 k3
    exact ⟨c, a, b, k1, k2, k3, by omega⟩
theorem notflat_no {a z : P2} (hn : NotFlat D) (hl : ltP a z) (h : ∀ q, D q -> sdp a z q = 0) : False := by
 obtain ⟨x, y, w, hx, hy, hw, hne⟩ := hn
 exact hne (flat3 hl (h x hx) (h y hy) (h w hw))
theorem Hull.jz (h : Hull D A B z m) (hn : NotFlat D) {a c : P2} (ha : Adj A a z) (hc : Adj B z c) : 0 < sdp a z c := by
 have e1 := h.e1 (.inl ha)
 have e2 := h.e1 (.inr hc)
 have l1 := (adj_edge h.cA ha).1
 have l2 := (adj_edge h.cB (h.adjB hc)).1
 have l3 := ltP_ng l2
 rw [ng_ng, ng_ng] at l3
 have k := e1.2.2.2 c e2.2.2.1
 by_cases h0 : sdp a z c = 0
 ·exact (notflat_no hn l1 fun q hq => joint0 l1 l3 h0 (h.hz q hq) (e1.2.2.2 q hq) (e2.2.2.2 q hq)).elim
 ·omega
theorem Hull.jm (h : Hull D A B z m) (hn : NotFlat D) {a c : P2} (ha : Adj B a m) (hc : Adj A m c) : 0 < sdp a m c := by
 have e1 := h.e1 (.inr ha)
 have e2 := h.e1 (.inl hc)
 have l1 := (adj_edge h.cA hc).1
 have l2 := (adj_edge h.cB (h.adjB ha)).1
 have k := e1.2.2.2 c e2.2.2.1
 by_cases h0 : sdp a m c = 0
 ·refine (notflat_no hn (a := m) (z := a) (by have := ltP_ng l2; rwa [ng_ng, ng_ng] at this) fun q hq => ?_).elim
  have := joint0 (a := ngP a) (z := ngP m) (c := ngP c) (q := ngP q) l2 (ltP_ng l1) (by rw [sdp_ng]; exact h0) (leP_ng (h.hm q hq)) (by rw [sdp_ng]; exact e1.2.2.2 q hq) (by rw [sdp_ng]; exact e2.2.2.2 q hq)
  rw [sdp_ng] at this
  rw [sdp_neg]; omega
 ·omega
theorem Hull.next (h : Hull D A B z m) (hn : NotFlat D) (he : Ed A B x y) : ∃ c, Ed A B y c /\ 0 < sdp x y c := by
 rcases he with ha | ha
 ·obtain ⟨r, e⟩ := h.tA
  have hc := h.cA
  rw [e] at hc ha
  rcases adj_next hc ha with rfl | ⟨c, h1, h2⟩
  ·obtain ⟨c, hc⟩ := adj_bot h.lenB
   rw [h.bB] at hc
   exact ⟨c, .inr hc, h.jz hn (by rw [e]; exact ha) hc⟩
  ·exact ⟨c, .inl (by rw [e]; exact h1), h2⟩
 ·obtain ⟨r, e⟩ := h.tB
  have hc := h.cB
  have ha' := h.adjB ha
  rw [e, List.map_cons] at hc ha'
  rcases adj_next hc ha' with e2 | ⟨c, h1, h2⟩
  ·have ey : y = m := by rw [← ng_ng y, e2, ng_ng]
   subst ey
   obtain ⟨c, hc⟩ := adj_bot h.lenA
   rw [h.bA] at hc
   exact ⟨c, .inl hc, h.jm hn ha hc⟩
  ·refine ⟨ngP c, .inr ?_, ?_⟩
   ·rw [← List.map_cons, ← e, adj_ng, ng_ng] at h1; exact h1
   ·rw [← sdp_ng, ng_ng]; exact h2
theorem Hull.prev (h : Hull D A B z m) (hn : NotFlat D) (he : Ed A B x y) : ∃ c, Ed A B c x /\ 0 < sdp c x y := by
 rcases he with ha | ha
 ·rcases adj_prev h.cA ha with e2 | ⟨c, h1, h2⟩
  ·rw [h.bA] at e2; subst e2
   obtain ⟨r, e⟩ := h.tB
   have hl := h.lenB
   match B, e, hl with
   | _ :: a :: l, e, _ =>
     cases e
     exact ⟨a, .inr adj_top, h.jm hn adj_top ha⟩
  ·exact ⟨c, .inl h1, h2⟩
 ·rcases adj_prev h.cB (h.adjB ha) with e2 | ⟨c, h1, h2⟩
  ·obtain ⟨r, e⟩ := h.tB
   rw [bot_ng (by rw [e]; simp), h.bB] at e2
   have ex : x = z := by rw [← ng_ng x, e2, ng_ng]
   subst ex
   obtain ⟨r, e⟩ := h.tA
   have hl := h.lenA
   match A, e, hl with
   | _ :: a :: l, e, _ =>
     cases e
     exact ⟨a, .inl adj_top, h.jz hn adj_top ha⟩
  ·refine ⟨ngP c, .inr ?_, ?_⟩
   ·rw [adj_ng, ng_ng] at h1; exact h1
   ·rw [← sdp_ng, ng_ng]; exact h2
theorem Hull.flat (h : Hull D A B z m) (ha : A.length < 3) (hb : B.length < 3) : A = [z, m] /\ B = [m, z] /\ ∀ q, D q -> sdp m z q = 0 := by
 obtain ⟨r, e⟩ := h.tA
 obtain ⟨s, e'⟩ := h.tB
 have la := h.lenA
 have lb := h.lenB
 have e1 := h.bA
 have e2 := h.bB
 have eA : A = [z, m] := by
  match A, e, la, ha, e1 with
  | [a, b], e, _, _, e1 => cases e; cases e1; rfl
 have eB : B = [m, z] := by
  match B, e', lb, hb, e2 with
  | [a, b], e, _, _, e2 => cases e; cases e2; rfl
 refine ⟨eA, eB, fun q hq => ?_⟩
 have k1 := (h.e1 (x := m) (y := z) (.inl (by rw [eA]; exact adj_top))).2.2.2 q hq
 have k2 := (h.e1 (x := z) (y := m) (.inr (by rw [eB]; exact adj_top))).2.2.2 q hq
 rw [sdp_neg] at k2
 omega
end
def skp (a b : P2) (x y k : Int) : Int := (b.1 - a.1) * (y - k * a.2) - (b.2 - a.2) * (x - k * a.1)
def InH (D : P2 -> Prop) (x y k : Int) : Prop := ∀ A B C : Int, (∀ q, D q -> 0 <= A * q.1 + B * q.2 + C) -> 0 <= A * x + B * y + C * k
def CvN (D : P2 -> Prop) (mx my r : Int) : Prop := ∃ x y k, 0 < k /\ InH D x y k /\ q2 (k * mx - x) (k * my - y) <= (k * r) * (k * r)
theorem inH_sk {D : P2 -> Prop} {x y k : Int} {a b : P2} (h : InH D x y k) (hs : ∀ q, D q -> 0 <= sdp a b q) : 0 <= skp a b x y k := by
 have := h (-(b.2 - a.2)) (b.1 - a.1) (-(b.1 - a.1) * a.2 + (b.2 - a.2) * a.1) fun q hq => by
  have e : -(b.2 - a.2) * q.1 + (b.1 - a.1) * q.2 + (-(b.1 - a.1) * a.2 + (b.2 - a.2) * a.1) = sdp a b q := by unfold sdp sd; grind
  rw [e]; exact hs q hq
 have e : -(b.2 - a.2) * x + (b.1 - a.1) * y + (-(b.1 - a.1) * a.2 + (b.2 - a.2) * a.1) * k = skp a b x y k := by unfold skp; grind
 rwa [e] at this
def prs : List P2 -> List (P2 × P2)
 | b :: a :: l => (a, b) :: prs (a :: l)
 | _ => []
theorem prs_adj : ∀ {st : List P2} {x y : P2}, (x, y) ∈ prs st ↔ Adj st x y
 | [], x, y => by simp [prs, Adj]
 | [_], x, y => by simp [prs, Adj]
 | b :: a :: l, x, y => by simp only [prs, Adj, List.mem_cons, Prod.mk.injEq, prs_adj (st := a :: l)]
theorem exit {mx my x y k : Int} (hk : 0 < k) : ∀ (es : List (P2 × P2)), (∀ e ∈ es, 0 <= skp e.1 e.2 x y k) ->
 ∃ j l, 0 <= j /\ j <= l /\ 0 < l /\ (∀ e ∈ es, 0 <= (l - j) * skp e.1 e.2 x y k + j * (k * sdp e.1 e.2 (mx, my))) /\ (j = l ∨ ∃ e ∈ es, (l - j) * skp e.1 e.2 x y k + j * (k * sdp e.1 e.2 (mx, my)) = 0)
 | [], _ => ⟨1, 1, by omega, by omega, by omega, (fun e he => by cases he), .inl rfl⟩
 | e :: es, h => by
   obtain ⟨j, l, h1, h2, h3, h4, h5⟩ := exit hk es fun f hf => h f (List.mem_cons_of_mem _ hf)
   have hX := h e (by simp)
   by_cases hy : 0 <= (l - j) * skp e.1 e.2 x y k + j * (k * sdp e.1 e.2 (mx, my))
   ·refine ⟨j, l, h1, h2, h3, fun f hf => ?_, ?_⟩
    ·rcases List.mem_cons.1 hf with rfl | hf
     ·exact hy
     ·exact h4 f hf
    ·rcases h5 with h5 | ⟨f, hf, h6⟩
     ·exact .inl h5
     ·exact .inr ⟨f, List.mem_cons_of_mem _ hf, h6⟩
   ·generalize hM : k * sdp e.1 e.2 (mx, my) = M at hy
    generalize hX' : skp e.1 e.2 x y k = X at hX hy
    have hM0 : M < 0 := by
     apply Classical.byContradiction; intro hn
     have k1 := imn h1 (show 0 <= M by omega)
     have k2 := imn (show 0 <= l - j by omega) hX
     omega
    refine ⟨X, X - M, hX, by omega, by omega, fun f hf => ?_, .inr ⟨e, by simp, ?_⟩⟩
    ·rcases List.mem_cons.1 hf with rfl | hf
     ·rw [hX', hM]
      have e : (X - M - X) * X + X * M = 0 := by grind
      omega
     ·have hf4 := h4 f hf
      have hfX := h f (List.mem_cons_of_mem _ hf)
      generalize k * sdp f.1 f.2 (mx, my) = M' at hf4 ⊢
      generalize skp f.1 f.2 x y k = X2 at hf4 hfX ⊢
      by_cases hM2 : 0 <= M'
      ·have k1 := imn (show 0 <= X - M - X by omega) hfX
       have k2 := imn hX hM2
       omega
      ·refine cancel h3 ?_
       rw [Int.mul_zero]
       -- l X <= j (X - M)
       have o : 0 <= j * (X - M) - l * X := by
        have e : j * (X - M) - l * X = -((l - j) * X + j * M) := by grind
        omega
       have k1 := imn o (show 0 <= X2 - M' by omega)
       have k2 := imn (show 0 <= X - M by omega) hf4
       have e : l * ((X - M - X) * X2 + X * M') = (j * (X - M) - l * X) * (X2 - M') + (X - M) * ((l - j) * X2 + j * M') := by grind
       omega
    ·rw [hX', hM]; grind
theorem sq_pos' {x : Int} (h : x ≠ 0) : 0 < x * x := by
 have := sq0 x
 by_cases e : x * x = 0
 ·rcases Int.mul_eq_zero.1 e with e | e <;> exact (h e).elim
 ·omega
theorem on_seg {a b c d : P2} {mx my r x y k : Int} (hk : 0 < k) (h0 : skp a b x y k = 0) (h1 : 0 <= skp d a x y k) (h2 : 0 < sdp d a b) (h3 : 0 <= skp b c x y k) (h4 : 0 < sdp a b c)
 (hq : q2 (k * mx - x) (k * my - y) <= (k * r) * (k * r)) : Nq a.1 a.2 b.1 b.2 mx my 1 r := by
 unfold sdp sd at h2 h4
 unfold skp at h0 h1 h3
 obtain ⟨a1, a2⟩ := a
 obtain ⟨b1, b2⟩ := b
 obtain ⟨c1, c2⟩ := c
 obtain ⟨d1, d2⟩ := d
 simp only at *
 have hdd : 0 < (b1 - a1) * (b1 - a1) + (b2 - a2) * (b2 - a2) := by
  by_cases e : b1 - a1 = 0
  ·by_cases e' : b2 - a2 = 0
   ·rw [show b1 = a1 by omega, show b2 = a2 by omega] at h2
    have : (a1 - d1) * (a2 - d2) - (a2 - d2) * (a1 - d1) = 0 := by grind
    omega
   ·have := sq_pos' e'; have := sq0 (b1 - a1); omega
  ·have := sq_pos' e; have := sq0 (b2 - a2); omega
 have ex : ((b1 - a1) * (b1 - a1) + (b2 - a2) * (b2 - a2)) * (x - k * a1) = ((b1 - a1) * (x - k * a1) + (b2 - a2) * (y - k * a2)) * (b1 - a1) - (b2 - a2) * ((b1 - a1) * (y - k * a2) - (b2 - a2) * (x - k * a1)) := by grind
 have ey : ((b1 - a1) * (b1 - a1) + (b2 - a2) * (b2 - a2)) * (y - k * a2) = ((b1 - a1) * (x - k * a1) + (b2 - a2) * (y - k * a2)) * (b2 - a2) + (b1 - a1) * ((b1 - a1) * (y - k * a2) - (b2 - a2) * (x - k * a1)) := by grind
 rw [h0, Int.mul_zero] at ex ey
 have eT : ((b1 - a1) * (b1 - a1) + (b2 - a2) * (b2 - a2)) * ((a1 - d1) * (y - k * d2) - (a2 - d2) * (x - k * d1)) = (a1 - d1) * (((b1 - a1) * (b1 - a1) + (b2 - a2) * (b2 - a2)) * (y - k * a2)) - (a2 - d2) * (((b1 - a1) * (b1 - a1) + (b2 - a2) * (b2 - a2)) * (x - k * a1)) := by grind
 have eU : ((b1 - a1) * (b1 - a1) + (b2 - a2) * (b2 - a2)) * ((c1 - b1) * (y - k * b2) - (c2 - b2) * (x - k * b1)) = (c1 - b1) * (((b1 - a1) * (b1 - a1) + (b2 - a2) * (b2 - a2)) * (y - k * a2) - k * ((b1 - a1) * (b1 - a1) + (b2 - a2) * (b2 - a2)) * (b2 - a2)) - (c2 - b2) * (((b1 - a1) * (b1 - a1) + (b2 - a2) * (b2 - a2)) * (x - k * a1) - k * ((b1 - a1) * (b1 - a1) + (b2 - a2) * (b2 - a2)) * (b1 - a1)) := by grind
 rw [ex, ey] at eT eU
 have k1 := imn (Int.le_of_lt hdd) h1
 have k2 := imn (Int.le_of_lt hdd) h3
 rw [eT] at k1
 rw [eU] at k2
 generalize hT : (b1 - a1) * (x - k * a1) + (b2 - a2) * (y - k * a2) = T at *
 generalize hd : (b1 - a1) * (b1 - a1) + (b2 - a2) * (b2 - a2) = dd at *
 have t1 : 0 <= T := by
  have e : (a1 - d1) * (T * (b2 - a2) + 0) - (a2 - d2) * (T * (b1 - a1) - 0) = ((a1 - d1) * (b2 - d2) - (a2 - d2) * (b1 - d1)) * T := by grind
  rw [e] at k1
  exact cancel h2 (by rw [Int.mul_zero]; exact k1)
 have t2 : T <= k * dd := by
  have e : (c1 - b1) * (T * (b2 - a2) + 0 - k * dd * (b2 - a2)) - (c2 - b2) * (T * (b1 - a1) - 0 - k * dd * (b1 - a1)) = ((b1 - a1) * (c2 - a2) - (b2 - a2) * (c1 - a1)) * (k * dd - T) := by grind
  rw [e] at k2
  have := cancel h4 (a := 0) (b := k * dd - T) (by rw [Int.mul_zero]; exact k2)
  omega
 refine ⟨T, k * dd, t1, t2, Int.mul_pos hk hdd, ?_⟩
 have f1 : k * dd * mx - 1 * ((k * dd - T) * a1 + T * b1) = dd * (k * mx - x) := by
  have : dd * (k * mx - x) = k * dd * mx - (dd * (x - k * a1) + k * dd * a1) := by grind
  rw [this, ex]; grind
 have f2 : k * dd * my - 1 * ((k * dd - T) * a2 + T * b2) = dd * (k * my - y) := by
  have : dd * (k * my - y) = k * dd * my - (dd * (y - k * a2) + k * dd * a2) := by grind
  rw [this, ey]; grind
 rw [f1, f2, q2_mul]
 have := iml hq (sq0 dd)
 have e : k * dd * 1 * r * (k * dd * 1 * r) = dd * dd * (k * r * (k * r)) := by grind
 omega
theorem Hull.near {D : P2 -> Prop} {A B : List P2} {z m : P2} (h : Hull D A B z m) (hn : NotFlat D) {mx my r : Int} (hr : 0 <= r) (hc : CvN D mx my r) {e0 : P2 × P2} (h0 : Ed A B e0.1 e0.2) (hs : sdp e0.1 e0.2 (mx, my) <= 0) :
 ∃ a b, Ed A B a b /\ Nq a.1 a.2 b.1 b.2 mx my 1 r := by
 obtain ⟨x, y, k, hk, hI, hq⟩ := hc
 have hes : ∀ e : P2 × P2, e ∈ prs A ++ prs B ↔ Ed A B e.1 e.2 := fun e => by
  rw [List.mem_append, ← prs_adj.symm.trans Iff.rfl]
  unfold Ed
  rw [← prs_adj, ← prs_adj]
 obtain ⟨j, l, h1, h2, h3, h4, h5⟩ := exit (mx := mx) (my := my) hk (prs A ++ prs B) fun e he => inH_sk hI (h.e1 ((hes e).1 he)).2.2.2
 have sk : ∀ a b : P2, (l - j) * skp a b x y k + j * (k * sdp a b (mx, my)) = skp a b ((l - j) * x + j * k * mx) ((l - j) * y + j * k * my) (k * l) := fun a b => by unfold skp sdp sd; grind
 simp only [sk] at h4 h5
 have key : ∃ e : P2 × P2, Ed A B e.1 e.2 /\ skp e.1 e.2 ((l - j) * x + j * k * mx) ((l - j) * y + j * k * my) (k * l) = 0 := by
  rcases h5 with rfl | ⟨e, he, h6⟩
  ·refine ⟨e0, h0, ?_⟩
   have k1 := h4 e0 ((hes e0).2 h0)
   rw [← sk] at k1 ⊢
   have k2 := imn h1 (imn (Int.le_of_lt hk) (show 0 <= -sdp e0.1 e0.2 (mx, my) by omega))
   have e : j * (k * -sdp e0.1 e0.2 (mx, my)) = -(j * (k * sdp e0.1 e0.2 (mx, my))) := by grind
   have e2 : (j - j) * skp e0.1 e0.2 x y k = 0 := by grind
   omega
  ·exact ⟨e, (hes e).1 he, h6⟩
 obtain ⟨⟨a, b⟩, he, hz⟩ := key
 obtain ⟨c, hc1, hc2⟩ := h.next hn he
 obtain ⟨d, hd1, hd2⟩ := h.prev hn he
 refine ⟨a, b, he, on_seg (Int.mul_pos hk h3) hz (h4 (d, a) ((hes _).2 hd1)) hd2 (h4 (b, c) ((hes _).2 hc1)) hc2 ?_⟩
 have f1 : k * l * mx - ((l - j) * x + j * k * mx) = (l - j) * (k * mx - x) := by grind
 have f2 : k * l * my - ((l - j) * y + j * k * my) = (l - j) * (k * my - y) := by grind
 rw [f1, f2, q2_mul]
 have k1 := iml hq (sq0 (l - j))
 have k2 : (l - j) * (l - j) <= l * l := Int.mul_le_mul (by omega) (by omega) (by omega) (by omega)
 have k3 := Int.mul_le_mul_of_nonneg_right k2 (sq0 (k * r))
 have e : k * l * r * (k * l * r) = l * l * (k * r * (k * r)) := by grind
 omega
theorem pv_dot {vx vy dx dy : Int} (hv : Pv vx vy) (hd : Pv dx dy) (h : dx * vy - dy * vx = 0) : 0 <= dx * vx + dy * vy := by
 unfold Pv at *
 rcases hd with hd | ⟨rfl, hd⟩
 ·refine cancel hd ?_
  rw [Int.mul_zero]
  have e : dx * (dx * vx + dy * vy) = (dx * dx + dy * dy) * vx + dy * (dx * vy - dy * vx) := by grind
  rw [e, h, Int.mul_zero, Int.add_zero]
  exact imn (by have := sq0 dx; have := sq0 dy; omega) (by omega)
 ·have : vx = 0 := by
   rcases Int.mul_eq_zero.1 (show dy * vx = 0 by omega) with e | e <;> omega
  subst this
  have := imn (Int.le_of_lt hd) (show 0 <= vy by omega)
  omega
theorem flat_near {D : P2 -> Prop} {z m : P2} (zm : ltP m z) (hz : ∀ q, D q -> leP q z) (hm : ∀ q, D q -> leP m q) (hf : ∀ q, D q -> sdp m z q = 0) {mx my r : Int} (hr : 0 <= r) (hc : CvN D mx my r) : Nq m.1 m.2 z.1 z.2 mx my 1 r := by
 obtain ⟨x, y, k, hk, hI, hq⟩ := hc
 have s1 := inH_sk (a := m) (b := z) hI fun q hq => by rw [hf q hq]; omega
 have s2 := inH_sk (a := z) (b := m) hI fun q hq => by rw [sdp_neg, hf q hq]; omega
 have hd := pv_of zm
 -- from m on
 have d1 := hI (z.1 - m.1) (z.2 - m.2) (-((z.1 - m.1) * m.1 + (z.2 - m.2) * m.2)) fun q hq => by
  have e : (z.1 - m.1) * q.1 + (z.2 - m.2) * q.2 + -((z.1 - m.1) * m.1 + (z.2 - m.2) * m.2) = (z.1 - m.1) * (q.1 - m.1) + (z.2 - m.2) * (q.2 - m.2) := by grind
  rw [e]
  rcases ltP_tri m q with h | rfl | h
  ·exact pv_dot (pv_of h) hd (by have := hf q hq; unfold sdp sd at this; exact this)
  ·simp
  ·exact (ltP_irr _ (leP_lt (hm q hq) h)).elim
 have d2 := hI (-(z.1 - m.1)) (-(z.2 - m.2)) ((z.1 - m.1) * z.1 + (z.2 - m.2) * z.2) fun q hq => by
  have e : -(z.1 - m.1) * q.1 + -(z.2 - m.2) * q.2 + ((z.1 - m.1) * z.1 + (z.2 - m.2) * z.2) = (z.1 - m.1) * (z.1 - q.1) + (z.2 - m.2) * (z.2 - q.2) := by grind
  rw [e]
  rcases ltP_tri q z with h | rfl | h
  ·refine pv_dot (pv_of h) hd ?_
   have := hf q hq
   unfold sdp sd at this
   have e : (z.1 - m.1) * (z.2 - q.2) - (z.2 - m.2) * (z.1 - q.1) = -((z.1 - m.1) * (q.2 - m.2) - (z.2 - m.2) * (q.1 - m.1)) := by grind
   omega
  ·simp
  ·exact (ltP_irr _ (leP_lt (hz q hq) h)).elim
 unfold skp at s1 s2
 unfold ltP at zm
 obtain ⟨a1, a2⟩ := m
 obtain ⟨b1, b2⟩ := z
 simp only at *
 have h0 : (b1 - a1) * (y - k * a2) - (b2 - a2) * (x - k * a1) = 0 := by
  have e : (a1 - b1) * (y - k * b2) - (a2 - b2) * (x - k * b1) = -((b1 - a1) * (y - k * a2) - (b2 - a2) * (x - k * a1)) := by grind
  omega
 have hdd : 0 < (b1 - a1) * (b1 - a1) + (b2 - a2) * (b2 - a2) := by
  by_cases e : b1 - a1 = 0
  ·have := sq_pos' (x := b2 - a2) (by omega); have := sq0 (b1 - a1); omega
  ·have := sq_pos' e; have := sq0 (b2 - a2); omega
 have ex : ((b1 - a1) * (b1 - a1) + (b2 - a2) * (b2 - a2)) * (x - k * a1) = ((b1 - a1) * (x - k * a1) + (b2 - a2) * (y - k * a2)) * (b1 - a1) - (b2 - a2) * ((b1 - a1) * (y - k * a2) - (b2 - a2) * (x - k * a1)) := by grind
 have ey : ((b1 - a1) * (b1 - a1) + (b2 - a2) * (b2 - a2)) * (y - k * a2) = ((b1 - a1) * (x - k * a1) + (b2 - a2) * (y - k * a2)) * (b2 - a2) + (b1 - a1) * ((b1 - a1) * (y - k * a2) - (b2 - a2) * (x - k * a1)) := by grind
 rw [h0, Int.mul_zero] at ex ey
 have t1 : 0 <= (b1 - a1) * (x - k * a1) + (b2 - a2) * (y - k * a2) := by
  have e : (b1 - a1) * x + (b2 - a2) * y + -((b1 - a1) * a1 + (b2 - a2) * a2) * k = (b1 - a1) * (x - k * a1) + (b2 - a2) * (y - k * a2) := by grind
  omega
 have t2 : (b1 - a1) * (x - k * a1) + (b2 - a2) * (y - k * a2) <= k * ((b1 - a1) * (b1 - a1) + (b2 - a2) * (b2 - a2)) := by
  have e : -(b1 - a1) * x + -(b2 - a2) * y + ((b1 - a1) * b1 + (b2 - a2) * b2) * k = k * ((b1 - a1) * (b1 - a1) + (b2 - a2) * (b2 - a2)) - ((b1 - a1) * (x - k * a1) + (b2 - a2) * (y - k * a2)) := by grind
  omega
 generalize hT : (b1 - a1) * (x - k * a1) + (b2 - a2) * (y - k * a2) = T at *
 generalize hd' : (b1 - a1) * (b1 - a1) + (b2 - a2) * (b2 - a2) = dd at *
 refine ⟨T, k * dd, t1, t2, Int.mul_pos hk hdd, ?_⟩
 have f1 : k * dd * mx - 1 * ((k * dd - T) * a1 + T * b1) = dd * (k * mx - x) := by
  have : dd * (k * mx - x) = k * dd * mx - (dd * (x - k * a1) + k * dd * a1) := by grind
  rw [this, ex]; grind
 have f2 : k * dd * my - 1 * ((k * dd - T) * a2 + T * b2) = dd * (k * my - y) := by
  have : dd * (k * my - y) = k * dd * my - (dd * (y - k * a2) + k * dd * a2) := by grind
  rw [this, ey]; grind
 rw [f1, f2, q2_mul]
 have := iml hq (sq0 dd)
 have e : k * dd * 1 * r * (k * dd * 1 * r) = dd * dd * (k * r * (k * r)) := by grind
 omega
def hullL : List P2 -> List P2
 | [] => []
 | [a] => [a]
 | a :: b :: l => (chainS [] (a :: b :: l)).tail.reverse ++ (chainS [] (a :: b :: l).reverse).tail.reverse
def pAt (l : List P2) (i : Nat) : P2 := l.getD i (0, 0)
def nrp (a b m : P2) (r : Int) : Bool := nr a.1 a.2 b.1 b.2 m.1 m.2 r
def TP (H : List P2) (m : P2) (r : Int) : Prop := (∃ i, i < H.length /\ nrp (pAt H i) (pAt H ((i + 1) % H.length)) m r = true) ∨ (2 < H.length /\ ∀ i, i < H.length -> 0 < sdp (pAt H i) (pAt H ((i + 1) % H.length)) m)
def Wn (m a b c : P2) : Prop := sdp a b c ≠ 0 /\ ((0 <= sdp a b m /\ 0 <= sdp b c m /\ 0 <= sdp c a m) ∨ (sdp a b m <= 0 /\ sdp b c m <= 0 /\ sdp c a m <= 0))
def RefT (D : P2 -> Prop) (m : P2) (r : Int) : Prop := (∃ a b, D a /\ D b /\ nrp a b m r = true) ∨ ∃ a b c, D a /\ D b /\ D c /\ Wn m a b c
theorem adj_ix : ∀ {st : List P2} {x y : P2}, Adj st x y ↔ ∃ i, st.reverse[i]? = some x /\ st.reverse[i + 1]? = some y
 | [], x, y => by simp [Adj]
 | [s], x, y => by
   simp only [Adj, false_iff]
   rintro ⟨i, h1, h2⟩
   simp at h2
 | b :: a :: l, x, y => by
   have ih := adj_ix (st := a :: l) (x := x) (y := y)
   have hl : (a :: l).reverse.length = l.length + 1 := by simp
   have ha : (a :: l).reverse[l.length]? = some a := by
    rw [List.reverse_cons, List.getElem?_append_right (by simp)]; simp
   simp only [Adj, ih]
   rw [List.reverse_cons (a := b)]
   constructor
   ·rintro (⟨rfl, rfl⟩ | ⟨i, h1, h2⟩)
    ·refine ⟨l.length, ?_, ?_⟩
     ·rw [List.getElem?_append_left (by omega)]; exact ha
     ·rw [List.getElem?_append_right (by omega), hl]; simp
    ·have k : i + 1 < (a :: l).reverse.length := by
      apply Classical.byContradiction; intro hn
      rw [List.getElem?_eq_none (by omega)] at h2; cases h2
     exact ⟨i, by rw [List.getElem?_append_left (by omega)]; exact h1, by rw [List.getElem?_append_left k]; exact h2⟩
   ·rintro ⟨i, h1, h2⟩
    by_cases k : i + 1 < (a :: l).reverse.length
    ·rw [List.getElem?_append_left k] at h2
     rw [List.getElem?_append_left (by omega)] at h1
     exact .inr ⟨i, h1, h2⟩
    ·rw [List.getElem?_append_right (by omega), hl] at h2
     have e : i = l.length := by
      apply Classical.byContradiction; intro hn
      rw [List.getElem?_eq_none (by simp; omega)] at h2; cases h2
     subst e
     rw [List.getElem?_append_left (by omega), ha] at h1
     rw [Nat.sub_self] at h2
     simp only [List.getElem?_cons_zero, Option.some.injEq] at h1 h2
     exact .inl ⟨h1.symm, h2.symm⟩
theorem bot_ix : ∀ {st : List P2}, st ≠ [] -> st.reverse[0]? = some (botS st)
 | [s], _ => rfl
 | b :: a :: l, _ => by
   rw [List.reverse_cons (a := b), List.getElem?_append_left (by simp)]
   exact bot_ix (st := a :: l) (by simp)
section
variable {D : P2 -> Prop} {A B : List P2} {z m : P2}
theorem ix_aux {rA rB : List P2} {z m : P2} (bA : rA.reverse[0]? = some m) (bB : rB.reverse[0]? = some z) (i : Nat) (hi : i < rA.length + rB.length) :
 (rA.reverse ++ rB.reverse)[i]? = (if i < rA.length then (rA.reverse ++ [z])[i]? else (rB.reverse ++ [m])[i - rA.length]?) /\ (rA.reverse ++ rB.reverse)[(i + 1) % (rA.length + rB.length)]? = (if i < rA.length then (rA.reverse ++ [z])[i + 1]? else (rB.reverse ++ [m])[i - rA.length + 1]?) := by
 have nA : rA.reverse.length = rA.length := List.length_reverse
 have nB : rB.reverse.length = rB.length := List.length_reverse
 by_cases h1 : i < rA.length
 ·rw [if_pos h1, if_pos h1, Nat.mod_eq_of_lt (by
   have : 0 < rB.reverse.length := by
    apply Classical.byContradiction; intro hn
    rw [List.getElem?_eq_none (by omega)] at bB; cases bB
   omega)]
  refine ⟨by rw [List.getElem?_append_left (by omega), List.getElem?_append_left (by omega)], ?_⟩
  by_cases h2 : i + 1 < rA.length
  ·rw [List.getElem?_append_left (by omega), List.getElem?_append_left (by omega)]
  ·have e : i + 1 = rA.length := by omega
   rw [e, List.getElem?_append_right (by omega), List.getElem?_append_right (by omega), nA, Nat.sub_self, bB]; rfl
 ·rw [if_neg h1, if_neg h1]
  refine ⟨by rw [List.getElem?_append_right (by omega), List.getElem?_append_left (l₁ := rB.reverse) (by omega), nA], ?_⟩
  by_cases h2 : i - rA.length + 1 < rB.length
  ·rw [Nat.mod_eq_of_lt (by omega), List.getElem?_append_right (by omega), List.getElem?_append_left (l₁ := rB.reverse) (by omega), nA]
   congr 1; omega
  ·have e : i + 1 = rA.length + rB.length := by omega
   have e2 : i - rA.length + 1 = rB.length := by omega
   rw [e, Nat.mod_self, e2, List.getElem?_append_left (by
    apply Classical.byContradiction; intro hn
    rw [List.getElem?_eq_none (by omega)] at bA; cases bA), List.getElem?_append_right (by omega), nB, Nat.sub_self, bA]; rfl
theorem Hull.ix (h : Hull D A B z m) (i : Nat) (hi : i < (A.tail.reverse ++ B.tail.reverse).length) :
 (A.tail.reverse ++ B.tail.reverse)[i]? = (if i < A.tail.length then A.reverse[i]? else B.reverse[i - A.tail.length]?) /\ (A.tail.reverse ++ B.tail.reverse)[(i + 1) % (A.tail.reverse ++ B.tail.reverse).length]? = (if i < A.tail.length then A.reverse[i + 1]? else B.reverse[i - A.tail.length + 1]?) := by
 obtain ⟨rA, eA⟩ := h.tA
 obtain ⟨rB, eB⟩ := h.tB
 have la := h.lenA
 have lb := h.lenB
 have bA := bot_ix (st := A) (by rw [eA]; simp)
 have bB := bot_ix (st := B) (by rw [eB]; simp)
 rw [h.bA] at bA
 rw [h.bB] at bB
 rw [eA] at la bA hi ⊢
 rw [eB] at lb bB hi ⊢
 simp only [List.length_cons] at la lb
 rw [List.reverse_cons, List.getElem?_append_left (by simp; omega)] at bA bB
 have hi' : i < rA.length + rB.length := by
  have : (rA.reverse ++ rB.reverse).length = rA.length + rB.length := by simp
  have h2 : i < (rA.reverse ++ rB.reverse).length := hi
  omega
 have k := ix_aux bA bB i hi'
 have eL : (rA.reverse ++ rB.reverse).length = rA.length + rB.length := by simp
 rw [← eL] at k
 rw [← List.reverse_cons, ← List.reverse_cons] at k
 exact k
theorem pAt_some {l : List P2} {i : Nat} (h : i < l.length) : l[i]? = some (pAt l i) := by
 unfold pAt; rw [List.getElem?_eq_getElem h]; simp [List.getD, List.getElem?_eq_getElem h]
theorem Hull.cyc (h : Hull D A B z m) {x y : P2} : (∃ i, i < (A.tail.reverse ++ B.tail.reverse).length /\ pAt (A.tail.reverse ++ B.tail.reverse) i = x /\ pAt (A.tail.reverse ++ B.tail.reverse) ((i + 1) % (A.tail.reverse ++ B.tail.reverse).length) = y) ↔ Ed A B x y := by
 unfold Ed
 rw [adj_ix, adj_ix]
 have nA : A.reverse.length = A.tail.length + 1 := by have := h.lenA; simp; omega
 have nB : B.reverse.length = B.tail.length + 1 := by have := h.lenB; simp; omega
 have nH : (A.tail.reverse ++ B.tail.reverse).length = A.tail.length + B.tail.length := by simp
 have gt : ∀ {l : List P2} {i : Nat} {x : P2}, l[i]? = some x -> i < l.length := fun {l i x} hx => by
  apply Classical.byContradiction; intro hn
  rw [List.getElem?_eq_none (by omega)] at hx; cases hx
 constructor
 ·rintro ⟨i, hi, rfl, rfl⟩
  have k := h.ix i hi
  rw [pAt_some hi, pAt_some (Nat.mod_lt _ (by omega))] at k
  by_cases hl : i < A.tail.length
  ·rw [if_pos hl, if_pos hl] at k
   exact .inl ⟨i, k.1.symm, k.2.symm⟩
  ·rw [if_neg hl, if_neg hl] at k
   exact .inr ⟨_, k.1.symm, k.2.symm⟩
 ·rintro (⟨i, h1, h2⟩ | ⟨i, h1, h2⟩)
  ·have g := gt h2
   have hi : i < (A.tail.reverse ++ B.tail.reverse).length := by omega
   have k := h.ix i hi
   rw [if_pos (by omega), if_pos (by omega), h1, h2, pAt_some hi, pAt_some (Nat.mod_lt _ (by omega))] at k
   simp only [Option.some.injEq] at k
   exact ⟨i, hi, k.1, k.2⟩
  ·have g := gt h2
   have hi : i + A.tail.length < (A.tail.reverse ++ B.tail.reverse).length := by omega
   have k := h.ix (i + A.tail.length) hi
   rw [if_neg (by omega), if_neg (by omega), Nat.add_sub_cancel, h1, h2, pAt_some hi, pAt_some (Nat.mod_lt _ (by omega))] at k
   simp only [Option.some.injEq] at k
   exact ⟨_, hi, k.1, k.2⟩
end
theorem fan {v : Nat -> P2} {n : Nat} {m : P2} (h3 : 2 < n) (h : ∀ i, i < n -> 0 < sdp (v i) (v ((i + 1) % n)) m) : ∃ k, k + 1 < n /\ Wn m (v 0) (v k) (v (k + 1)) := by
 have key : ∀ k, 1 <= k -> k < n -> (∃ k, k + 1 < n /\ 0 < sdp (v 0) (v k) m /\ sdp (v 0) (v (k + 1)) m <= 0) ∨ 0 < sdp (v 0) (v k) m := by
  intro k
  induction k with
  | zero => intro h; omega
  | succ k ih =>
    intro _ hk
    by_cases e : k = 0
    ·subst e
     have := h 0 (by omega)
     rw [Nat.mod_eq_of_lt (by omega)] at this
     exact .inr this
    ·rcases ih (by omega) (by omega) with k1 | k1
     ·exact .inl k1
     ·by_cases h0 : sdp (v 0) (v (k + 1)) m <= 0
      ·exact .inl ⟨k, hk, k1, h0⟩
      ·exact .inr (by omega)
 have last := h (n - 1) (by omega)
 rw [Nat.sub_add_cancel (by omega), Nat.mod_self, sdp_neg] at last
 rcases key (n - 1) (by omega) (by omega) with ⟨k, hk, k1, k2⟩ | k1
 ·refine ⟨k, hk, ?_⟩
  have k3 := h k (by omega)
  rw [Nat.mod_eq_of_lt hk] at k3
  have e : sdp (v 0) (v k) (v (k + 1)) = sdp (v 0) (v k) m + sdp (v k) (v (k + 1)) m - sdp (v 0) (v (k + 1)) m := by unfold sdp sd; grind
  refine ⟨by omega, .inl ⟨by omega, by omega, ?_⟩⟩
  rw [sdp_neg]; omega
 ·omega
theorem nrp_iff {a b m : P2} {r : Int} (hr : 0 <= r) : nrp a b m r = true ↔ Nq a.1 a.2 b.1 b.2 m.1 m.2 1 r := nr_iff hr
section
variable {D : P2 -> Prop} {m : P2} {r : Int}
theorem ref_cv (hr : 0 <= r) (h : RefT D m r) : CvN D m.1 m.2 r := by
 rcases h with ⟨a, b, ha, hb, h⟩ | ⟨a, b, c, ha, hb, hc, h1, h2⟩
 ·obtain ⟨n, k, h1, h2, h3, h4⟩ := (nrp_iff hr).1 h
  rw [Int.mul_one] at h4
  refine ⟨(k - n) * a.1 + n * b.1, (k - n) * a.2 + n * b.2, k, h3, fun A B C hq => ?_, ?_⟩
  ·have k1 := imn (show 0 <= k - n by omega) (hq a ha)
   have k2 := imn h1 (hq b hb)
   have e : A * ((k - n) * a.1 + n * b.1) + B * ((k - n) * a.2 + n * b.2) + C * k = (k - n) * (A * a.1 + B * a.2 + C) + n * (A * b.1 + B * b.2 + C) := by grind
   omega
  ·rw [Int.one_mul, Int.one_mul] at h4
   exact h4
 ·refine ⟨m.1, m.2, 1, by omega, fun A B C hq => ?_, ?_⟩
  ·have fa := hq a ha
   have fb := hq b hb
   have fc := hq c hc
   have e : sdp a b c * (A * m.1 + B * m.2 + C * 1) = sdp b c m * (A * a.1 + B * a.2 + C) + sdp c a m * (A * b.1 + B * b.2 + C) + sdp a b m * (A * c.1 + B * c.2 + C) := by unfold sdp sd; grind
   have es : sdp a b c = sdp b c m + sdp c a m + sdp a b m := by unfold sdp sd; grind
   rcases h2 with ⟨g1, g2, g3⟩ | ⟨g1, g2, g3⟩
   ·have k1 := imn g2 fa
    have k2 := imn g3 fb
    have k3 := imn g1 fc
    exact cancel (k := sdp a b c) (by omega) (by rw [Int.mul_zero]; omega)
   ·have k1 := imn (show 0 <= -sdp b c m by omega) fa
    have k2 := imn (show 0 <= -sdp c a m by omega) fb
    have k3 := imn (show 0 <= -sdp a b m by omega) fc
    rw [Int.neg_mul] at k1 k2 k3
    exact cancel (k := -sdp a b c) (by omega) (by rw [Int.mul_zero, Int.neg_mul]; omega)
  ·rw [Int.one_mul, Int.one_mul, Int.sub_self, Int.sub_self, Int.one_mul]
   have := sq0 r
   unfold q2; omega
theorem nq_pt {a : P2} (h : q2 (m.1 - a.1) (m.2 - a.2) <= r * r) (b : P2) : Nq a.1 a.2 b.1 b.2 m.1 m.2 1 r := by
 refine ⟨0, 1, by omega, by omega, by omega, ?_⟩
 rw [show 1 * m.1 - 1 * ((1 - 0) * a.1 + 0 * b.1) = m.1 - a.1 by omega, show 1 * m.2 - 1 * ((1 - 0) * a.2 + 0 * b.2) = m.2 - a.2 by omega, show 1 * 1 * r = r by omega]
 exact h
end
theorem tp_ref {c : List P2} (hs : c.Pairwise ltP) {m : P2} {r : Int} (h : TP (hullL c) m r) : RefT (fun q => q ∈ c) m r := by
 match c, hs with
 | [], _ =>
   rcases h with ⟨i, hi, _⟩ | ⟨h, _⟩
   ·exact absurd hi (by simp [hullL])
   ·exact absurd h (by simp [hullL])
 | [a], _ =>
   rcases h with ⟨i, hi, h⟩ | ⟨h, _⟩
   ·simp only [hullL, List.length_singleton] at hi h
    have e : i = 0 := by omega
    subst e
    exact .inl ⟨a, a, by simp, by simp, h⟩
   ·exact absurd h (by simp [hullL])
 | a :: b :: l, hs =>
   obtain ⟨z, H⟩ := hull_of hs (by simp)
   unfold hullL at h
   rcases h with ⟨i, hi, h⟩ | ⟨h3, h⟩
   ·have k := H.e1 (H.cyc.1 ⟨i, hi, rfl, rfl⟩)
    exact .inl ⟨_, _, k.2.1, k.2.2.1, h⟩
   ·have h3' : 2 < ((chainS [] (a :: b :: l)).tail.reverse ++ (chainS [] (a :: b :: l).reverse).tail.reverse).length := h3
    obtain ⟨k, hk, hw⟩ := fan (n := ((chainS [] (a :: b :: l)).tail.reverse ++ (chainS [] (a :: b :: l).reverse).tail.reverse).length) h3' h
    have mem : ∀ i, i < ((chainS [] (a :: b :: l)).tail.reverse ++ (chainS [] (a :: b :: l).reverse).tail.reverse).length -> pAt ((chainS [] (a :: b :: l)).tail.reverse ++ (chainS [] (a :: b :: l).reverse).tail.reverse) i ∈ a :: b :: l := fun i hi => (H.e1 (H.cyc.1 ⟨i, hi, rfl, rfl⟩)).2.1
    exact .inr ⟨_, _, _, mem 0 (by omega), mem k (by omega), mem (k + 1) hk, hw⟩
theorem cv_tp {c : List P2} (hs : c.Pairwise ltP) (h0 : c ≠ []) {m : P2} {r : Int} (hr : 0 <= r) (h : CvN (fun q => q ∈ c) m.1 m.2 r) : TP (hullL c) m r := by
 match c, hs, h0 with
 | [a], _, _ =>
   obtain ⟨x, y, k, hk, hI, hq⟩ := h
   have i1 := hI 1 0 (-a.1) fun q hq => by simp only [List.mem_singleton] at hq; subst hq; omega
   have i2 := hI (-1) 0 a.1 fun q hq => by simp only [List.mem_singleton] at hq; subst hq; omega
   have i3 := hI 0 1 (-a.2) fun q hq => by simp only [List.mem_singleton] at hq; subst hq; omega
   have i4 := hI 0 (-1) a.2 fun q hq => by simp only [List.mem_singleton] at hq; subst hq; omega
   rw [Int.neg_mul] at i1 i3
   have ex : x = k * a.1 := by rw [Int.mul_comm]; omega
   have ey : y = k * a.2 := by rw [Int.mul_comm]; omega
   refine .inl ⟨0, by simp [hullL], (nrp_iff hr).2 (nq_pt ?_ _)⟩
   show q2 (m.1 - a.1) (m.2 - a.2) <= r * r
   rw [ex, ey, ← Int.mul_sub, ← Int.mul_sub, q2_mul] at hq
   refine cancel2 hk ?_
   have e : k * r * (k * r) = k * k * (r * r) := by grind
   omega
 | a :: b :: l, hs, _ =>
   obtain ⟨z, H⟩ := hull_of hs (by simp)
   unfold hullL
   have la := H.lenA
   have lb := H.lenB
   by_cases hf : (chainS [] (a :: b :: l)).length < 3 /\ (chainS [] (a :: b :: l).reverse).length < 3
   ·obtain ⟨eA, eB, hflat⟩ := H.flat hf.1 hf.2
    have k := flat_near H.zm H.hz H.hm hflat hr h
    have e : Ed (chainS [] (a :: b :: l)) (chainS [] (a :: b :: l).reverse) a z := .inl (by rw [eA]; exact adj_top)
    obtain ⟨i, hi, h1, h2⟩ := H.cyc.2 e
    exact .inl ⟨i, hi, by rw [h1, h2]; exact (nrp_iff hr).2 k⟩
   ·have hn : NotFlat (fun q => q ∈ a :: b :: l) := H.bend (by omega)
    by_cases hx : ∃ i, i < ((chainS [] (a :: b :: l)).tail.reverse ++ (chainS [] (a :: b :: l).reverse).tail.reverse).length /\ sdp (pAt ((chainS [] (a :: b :: l)).tail.reverse ++ (chainS [] (a :: b :: l).reverse).tail.reverse) i) (pAt ((chainS [] (a :: b :: l)).tail.reverse ++ (chainS [] (a :: b :: l).reverse).tail.reverse) ((i + 1) % ((chainS [] (a :: b :: l)).tail.reverse ++ (chainS [] (a :: b :: l).reverse).tail.reverse).length)) m <= 0
    ·obtain ⟨i, hi, hx⟩ := hx
     obtain ⟨p, q, he, hk⟩ := H.near hn hr h (e0 := (_, _)) (H.cyc.1 ⟨i, hi, rfl, rfl⟩) hx
     obtain ⟨j, hj, h1, h2⟩ := H.cyc.2 he
     exact .inl ⟨j, hj, by rw [h1, h2]; exact (nrp_iff hr).2 hk⟩
    ·refine .inr ⟨by simp only [List.length_append, List.length_reverse, List.length_tail]; omega, fun i hi => ?_⟩
     apply Classical.byContradiction; intro hn
     exact hx ⟨i, hi, Int.not_lt.1 hn⟩
theorem tp_iff {c : List P2} (hs : c.Pairwise ltP) (h0 : c ≠ []) {m : P2} {r : Int} (hr : 0 <= r) : TP (hullL c) m r ↔ RefT (fun q => q ∈ c) m r := ⟨tp_ref hs, fun h => cv_tp hs h0 hr (ref_cv hr h)⟩
end Go.Dx
namespace Go.Dx
open Go.IntKind (i64 u64 u8)
open Go.Sx
def mnTo (g : Nat -> Int) : Nat -> Int
 | 0 => g 0
 | k + 1 => min (mnTo g k) (g k)
def mxTo (g : Nat -> Int) : Nat -> Int
 | 0 => g 0
 | k + 1 => max (mxTo g k) (g k)
theorem mnTo_le {g : Nat -> Int} : ∀ {k i : Nat}, i < k -> mnTo g k <= g i
 | k + 1, i, h => by
   simp only [mnTo]
   by_cases e : i = k
   ·subst e; omega
   ·have := mnTo_le (g := g) (k := k) (i := i) (by omega); omega
theorem mxTo_ge {g : Nat -> Int} : ∀ {k i : Nat}, i < k -> g i <= mxTo g k
 | k + 1, i, h => by
   simp only [mxTo]
   by_cases e : i = k
   ·subst e; omega
   ·have := mxTo_ge (g := g) (k := k) (i := i) (by omega); omega
theorem mnTo_in {g : Nat -> Int} {B : Int} {n : Nat} (hg : ∀ i, i < n -> -B <= g i /\ g i <= B) (h0 : 0 < n) : ∀ {k : Nat}, k <= n -> -B <= mnTo g k /\ mnTo g k <= B
 | 0, _ => hg 0 h0
 | k + 1, h => by
   simp only [mnTo]
   have := mnTo_in hg h0 (k := k) (by omega)
   have := hg k (by omega); omega
theorem mxTo_in {g : Nat -> Int} {B : Int} {n : Nat} (hg : ∀ i, i < n -> -B <= g i /\ g i <= B) (h0 : 0 < n) : ∀ {k : Nat}, k <= n -> -B <= mxTo g k /\ mxTo g k <= B
 | 0, _ => hg 0 h0
 | k + 1, h => by
   simp only [mxTo]
   have := mxTo_in hg h0 (k := k) (by omega)
   have := hg k (by omega); omega
def rowF (q : Int -> Int -> Bool) (j : Int) : Nat -> Int -> List (Int × Int)
 | 0, _ => []
 | c + 1, i => bif q i j then (i, j) :: rowF q j c (i + 1) else rowF q j c (i + 1)
def gridF (q : Int -> Int -> Bool) (i0 : Int) (W : Nat) : Nat -> Int -> List (Int × Int)
 | 0, _ => []
 | h + 1, j => rowF q j W i0 ++ gridF q i0 W h (j + 1)
theorem rowF_mem {q : Int -> Int -> Bool} {j : Int} {p : Int × Int} : ∀ {c : Nat} {i : Int}, p ∈ rowF q j c i ↔ p.2 = j /\ i <= p.1 /\ p.1 < i + c /\ q p.1 p.2 = true
 | 0, i => by simp only [rowF, List.not_mem_nil, false_iff]; omega
 | c + 1, i => by
   simp only [rowF]
   cases hq : q i j with
   | true =>
     simp only [cond_true, List.mem_cons, rowF_mem (c := c)]
     constructor
     ·rintro (rfl | ⟨h1, h2, h3, h4⟩)
      ·exact ⟨rfl, by simp, by simp; omega, hq⟩
      ·exact ⟨h1, by omega, by omega, h4⟩
     ·rintro ⟨h1, h2, h3, h4⟩
      by_cases e : p.1 = i
      ·left; cases p; simp_all
      ·right; exact ⟨h1, by omega, by omega, h4⟩
   | false =>
     simp only [cond_false, rowF_mem (c := c)]
     constructor
     ·rintro ⟨h1, h2, h3, h4⟩; exact ⟨h1, by omega, by omega, h4⟩
     ·rintro ⟨h1, h2, h3, h4⟩
      by_cases e : p.1 = i
      ·rw [h1, e, hq] at h4; cases h4
      ·exact ⟨h1, by omega, by omega, h4⟩
theorem gridF_mem {q : Int -> Int -> Bool} {i0 : Int} {W : Nat} {p : Int × Int} : ∀ {h : Nat} {j : Int}, p ∈ gridF q i0 W h j ↔ (j <= p.2 /\ p.2 < j + h) /\ i0 <= p.1 /\ p.1 < i0 + W /\ q p.1 p.2 = true
 | 0, j => by simp only [gridF, List.not_mem_nil, false_iff]; omega
 | h + 1, j => by
   simp only [gridF, List.mem_append, rowF_mem, gridF_mem (h := h)]
   constructor
   ·rintro (⟨h1, h2, h3, h4⟩ | ⟨⟨h1, h2⟩, h3, h4, h5⟩)
    ·exact ⟨⟨by omega, by omega⟩, h2, h3, h4⟩
    ·exact ⟨⟨by omega, by omega⟩, h3, h4, h5⟩
   ·rintro ⟨⟨h1, h2⟩, h3, h4, h5⟩
    by_cases e : p.2 = j
    ·exact .inl ⟨e, h3, h4, h5⟩
    ·exact .inr ⟨⟨by omega, by omega⟩, h3, h4, h5⟩
theorem rowF_len {q : Int -> Int -> Bool} {j : Int} : ∀ (c : Nat) (i : Int), (rowF q j c i).length <= c
 | 0, _ => Nat.le_refl _
 | c + 1, i => by
   simp only [rowF]
   have := rowF_len (q := q) (j := j) c (i + 1)
   cases q i j <;> simp <;> omega
theorem gridF_len {q : Int -> Int -> Bool} {i0 : Int} {W : Nat} : ∀ (h : Nat) (j : Int), (gridF q i0 W h j).length <= h * W
 | 0, _ => by simp [gridF]
 | h + 1, j => by
   simp only [gridF, List.length_append, Nat.succ_mul]
   have := rowF_len (q := q) (j := j) W i0
   have := gridF_len (q := q) (i0 := i0) (W := W) h (j + 1)
   omega
theorem rowF_congr {q q' : Int -> Int -> Bool} {j : Int} : ∀ {c : Nat} {i : Int}, (∀ k, i <= k -> k < i + c -> q k j = q' k j) -> rowF q j c i = rowF q' j c i
 | 0, _, _ => rfl
 | c + 1, i, h => by simp only [rowF]; rw [h i (by omega) (by omega), rowF_congr fun k h1 h2 => h k (by omega) (by omega)]
theorem gridF_congr {q q' : Int -> Int -> Bool} {i0 : Int} {W : Nat} : ∀ {h : Nat} {j : Int}, (∀ i k, i0 <= i -> i < i0 + W -> j <= k -> k < j + h -> q i k = q' i k) -> gridF q i0 W h j = gridF q' i0 W h j
 | 0, _, _ => rfl
 | h + 1, j, hq => by simp only [gridF]; rw [rowF_congr fun k h1 h2 => hq k j h1 h2 (by omega) (by omega), gridF_congr fun i k h1 h2 h3 h4 => hq i k h1 h2 (by omega) (by omega)]
theorem grid_ind {q : Int -> Int -> Bool} {i0 i1 j0 j1 : Int} {W : Nat} {Tot : List (Int × Int)} {P1 : Int -> List (Int × Int) -> Prop} {P2 : Int -> Int -> List (Int × Int) -> Prop} (hW : i0 + W = i1 + 1)
 (row : ∀ j acc, j0 <= j -> j <= j1 -> P2 i0 j acc -> P1 j acc) (last : P1 (j1 + 1) Tot)
 (yes : ∀ i j acc, i0 <= i -> i <= i1 -> j0 <= j -> j <= j1 -> q i j = true -> acc.length + 1 <= Tot.length -> P2 (i + 1) j (acc ++ [(i, j)]) -> P2 i j acc)
 (no : ∀ i j acc, i0 <= i -> i <= i1 -> j0 <= j -> j <= j1 -> q i j = false -> P2 (i + 1) j acc -> P2 i j acc)
 (endR : ∀ j acc, j0 <= j -> j <= j1 -> P1 (j + 1) acc -> P2 (i1 + 1) j acc) :
 ∀ (h : Nat) (j : Int) (acc : List (Int × Int)), j0 <= j -> j + h = j1 + 1 -> acc ++ gridF q i0 W h j = Tot -> P1 j acc
 | 0, j, acc, _, h2, h3 => by
   simp only [gridF, List.append_nil] at h3; subst h3
   rw [show j = j1 + 1 by omega]; exact last
 | h + 1, j, acc, h1, h2, h3 => by
   refine row j acc h1 (by omega) ?_
   have key : ∀ (c : Nat) (i : Int) (acc : List (Int × Int)), i0 <= i -> i + c = i1 + 1 -> acc ++ (rowF q j c i ++ gridF q i0 W h (j + 1)) = Tot -> P2 i j acc := by
    intro c
    induction c with
    | zero =>
      intro i acc _ g2 g3
      simp only [rowF, List.nil_append] at g3
      rw [show i = i1 + 1 by omega]
      exact endR j acc h1 (by omega) (grid_ind hW row last yes no endR h (j + 1) acc (by omega) (by omega) g3)
    | succ c ih =>
      intro i acc g1 g2 g3
      simp only [rowF] at g3
      cases hq : q i j with
      | true =>
        rw [hq, cond_true] at g3
        refine yes i j acc g1 (by omega) h1 (by omega) hq (by rw [← g3]; simp) (ih (i + 1) _ (by omega) (by omega) ?_)
        rw [← g3]; simp
      | false =>
        rw [hq, cond_false] at g3
        exact no i j acc g1 (by omega) h1 (by omega) hq (ih (i + 1) _ (by omega) (by omega) g3)
   exact key W i0 acc (Int.le_refl _) hW h3
abbrev ty4 : List Ty := tp4
def v4 (a b c d : Int) : List V := [V.int .i64 a, V.int .i64 b, V.int .i64 c, V.int .i64 d]
def LR (g : Int -> Int -> List V) (n : Nat) (f : Nat -> List V) (acc : List (Int × Int)) : Prop := n = acc.length /\ ∀ k p, acc[k]? = some p -> views ty4 (f k) = g p.1 p.2
theorem LR.nil (g : Int -> Int -> List V) (f : Nat -> List V) : LR g 0 f [] := ⟨rfl, fun k p h => by simp at h⟩
theorem LR.view {g : Int -> Int -> List V} {n : Nat} {f : Nat -> List V} {acc : List (Int × Int)} (h : LR g n f acc) : LR g n (elV ty4 f) acc := ⟨h.1, fun k p hk => by show views ty4 (views ty4 (f k)) = _; rw [views_idem]; exact h.2 k p hk⟩
def boxF (g : Int -> Int -> List V) (L : List (Int × Int)) : Nat -> List V := fun k => match L[k]? with
 | some p => g p.1 p.2
 | none => []
def patE (e : Int) (bad : Bool) (m : Int) (L : List (Int × Int)) : Int := bif e != 0 then e else bif bad then 7 else bif decide (4000 < m) then 3 else bif decide (400 < L.length) then 3 else 0
def patL (e : Int) (L : List (Int × Int)) : List (Int × Int) := bif e == 0 then L else []
theorem patE_len {e : Int} {bad : Bool} {m : Int} {L : List (Int × Int)} : (patL (patE e bad m L) L).length <= 400 := by
 unfold patL patE
 cases he : e != 0 with
 | true =>
   have : (e == 0) = false := by simpa using he
   rw [cond_true, this]; simp
 | false =>
   rw [cond_false]
   cases bad with
   | true => simp
   | false =>
     simp only [cond_false]
     by_cases h1 : 4000 < m
     ·simp [h1]
     ·by_cases h2 : 400 < L.length
      ·simp [h1, h2]
      ·simp [h1, h2]; omega
end Go.Dx
namespace Go.Dx
open Go.Sx
abbrev ty2 : List Ty := [Ty.int IntKind.i64, Ty.int IntKind.i64]
def pq (f : Nat -> List V) (i : Nat) : P2 := (jv0 (f i), jv1 (f i))
def pv2 (p : P2) : List V := [V.int .i64 p.1, V.int .i64 p.2]
theorem pq_el (f : Nat -> List V) (i : Nat) : pq (elV ty2 f) i = pq f i := rfl
def ptL (n : Nat) (f : Nat -> List V) : List P2 := (List.range n).map (pq f)
theorem ptL_len (n : Nat) (f : Nat -> List V) : (ptL n f).length = n := by simp [ptL]
theorem ptL_at {n : Nat} {f : Nat -> List V} {k : Nat} (h : k < n) : (ptL n f)[k]? = some (pq f k) := by simp [ptL, h]
theorem ptL_el (n : Nat) (f : Nat -> List V) : ptL n (elV ty2 f) = ptL n f := rfl
theorem ptL_mem {n : Nat} {f : Nat -> List V} {q : P2} : q ∈ ptL n f ↔ ∃ k, k < n /\ pq f k = q := by simp [ptL]
theorem ptL_snoc (n : Nat) (f : Nat -> List V) (p : P2) : ptL (n + 1) (joinF n (elV ty2 f) fun _ => pv2 p) = ptL n f ++ [p] := by
 unfold ptL
 rw [List.range_succ, List.map_append]
 congr 1
 ·refine List.map_congr_left fun k hk => ?_
  have hk := List.mem_range.1 hk
  unfold pq joinF
  rw [show Nat.blt k n = true from Nat.ble_eq_true_of_le hk]; rfl
 ·simp only [List.map_cons, List.map_nil, List.cons.injEq, and_true]
  unfold pq joinF
  have : Nat.blt n n = false := by
   cases hb : Nat.blt n n with
   | false => rfl
   | true => have := Nat.le_of_ble_eq_true hb; omega
  rw [this]; rfl
theorem ptL_take {n m : Nat} {f : Nat -> List V} (h : m <= n) : ptL m f = (ptL n f).take m := by
 unfold ptL
 rw [← List.map_take, List.take_range, Nat.min_eq_left h]
theorem pq_set {f : Nat -> List V} {j k : Nat} {l : List V} : pq (fun i => bif Nat.beq i j then l else f i) k = if k = j then (jv0 l, jv1 l) else pq f k := by
 unfold pq
 dsimp only
 by_cases h : k = j
 ·subst h; rw [if_pos rfl, Nat.beq_refl]; rfl
 ·rw [if_neg h]
  have : Nat.beq k j = false := by
   cases hb : Nat.beq k j with
   | false => rfl
   | true => exact (h (Nat.eq_of_beq_eq_true hb)).elim
  rw [this]; rfl
theorem leP_trans {a b c : P2} (h1 : leP a b) (h2 : leP b c) : leP a c := by unfold leP at *; omega
theorem not_lt_le {a b : P2} (h : ¬ ltP a b) : leP b a := by unfold ltP leP at *; omega
theorem le_ne_lt {a b : P2} (h : leP a b) (hn : ¬ (b.1 = a.1 /\ b.2 = a.2)) : ltP a b := by unfold ltP leP at *; omega
def swF (f : Nat -> List V) (i j : Nat) : Nat -> List V := fun i' => bif Nat.beq i' j then pv2 (pq f i) else bif Nat.beq i' i then pv2 (pq f j) else elV ty2 f i'
theorem pq_sw (f : Nat -> List V) (i j k : Nat) : pq (swF f i j) k = if k = j then pq f i else if k = i then pq f j else pq f k := by
 unfold swF
 rw [pq_set]
 by_cases h : k = j
 ·rw [if_pos h, if_pos h]; rfl
 ·rw [if_neg h, if_neg h]
  have := pq_set (f := elV ty2 f) (j := i) (k := k) (l := pv2 (pq f j))
  rw [this]; rfl
section
variable {N : Nat} {D : P2 -> Prop}
def MemN (N : Nat) (D : P2 -> Prop) (f : Nat -> List V) : Prop := ∀ q, D q ↔ ∃ k, k < N /\ pq f k = q
def Srt (i : Nat) (f : Nat -> List V) : Prop := ∀ a b, a < b -> b < i -> leP (pq f a) (pq f b)
def SSr (i : Nat) (f : Nat -> List V) : Prop := ∀ a b, a < b -> b < i -> ltP (pq f a) (pq f b)
theorem mem_sw {f : Nat -> List V} {i j : Nat} (hi : i < N) (hj : j < N) (h : MemN N D f) : MemN N D (swF f i j) := fun q => by
 rw [h q]
 constructor
 ·rintro ⟨k, hk, e⟩
  by_cases h1 : k = i
  ·exact ⟨j, hj, by rw [pq_sw, if_pos rfl, ← h1]; exact e⟩
  ·by_cases h2 : k = j
   ·refine ⟨i, hi, ?_⟩
    rw [pq_sw]
    by_cases h3 : i = j
    ·rw [if_pos h3]; rw [h3, ← h2]; exact e
    ·rw [if_neg h3, if_pos rfl, ← h2]; exact e
   ·exact ⟨k, hk, by rw [pq_sw, if_neg h2, if_neg h1]; exact e⟩
 ·rintro ⟨k, hk, e⟩
  rw [pq_sw] at e
  by_cases h2 : k = j
  ·rw [if_pos h2] at e; exact ⟨i, hi, e⟩
  ·rw [if_neg h2] at e
   by_cases h1 : k = i
   ·rw [if_pos h1] at e; exact ⟨j, hj, e⟩
   ·rw [if_neg h1] at e; exact ⟨k, hk, e⟩
theorem sort_ind {P0 : Nat -> (Nat -> List V) -> Prop} {P1 : Nat -> Nat -> (Nat -> List V) -> Prop}
 (s0 : ∀ i f, 1 <= i -> i < N -> P1 i i (elV ty2 f) -> P0 i f)
 (s0e : ∀ f, Srt N f -> MemN N D f -> P0 N f)
 (s1a : ∀ j i f, 0 < j -> j <= i -> i < N -> MemN N D f -> ltP (pq f j) (pq f (j - 1)) -> P1 (j - 1) i (swF f j (j - 1)) -> P1 j i f)
 (s1b : ∀ j i f, j <= i -> i < N -> MemN N D f -> (0 < j -> ¬ ltP (pq f j) (pq f (j - 1))) -> P0 (i + 1) (elV ty2 f) -> P1 j i f) :
 ∀ m i f, i + m = N -> 1 <= i -> Srt i f -> MemN N D f -> P0 i f
 | 0, i, f, h1, _, h2, h3 => by
   rw [show i = N by omega] at h2 ⊢; exact s0e f h2 h3
 | m + 1, i, f, h1, hi, h2, h3 => by
   refine s0 i f hi (by omega) ?_
   have key : ∀ j f, j <= i -> (∀ a b, a < b -> b <= i -> b ≠ j -> leP (pq f a) (pq f b)) -> MemN N D f -> P1 j i f := by
    intro j
    induction j with
    | zero =>
      intro f hj hins hm
      refine s1b 0 i f hj (by omega) hm (fun h => by omega) (sort_ind s0 s0e s1a s1b m (i + 1) _ (by omega) (by omega) (fun a b hab hb => ?_) hm)
      exact hins a b hab (by omega) (by omega)
    | succ j ih =>
      intro f hj hins hm
      by_cases hlt : ltP (pq f (j + 1)) (pq f j)
      ·refine s1a (j + 1) i f (by omega) hj (by omega) hm hlt (ih _ (by omega) (fun a b hab hb hbj => ?_) (mem_sw (by omega) (by omega) hm))
       simp only [Nat.add_sub_cancel] at *
       rw [pq_sw, pq_sw]
       by_cases b1 : b = j + 1
       ·subst b1
        rw [if_neg (by omega : ¬ j + 1 = j), if_pos rfl]
        by_cases a1 : a = j
        ·rw [if_pos a1]; exact leP_of hlt
        ·rw [if_neg a1, if_neg (by omega)]
         exact hins a j (by omega) (by omega) (by omega)
       ·rw [if_neg hbj, if_neg b1]
        by_cases a1 : a = j
        ·rw [if_pos a1]; exact hins (j + 1) b (by omega) hb (by omega)
        ·rw [if_neg a1]
         by_cases a2 : a = j + 1
         ·rw [if_pos a2]; exact hins j b (by omega) hb (by omega)
         ·rw [if_neg a2]; exact hins a b hab hb (by omega)
      ·refine s1b (j + 1) i f hj (by omega) hm (fun _ => hlt) (sort_ind s0 s0e s1a s1b m (i + 1) _ (by omega) (by omega) (fun a b hab hb => ?_) hm)
       rw [pq_el, pq_el]
       by_cases b1 : b = j + 1
       ·subst b1
        have k := not_lt_le hlt
        by_cases a1 : a = j
        ·subst a1; exact k
        ·exact leP_trans (hins a j (by omega) (by omega) (by omega)) k
       ·exact hins a b hab (by omega) b1
   exact key i _ (Nat.le_refl _) (fun a b hab hb hbi => h2 a b hab (by omega)) h3
theorem comp_ind {P2' : Nat -> (Nat -> List V) -> Prop} {P3 : Nat -> Nat -> Nat -> (Nat -> List V) -> Prop}
 (ce : ∀ f, SSr N f -> MemN N D f -> P2' N f)
 (cn : ∀ i f, 1 <= i -> i < N -> ¬ ((pq f i).1 = (pq f (i - 1)).1 /\ (pq f i).2 = (pq f (i - 1)).2) -> P2' (i + 1) (elV ty2 f) -> P2' i f)
 (cd : ∀ i f, 1 <= i -> i < N -> ((pq f i).1 = (pq f (i - 1)).1 /\ (pq f i).2 = (pq f (i - 1)).2) -> P3 1 i i (elV ty2 f) -> P2' i f)
 (ds : ∀ k off m f, 1 <= k -> off + k < N -> 1 <= m -> m <= off + k - 1 -> ¬ ((pq f (off + k)).1 = (pq f (off + (k - 1))).1 /\ (pq f (off + k)).2 = (pq f (off + (k - 1))).2) ->
   P3 (k + 1) off (m + 1) (fun i' => bif Nat.beq i' m then pv2 (pq f (off + k)) else elV ty2 f i') -> P3 k off m f)
 (dn : ∀ k off m f, 1 <= k -> off + k < N -> 1 <= m -> m <= off + k - 1 -> ((pq f (off + k)).1 = (pq f (off + (k - 1))).1 /\ (pq f (off + k)).2 = (pq f (off + (k - 1))).2) -> P3 (k + 1) off m (elV ty2 f) -> P3 k off m f)
 (de : ∀ off m f, off < N -> 1 <= m -> m < N -> SSr m f -> MemN m D f -> P3 (N - off) off m f) :
 ∀ m i f, i + m = N -> 1 <= i -> Srt N f -> SSr i f -> MemN N D f -> P2' i f
 | 0, i, f, h1, _, _, h2, h3 => by
   rw [show i = N by omega] at h2 ⊢; exact ce f h2 h3
 | m + 1, i, f, h1, hi, hS, h2, h3 => by
   by_cases he : (pq f i).1 = (pq f (i - 1)).1 /\ (pq f i).2 = (pq f (i - 1)).2
   ·refine cd i f hi (by omega) he ?_
    have key : ∀ r k m g, k + r = N - i -> 1 <= k -> i <= m -> m <= i + k - 1 -> (∀ t, i + k - 1 <= t -> t < N -> pq g t = pq f t) -> SSr m g -> (∀ q, (∃ a, a < m /\ pq g a = q) ↔ ∃ a, a < i + k /\ pq f a = q) -> pq g (m - 1) = pq f (i + k - 1) -> P3 k i m g := by
     intro r
     induction r with
     | zero =>
       intro k m g hk hk1 him hm hu hss hmem hl
       rw [show k = N - i by omega] at *
       refine de i m g (by omega) (by omega) (by omega) hss fun q => ?_
       rw [h3 q, hmem q, show i + (N - i) = N by omega]
     | succ r ih =>
       intro k m g hk hk1 him hm hu hss hmem hl
       have u1 := hu (i + k) (by omega) (by omega)
       have u2 := hu (i + (k - 1)) (by omega) (by omega)
       rw [show i + k - 1 = i + (k - 1) by omega] at hl
       by_cases hd : (pq g (i + k)).1 = (pq g (i + (k - 1))).1 /\ (pq g (i + k)).2 = (pq g (i + (k - 1))).2
       ·refine dn k i m g hk1 (by omega) (by omega) hm hd (ih (k + 1) m _ (by omega) (by omega) him (by omega) (fun t ht => hu t (by omega)) hss (fun q => ?_) ?_)
        ·have := hmem q
         simp only [pq_el]
         rw [this]
         constructor
         ·rintro ⟨a, ha, e⟩; exact ⟨a, by omega, e⟩
         ·rintro ⟨a, ha, e⟩
          by_cases ea : a = i + k
          ·subst ea
           refine ⟨i + (k - 1), by omega, ?_⟩
           rw [← e, ← u1, ← u2]; exact (Prod.ext hd.1 hd.2).symm
          ·exact ⟨a, by omega, e⟩
        ·rw [pq_el, hl, show i + (k + 1) - 1 = i + k by omega, ← u1, ← u2]; exact (Prod.ext hd.1 hd.2).symm
       ·have hlt : ltP (pq g (m - 1)) (pq g (i + k)) := by
         refine le_ne_lt ?_ ?_
         ·rw [hl, u1]; exact hS _ _ (by omega) (by omega)
         ·rw [hl, ← u2]; exact hd
        have hs : ∀ t, pq (fun i' => bif Nat.beq i' m then pv2 (pq g (i + k)) else elV ty2 g i') t = if t = m then pq g (i + k) else pq g t := fun t => by rw [pq_set]; rfl
        refine ds k i m g hk1 (by omega) (by omega) hm hd (ih (k + 1) (m + 1) _ (by omega) (by omega) (by omega) (by omega) (fun t ht htN => ?_) (fun a b hab hb => ?_) (fun q => ?_) ?_)
        ·rw [hs, if_neg (by omega)]; exact hu t (by omega) htN
        ·rw [hs, hs]
         by_cases b1 : b = m
         ·rw [if_neg (by omega), if_pos b1]
          by_cases a1 : a = m - 1
          ·rw [a1]; exact hlt
          ·exact ltP_trans (hss a (m - 1) (by omega) (by omega)) hlt
         ·rw [if_neg (by omega), if_neg b1]; exact hss a b hab (by omega)
        ·constructor
         ·rintro ⟨a, ha, e⟩
          rw [hs] at e
          by_cases a1 : a = m
          ·rw [if_pos a1] at e; exact ⟨i + k, by omega, by rw [← u1]; exact e⟩
          ·rw [if_neg a1] at e
           obtain ⟨c, hc, e'⟩ := (hmem q).1 ⟨a, by omega, e⟩
           exact ⟨c, by omega, e'⟩
         ·rintro ⟨a, ha, e⟩
          by_cases a1 : a = i + k
          ·exact ⟨m, by omega, by rw [hs, if_pos rfl, u1, ← a1]; exact e⟩
          ·obtain ⟨c, hc, e'⟩ := (hmem q).2 ⟨a, by omega, e⟩
           exact ⟨c, by omega, by rw [hs, if_neg (by omega)]; exact e'⟩
        ·rw [hs, Nat.add_sub_cancel, if_pos rfl, show i + (k + 1) - 1 = i + k by omega, u1]
    refine key (N - i - 1) 1 i _ (by omega) (Nat.le_refl _) (Nat.le_refl _) (by omega) (fun t _ _ => pq_el f t) h2 (fun q => ?_) ?_
    ·simp only [pq_el]
     constructor
     ·rintro ⟨a, ha, e⟩; exact ⟨a, by omega, e⟩
     ·rintro ⟨a, ha, e⟩
      by_cases ea : a = i
      ·subst ea; exact ⟨a - 1, by omega, by rw [← e]; exact (Prod.ext he.1 he.2).symm⟩
      ·exact ⟨a, by omega, e⟩
    ·rw [pq_el, show i + 1 - 1 = i by omega]; exact (Prod.ext he.1 he.2).symm
   ·refine cn i f hi (by omega) he (comp_ind ce cn cd ds dn de m (i + 1) _ (by omega) (by omega) hS (fun a b hab hb => ?_) h3)
    rw [pq_el, pq_el]
    by_cases b1 : b = i
    ·subst b1
     have hlt : ltP (pq f (b - 1)) (pq f b) := le_ne_lt (hS _ _ (by omega) (by omega)) he
     by_cases a1 : a = b - 1
     ·rw [a1]; exact hlt
     ·exact ltP_trans (h2 a (b - 1) (by omega) (by omega)) hlt
    ·exact h2 a b hab (by omega)
end
theorem rev_ind {N : Nat} {g : Nat -> P2} {P : Nat -> Nat -> (Nat -> List V) -> Prop} (r1 : ∀ i j f, i < j -> j < N -> P (i + 1) (j - 1) (swF f i j) -> P i j f)
 (r2 : ∀ i j f, ¬ i < j -> (∀ k, k < N -> pq f k = g (N - 1 - k)) -> P i j f) :
 ∀ m i j f, j - i <= m -> i + j + 1 = N -> (∀ k, k < N -> pq f k = if k < i ∨ j < k then g (N - 1 - k) else g k) -> P i j f
 | m, i, j, f, hm, hN, h => by
   by_cases hij : i < j
   ·match m, hm with
    | 0, hm => omega
    | m + 1, hm =>
      refine r1 i j f hij (by omega) (rev_ind r1 r2 m (i + 1) (j - 1) _ (by omega) (by omega) fun k hk => ?_)
      rw [pq_sw]
      by_cases k1 : k = j
      ·rw [if_pos k1, if_pos (by omega), h i (by omega), if_neg (by omega), show N - 1 - k = i by omega]
      ·rw [if_neg k1]
       by_cases k2 : k = i
       ·rw [if_pos k2, if_pos (by omega), h j (by omega), if_neg (by omega), show N - 1 - k = j by omega]
       ·rw [if_neg k2, h k hk]
        by_cases k3 : k < i ∨ j < k
        ·rw [if_pos k3, if_pos (by omega)]
        ·rw [if_neg k3, if_neg (by omega)]
   ·refine r2 i j f hij fun k hk => ?_
    rw [h k hk]
    by_cases k3 : k < i ∨ j < k
    ·rw [if_pos k3]
    ·rw [if_neg k3, show N - 1 - k = k by omega]
theorem chain_ind {base c : List P2} {PO : Nat -> Nat -> (Nat -> List V) -> Prop} {PI : Nat -> Nat -> Nat -> (Nat -> List V) -> Prop} {M : Nat} (hM : base.length + c.length <= M)
 (hO : ∀ i n fo, i < c.length -> n <= M -> PI i n n (elV ty2 fo) -> PO i n fo)
 (hpop : ∀ i n cap fo, i < c.length -> base.length + 1 < n -> n <= cap -> cap <= M -> (∀ k, k < n -> pq fo k ∈ base ∨ pq fo k ∈ c) -> sdp (pq fo (n - 2)) (pq fo (n - 1)) (pAt c i) <= 0 -> PI i (n - 1) cap (elV ty2 fo) -> PI i n cap fo)
 (happ : ∀ i n cap fo, i < c.length -> base.length <= n -> (∀ k, k < n -> pq fo k ∈ base ∨ pq fo k ∈ c) -> (base.length + 1 < n -> 0 < sdp (pq fo (n - 2)) (pq fo (n - 1)) (pAt c i)) -> n <= cap -> cap <= M -> PO (i + 1) (n + 1) (joinF n (elV ty2 fo) fun _ => pv2 (pAt c i)) -> PI i n cap fo)
 (hE : ∀ n fo, ptL n fo = base ++ (chainS [] c).reverse -> PO c.length n fo) :
 ∀ (l done st : List P2) (n : Nat) (fo : Nat -> List V), c = done ++ l -> chainS st l = chainS [] c -> ptL n fo = base ++ st.reverse -> st.length <= done.length -> (∀ q ∈ st, q ∈ c) -> PO done.length n fo
 | [], done, st, n, fo, h1, h2, h3, _, _ => by
   rw [List.append_nil] at h1
   rw [← h1]
   simp only [chainS] at h2
   exact hE n fo (by rw [h3, h2])
 | p :: l, done, st, n, fo, h1, h2, h3, h4, h5 => by
   have hlen : done.length < c.length := by rw [h1]; simp
   have hp : pAt c done.length = p := by
    have := pAt_some (l := c) hlen
    rw [h1, List.getElem?_append_right (Nat.le_refl _), Nat.sub_self] at this
    simp only [List.getElem?_cons_zero, Option.some.injEq] at this
    rw [h1]; exact this.symm
   have hnn : ∀ {st : List P2} {n fo}, ptL n fo = base ++ st.reverse -> n = base.length + st.length := fun {st n fo} h => by
    have := congrArg List.length h
    rwa [ptL_len, List.length_append, List.length_reverse] at this
   have hn := hnn h3
   have hpc : p ∈ c := by rw [h1]; simp
   have hel : ∀ {st : List P2} {n fo}, (∀ q ∈ st, q ∈ c) -> ptL n fo = base ++ st.reverse -> ∀ k, k < n -> pq fo k ∈ base ∨ pq fo k ∈ c := fun {st n fo} hs h k hk => by
    have : pq fo k ∈ base ++ st.reverse := by rw [← h]; exact ptL_mem.2 ⟨k, hk, rfl⟩
    rcases List.mem_append.1 this with h | h
    ·exact .inl h
    ·exact .inr (hs _ (List.mem_reverse.1 h))
   refine hO done.length n fo hlen (by omega) ?_
   have fin : ∀ (st' : List P2) (n : Nat) (fo : Nat -> List V), popS p st' = st' -> st'.length <= done.length -> (∀ q ∈ st', q ∈ c) -> popS p st' = popS p st -> ptL n fo = base ++ st'.reverse -> PO (done.length + 1) (n + 1) (joinF n (elV ty2 fo) fun _ => pv2 (pAt c done.length)) := fun st' n fo e0 hl' hs' e hl => by
    have := chain_ind hM hO hpop happ hE l (done ++ [p]) (p :: st') (n + 1) (joinF n (elV ty2 fo) fun _ => pv2 (pAt c done.length)) (by rw [h1]; simp) (by rw [← h2]; simp only [chainS]; rw [← e, e0]) (by rw [ptL_snoc, hl, hp]; simp) (by simp; omega) (fun q hq => by
     rcases List.mem_cons.1 hq with rfl | hq
     ·exact hpc
     ·exact hs' q hq)
    rwa [List.length_append, List.length_singleton] at this
   have key : ∀ (st' : List P2) (n : Nat) (fo : Nat -> List V), st'.length <= done.length -> (∀ q ∈ st', q ∈ c) -> popS p st' = popS p st -> ptL n fo = base ++ st'.reverse -> ∀ cap, n <= cap -> cap <= M -> PI done.length n cap fo := by
    intro st'
    induction st' with
    | nil =>
      intro n fo hsl hss hpop' hl cap hc hcM
      have hn' := hnn hl
      simp only [List.length_nil] at hn'
      refine happ done.length n cap fo hlen (by omega) (hel hss hl) (fun h => by omega) hc hcM (fin [] n fo rfl hsl hss hpop' hl)
    | cons b st' ih =>
      intro n fo hsl hss hpop' hl cap hc hcM
      cases st' with
      | nil =>
        have hn' := hnn hl
        simp only [List.length_cons, List.length_nil] at hn'
        exact happ done.length n cap fo hlen (by omega) (hel hss hl) (fun h => by omega) hc hcM (fin [b] n fo rfl hsl hss hpop' hl)
      | cons a l' =>
        have hn' := hnn hl
        simp only [List.length_cons] at hn'
        have e1 : pq fo (n - 1) = b := by
         have := ptL_at (f := fo) (n := n) (k := n - 1) (by omega)
         rw [hl, List.getElem?_append_right (by omega), List.reverse_cons, List.reverse_cons, List.getElem?_append_right (by simp; omega)] at this
         have e : n - 1 - base.length - (l'.reverse ++ [a]).length = 0 := by simp; omega
         rw [e] at this
         simp only [List.getElem?_cons_zero, Option.some.injEq] at this
         exact this.symm
        have e2 : pq fo (n - 2) = a := by
         have := ptL_at (f := fo) (n := n) (k := n - 2) (by omega)
         rw [hl, List.getElem?_append_right (by omega), List.reverse_cons, List.reverse_cons, List.getElem?_append_left (by simp; omega), List.getElem?_append_right (by simp; omega)] at this
         have e : n - 2 - base.length - l'.reverse.length = 0 := by simp; omega
         rw [e] at this
         simp only [List.getElem?_cons_zero, Option.some.injEq] at this
         exact this.symm
        by_cases hs : sdp a b p <= 0
        ·refine hpop done.length n cap fo hlen (by omega) hc hcM (hel hss hl) (by rw [e1, e2, hp]; exact hs) (ih (n - 1) _ (by simp only [List.length_cons] at hsl ⊢; omega) (fun q hq => hss q (List.mem_cons_of_mem _ hq)) ?_ ?_ cap (by omega) hcM)
         ·rw [← hpop']
          simp only [popS]
          rw [dqt hs]; rfl
         ·rw [ptL_el, ptL_take (n := n) (by omega), hl]
          rw [List.reverse_cons (a := b), ← List.append_assoc, List.take_append_of_le_length (by simp; omega), List.take_of_length_le (by simp; omega)]
        ·refine happ done.length n cap fo hlen (by omega) (hel hss hl) (fun _ => by rw [e1, e2, hp]; omega) hc hcM (fin (b :: a :: l') n fo ?_ hsl hss hpop' hl)
         simp only [popS]
         rw [dqf hs]; rfl
   exact key st n (elV ty2 fo) h4 h5 rfl h3 n (Nat.le_refl _) (by omega)
noncomputable section
def SmP (p : P2) : Prop := sm p.1 /\ sm p.2
theorem cmpT {a b : P2} (ha : SmP a) (hb : SmP b) : decide (F140_0 a.1 a.2 b.1 b.2 < 0) = true ↔ ltP a b := by
 unfold SmP sm at ha hb
 unfold F140_0 ltP
 rw [decide_eq_true_eq]
 by_cases h : a.1 = b.1
 ·have : (a.1 != b.1) = false := by simp [h]
  rw [this, cond_false, wrapI (by omega) (by omega)]; omega
 ·have : (a.1 != b.1) = true := by simp [h]
  rw [this, cond_true, wrapI (by omega) (by omega)]; omega
theorem sdT {a b p : P2} (ha : SmP a) (hb : SmP b) (hp : SmP p) : F78_0 a.1 a.2 b.1 b.2 p.1 p.2 = sdp a b p := by
 unfold F78_0; exact (sd_p ha.1 ha.2 hb.1 hb.2 hp.1 hp.2).1
theorem nrT {a b p : P2} {r : Int} (ha : SmP a) (hb : SmP b) (hp : SmP p) (h7 : 0 <= r) (h8 : r <= 1073741824) : F103_0 a.1 a.2 b.1 b.2 p.1 p.2 r = nrp a b p r := near_p ha.1 ha.2 hb.1 hb.2 hp.1 hp.2 h7 h8
theorem eqB (a b c d : Int) : (a == b && (c == d && true)) = decide (a = b /\ c = d) := by
 by_cases h1 : a = b <;> by_cases h2 : c = d <;> simp [h1, h2]
theorem wm1 {j : Nat} (h : 0 < j) (hj : j <= 1000) : IntKind.i64.wrap ((j : Int) - 1) = ((j - 1 : Nat) : Int) := by rw [wrapI (by omega) (by omega)]; omega
theorem wm2 {j : Nat} (h : 1 < j) (hj : j <= 1000) : IntKind.i64.wrap ((j : Int) - 2) = ((j - 2 : Nat) : Int) := by rw [wrapI (by omega) (by omega)]; omega
theorem wp1 {j : Nat} (hj : j <= 1000) : IntKind.i64.wrap ((j : Int) + 1) = ((j + 1 : Nat) : Int) := by rw [wrapI (by omega) (by omega)]; omega
theorem inStep {S : Type} {Nx : S -> V -> Prop} {r : V} {C b1 b2 b3 b4 s : Bool} {X Y Z : RT S} (hb : C = true -> b1 = true /\ b2 = true /\ b3 = true /\ b4 = true) (hX : C = true -> s = true -> evR Nx X r) (hY : C = true -> s = false -> evR Nx Y r) (hZ : C = false -> evR Nx Z r) :
 evR Nx (.obi (.obi (.obi (.obi (.obj C b1 (.obi (.obj C b2 (.obi (.obi (.obi (.obi (.obj C b3 (.obi (.obj C b4 (.obi (.obi (.br C (.ob C (.ob C (.obc (.obt (.br s X Y))))) Z))))))))))))))))) r :=
 evObi (evObi (evObi (evObi (evObj (fun h => (hb h).1) (evObi (evObj (fun h => (hb h).2.1) (evObi (evObi (evObi (evObi (evObj (fun h => (hb h).2.2.1) (evObi (evObj (fun h => (hb h).2.2.2) (evObi (evObi (evBr (fun h => evOb h (evOb h (evObc (evObt (evBr (hX h) (hY h)))))) hZ))))))))))))))))
def tpB (H : List P2) (m : P2) (r : Int) : Bool := @decide (TP H m r) (Classical.propDecidable _)
theorem tpB_t {H : List P2} {m : P2} {r : Int} (h : TP H m r) : tpB H m r = true := @dqt _ (Classical.propDecidable _) h
theorem tpB_f {H : List P2} {m : P2} {r : Int} (h : ¬ TP H m r) : tpB H m r = false := @dqf _ (Classical.propDecidable _) h
theorem app_ok {n cap : Nat} (h : n <= cap) (hc : cap <= 1000) : (decide (n <= cap /\ (n + 1) * 16 <= 140737488355328) && !Nat.beq 16 0) = true := by
 rw [Bool.and_eq_true]; exact ⟨dqt ⟨h, by omega⟩, rfl⟩
theorem ptL_pAt {n : Nat} {f : Nat -> List V} {k : Nat} (h : k < n) : pAt (ptL n f) k = pq f k := by
 have h1 := pAt_some (l := ptL n f) (i := k) (by rw [ptL_len]; exact h)
 rw [ptL_at h] at h1
 exact (Option.some.inj h1).symm
theorem hullL_eq {c : List P2} (h : 2 <= c.length) : hullL c = (chainS [] c).tail.reverse ++ (chainS [] c.reverse).tail.reverse := by
 match c, h with
 | a :: b :: l, _ => rfl
theorem SSr.cong {m : Nat} {f g : Nat -> List V} (h : SSr m f) (e : ∀ k, k < m -> pq g k = pq f k) : SSr m g := fun a b h1 h2 => by rw [e a (by omega), e b h2]; exact h a b h1 h2
theorem MemN.cong {m : Nat} {D : P2 -> Prop} {f g : Nat -> List V} (h : MemN m D f) (e : ∀ k, k < m -> pq g k = pq f k) : MemN m D g := fun q => by
 rw [h q]
 exact ⟨fun ⟨k, hk, h⟩ => ⟨k, hk, by rw [e k hk]; exact h⟩, fun ⟨k, hk, h⟩ => ⟨k, hk, by rw [← e k hk]; exact h⟩⟩
theorem pq_clr {f : Nat -> List V} {l : List V} {m n k : Nat} (h : k < m) : pq (fun i => bif Nat.ble m i && Nat.ble i.succ n then l else elV ty2 f i) k = pq f k := by
 unfold pq
 dsimp only
 have : Nat.ble m k = false := by
  cases hb : Nat.ble m k with
  | false => rfl
  | true => have := Nat.le_of_ble_eq_true hb; omega
 rw [this]; rfl
theorem ptL_pw {m : Nat} {f : Nat -> List V} (h : SSr m f) : (ptL m f).Pairwise ltP := by
 unfold ptL
 rw [List.pairwise_map]
 refine List.Pairwise.imp_of_mem ?_ (List.pairwise_lt_range (n := m))
 intro a b ha hb hab
 exact h a b hab (List.mem_range.1 hb)
theorem ptL_rev {m : Nat} {f g : Nat -> List V} (h : ∀ k, k < m -> pq g k = pq f (m - 1 - k)) : ptL m g = (ptL m f).reverse := by
 apply List.ext_getElem?
 intro k
 by_cases hk : k < m
 ·rw [ptL_at hk, List.getElem?_reverse (by rw [ptL_len]; exact hk), ptL_len, ptL_at (by omega), h k hk]
 ·rw [List.getElem?_eq_none (by rw [ptL_len]; omega), List.getElem?_eq_none (by rw [List.length_reverse, ptL_len]; omega)]
theorem ptL_cong {m : Nat} {f g : Nat -> List V} (h : ∀ k, k < m -> pq g k = pq f k) : ptL m g = ptL m f := by
 unfold ptL; exact List.map_congr_left fun k hk => h k (List.mem_range.1 hk)
theorem ptL_last {n : Nat} {f : Nat -> List V} {base st : List P2} (h : ptL n f = base ++ st.reverse) (hs : st ≠ []) : 0 < n /\ ptL (n - 1) f = base ++ st.tail.reverse /\ n = base.length + st.length /\ 0 < st.length := by
 have hl := congrArg List.length h
 rw [ptL_len, List.length_append, List.length_reverse] at hl
 match st, hs with
 | s :: l, _ =>
   simp only [List.length_cons] at hl
   refine ⟨by omega, ?_, by simp only [List.length_cons]; omega, by simp⟩
   rw [ptL_take (n := n) (by omega), h, List.reverse_cons, ← List.append_assoc, List.take_append_of_le_length (by simp; omega), List.take_of_length_le (by simp; omega)]; rfl
theorem popS_sub {p q : P2} : ∀ {st : List P2}, q ∈ popS p st -> q ∈ st
 | [], h => h
 | [s], h => h
 | b :: a :: l, h => by
   simp only [popS] at h
   cases hd : decide (sdp a b p <= 0) with
   | true => rw [hd] at h; exact List.mem_cons_of_mem _ (popS_sub h)
   | false => rw [hd] at h; exact h
theorem chainS_sub {q : P2} : ∀ {l st : List P2}, q ∈ chainS st l -> q ∈ st ∨ q ∈ l
 | [], st, h => .inl h
 | p :: l, st, h => by
   simp only [chainS] at h
   rcases chainS_sub h with h | h
   ·rcases List.mem_cons.1 h with rfl | h
    ·exact .inr (by simp)
    ·exact .inl (popS_sub h)
   ·exact .inr (List.mem_cons_of_mem _ h)
theorem chainS_ne : ∀ {l st : List P2}, st ≠ [] ∨ l ≠ [] -> chainS st l ≠ []
 | [], st, h => by
   rcases h with h | h
   ·exact h
   ·exact (h rfl).elim
 | p :: l, st, _ => chainS_ne (l := l) (.inl (by simp))
theorem popS_len {p : P2} : ∀ {st : List P2}, (popS p st).length <= st.length
 | [] => Nat.le_refl _
 | [_] => Nat.le_refl _
 | b :: a :: l => by
   simp only [popS]
   cases decide (sdp a b p <= 0) with
   | true => have := popS_len (p := p) (st := a :: l); simp only [List.length_cons, cond_true] at *; omega
   | false => exact Nat.le_refl _
theorem chainS_len : ∀ {l st : List P2}, (chainS st l).length <= st.length + l.length
 | [], st => Nat.le_refl _
 | p :: l, st => by
   simp only [chainS]
   have := chainS_len (l := l) (st := p :: popS p st)
   have := popS_len (p := p) (st := st)
   simp only [List.length_cons] at *; omega
theorem hullL_sub {q : P2} {c : List P2} (h : q ∈ hullL c) : q ∈ c := by
 match c, h with
 | [a], h => exact h
 | a :: b :: l, h =>
   rcases List.mem_append.1 h with h | h
   ·rcases chainS_sub (List.mem_of_mem_tail (List.mem_reverse.1 h)) with h | h
    ·cases h
    ·exact h
   ·rcases chainS_sub (List.mem_of_mem_tail (List.mem_reverse.1 h)) with h | h
    ·cases h
    ·exact List.mem_reverse.1 h
theorem hull2 {c : List P2} (h : c.length < 3) : hullL c = c := by
 match c, h with
 | [], _ => rfl
 | [a], _ => rfl
 | [a, b], _ => rfl
theorem hullL_pos {c : List P2} (hs : c.Pairwise ltP) (h : c ≠ []) : 0 < (hullL c).length := by
 match c, hs, h with
 | [a], _, _ => simp [hullL]
 | a :: b :: l, hs, _ =>
   obtain ⟨z, H⟩ := hull_of hs (by simp)
   have := H.lenA
   simp only [hullL, List.length_append, List.length_reverse, List.length_tail]; omega
def refB (L : List P2) (m : P2) (r : Int) : Bool := @decide (RefT (fun q => q ∈ L) m r) (Classical.propDecidable _)
theorem tp_refB {c L : List P2} (hs : c.Pairwise ltP) (h0 : c ≠ []) (hm : ∀ q, q ∈ L ↔ q ∈ c) {m : P2} {r : Int} (hr : 0 <= r) : tpB (hullL c) m r = refB L m r := by
 unfold tpB refB
 have : RefT (fun q => q ∈ L) m r ↔ TP (hullL c) m r := by
  rw [tp_iff hs h0 hr, show (fun q => q ∈ L) = fun q => q ∈ c from funext fun q => propext (hm q)]
 by_cases h : TP (hullL c) m r
 ·rw [@dqt _ (Classical.propDecidable _) h, @dqt _ (Classical.propDecidable _) (this.2 h)]
 ·rw [@dqf _ (Classical.propDecidable _) h, @dqf _ (Classical.propDecidable _) fun g => h (this.1 g)]
end
end Go.Dx
namespace Go.Dx
open Go.IntKind (i64 u64 u8)
open Go.Sx Go.Proofs
noncomputable section
def ctB29 : CTab := [(131, .con CB131), (19, .con C19), (22, .con C22), (15, .con C15), (55, .con C55), (61, .con C61), (108, .con C108), (46, .con C46), (111, .con C111), (56, .con C56), (47, .con C47), (145, .con C145), (140, .con C140), (49, .con C49), (52, .con C52), (123, .con C123), (50, .con C50), (44, .con C44), (91, .con C91), (24, .con C24), (23, .con C23), (70, .con C70), (62, .con C62), (68, .con C68), (63, .con C63), (69, .con C69), (117, .inl s117 u0), (116, .inl s116 u0), (115, .con C115), (114, .con C114), (73, .con C73), (147, .con C147), (64, .con C64), (66, .con C66), (113, .con C113), (65, .con C65), (67, .con C67), (53, .con C53), (58, .con C58), (122, .con C122), (72, .con C72), (45, .con C45), (90, .con C90), (119, .con C119), (121, .con C121), (99, .con C99), (129, .con C129), (148, .con C148), (149, .con C149), (112, .con C112), (118, .con C118), (120, .con C120), (51, .con C51), (133, .con C133), (103, .con C103), (106, .con C106), (110, .con C110), (100, .con C100), (134, .con C134), (135, .con C135), (137, .con C137), (138, .con C138), (78, .con C78), (54, .con C54), (59, .con C59), (48, .con C48), (102, .con C102), (104, .con C104), (105, .con C105), (107, .con C107), (171, .con C171), (84, .con C84), (85, .con C85), (127, .con C127), (101, .con C101), (86, .con C86), (71, .con C71), (93, .con C93), (92, .con C92), (79, .con C79), (136, .con C136), (144, .con C144), (162, .con C162), (146, .con C146), (83, .inl s83 u0), (109, .inl s109 u0), (139, .inl s139 u0), (177, .inl s177 u0), (141, .inl s141 u0), (142, .inl s142 u0), (143, .inl s143 u0), (163, .inl s163 u5)]
theorem tabB29 : TabOk Tryz.prog eqs its ctB29 := .con okB131 (.con ok19 (.con ok22 (.con ok15 (.con ok55 (.con ok61 (.con ok108 (.con ok46 (.con ok111 (.con ok56 (.con ok47 (.con ok145 (.con ok140 (.con ok49 (.con ok52 (.con ok123 (.con ok50 (.con ok44 (.con ok91 (.con ok24 (.con ok23 (.con ok70 (.con ok62 (.con ok68 (.con ok63 (.con ok69 (.inl Tryz.func117 (by kernel_rfl) (by kernel_rfl) (by kernel_rfl) (.inl Tryz.func116 (by kernel_rfl) (by kernel_rfl) (by kernel_rfl) (.con ok115 (.con ok114 (.con ok73 (.con ok147 (.con ok64 (.con ok66 (.con ok113 (.con ok65 (.con ok67 (.con ok53 (.con ok58 (.con ok122 (.con ok72 (.con ok45 (.con ok90 (.con ok119 (.con ok121 (.con ok99 (.con ok129 (.con ok148 (.con ok149 (.con ok112 (.con ok118 (.con ok120 (.con ok51 (.con ok133 (.con ok103 (.con ok106 (.con ok110 (.con ok100 (.con ok134 (.con ok135 (.con ok137 (.con ok138 (.con ok78 (.con ok54 (.con ok59 (.con ok48 (.con ok102 (.con ok104 (.con ok105 (.con ok107 (.con ok171 (.con ok84 (.con ok85 (.con ok127 (.con ok101 (.con ok86 (.con ok71 (.con ok93 (.con ok92 (.con ok79 (.con ok136 (.con ok144 (.con ok162 (.con ok146 (.inl Tryz.func83 (by kernel_rfl) (by kernel_rfl) (by kernel_rfl) (.inl Tryz.func109 (by kernel_rfl) (by kernel_rfl) (by kernel_rfl) (.inl Tryz.func139 (by kernel_rfl) (by kernel_rfl) (by kernel_rfl) (.inl Tryz.func177 (by kernel_rfl) (by kernel_rfl) (by kernel_rfl) (.inl Tryz.func141 (by kernel_rfl) (by kernel_rfl) (by kernel_rfl) (.inl Tryz.func142 (by kernel_rfl) (by kernel_rfl) (by kernel_rfl) (.inl Tryz.func143 (by kernel_rfl) (by kernel_rfl) (by kernel_rfl) (.inl Tryz.func163 (by kernel_rfl) (by kernel_rfl) (by kernel_rfl) (.nil))))))))))))))))))))))))))))))))))))))))))))))))))))))))))))))))))))))))))))))))))))))))))))
def u57 : Unr := fun k => bif Nat.beq k 0 then 5 else 0
inductive S57 where
 | L0 (ia0 : Int) (fa1 : Nat -> List V)
 | L1 (ib0 ib1 : Int) (fb2 : Nat -> List V)
 | L2 (ic0 : Int) (fc1 : Nat -> List V) (ic2 : Int) (fc3 : Nat -> List V)
 | L3 (id0 : Int) (nd1 nd2 : Nat) (id3 id4 id5 : Int) (nd6 : Nat) (id7 id8 : Int) (fd9 : Nat -> List V) (id10 : Int) (fd11 : Nat -> List V)
 | L4 (ie0 : Int) (fe1 : Nat -> List V) (ne2 : Nat) (fe3 : Nat -> List V) (ie4 : Int) (fe5 : Nat -> List V)
 | L5 (if0 if1 : Int) (nf2 : Nat) (bf3 : Bool) (nf4 : Nat) (ff5 : Nat -> List V)
 | L7 (ih0 : Int) (fh1 : Nat -> List V) (nh2 : Nat) (ih3 ih4 : Int) (nh5 : Nat) (fh6 : Nat -> List V) (ih7 : Int) (fh8 : Nat -> List V)
 | L12 (im0 im1 : Int) (nm2 : Nat) (fm3 : Nat -> List V) (nm4 : Nat) (fm5 : Nat -> List V) (im6 : Int) (nm7 nm8 : Nat) (im9 im10 im11 : Int) (nm12 : Nat) (im13 im14 : Int) (fm15 : Nat -> List V)
 | L13 (in0 in1 : Int) (fn2 : Nat -> List V) (nn3 nn4 : Nat) (fn5 : Nat -> List V) (in6 : Int) (fn7 : Nat -> List V)
 | L14 (io0 io1 : Int) (no2 : Nat) (fo3 : Nat -> List V) (no4 : Nat) (io5 io6 : Int) (no7 : Nat) (fo8 : Nat -> List V) (io9 : Int) (no10 no11 : Nat) (io12 io13 io14 : Int) (no15 : Nat) (io16 io17 : Int) (fo18 : Nat -> List V)
 | L15 (ip0 ip1 ip2 : Int) (np3 : Nat) (fp4 : Nat -> List V) (np5 np6 : Nat) (fp7 : Nat -> List V) (ip8 : Int) (np9 np10 : Nat) (ip11 ip12 ip13 : Int) (np14 : Nat) (ip15 ip16 : Int) (fp17 : Nat -> List V)
 | L18 (is0 : Int) (fs1 : Nat -> List V) (ns2 ns3 : Nat) (fs4 : Nat -> List V) (is5 is6 : Int) (fs7 : Nat -> List V) (fs8 : Nat -> List V) (is9 : Int) (fs10 : Nat -> List V)
 | L20 (iu0 : Int) (fu1 : Nat -> List V) (nu2 nu3 : Nat) (fu4 : Nat -> List V) (iu5 iu6 iu7 iu8 : Int) (fu9 : Nat -> List V) (nu10 : Nat) (fu11 : Nat -> List V) (iu12 : Int) (fu13 : Nat -> List V)
 | L22 (iw0 iw1 : Int) (fw2 : Nat -> List V) (nw3 : Nat) (iw4 iw5 : Int) (fw6 : Nat -> List V) (iw7 iw8 : Int) (fw9 : Nat -> List V) (nw10 nw11 : Nat) (fw12 : Nat -> List V) (iw13 : Int) (fw14 : Nat -> List V)
 | L23 (ix0 ix1 : Int) (fx2 : Nat -> List V) (nx3 : Nat) (ix4 ix5 : Int) (nx6 : Nat) (fx7 : Nat -> List V) (ix8 ix9 : Int) (fx10 : Nat -> List V) (nx11 nx12 : Nat) (fx13 : Nat -> List V) (ix14 : Int) (fx15 : Nat -> List V)
 | L24 (iy0 : Int) (ny1 : Nat) (iy2 : Int) (fy3 : Nat -> List V) (ny4 ny5 : Nat) (fy6 : Nat -> List V) (iy7 iy8 iy9 : Int) (ny10 : Nat) (fy11 : Nat -> List V) (fy12 : Nat -> List V) (iy13 : Int) (ny14 ny15 : Nat) (iy16 iy17 iy18 : Int) (ny19 : Nat) (iy20 iy21 : Int) (fy22 : Nat -> List V)
 | L25 (iz0 : Int) (nz1 : Nat) (iz2 : Int) (fz3 : Nat -> List V) (nz4 nz5 : Nat) (fz6 : Nat -> List V) (iz7 iz8 iz9 iz10 iz11 : Int) (nz12 : Nat) (fz13 : Nat -> List V) (nz14 : Nat) (fz15 : Nat -> List V) (iz16 : Int) (nz17 nz18 : Nat) (iz19 iz20 iz21 : Int) (nz22 : Nat) (iz23 iz24 : Int) (fz25 : Nat -> List V)
 | L26 (iza0 iza1 : Int) (nza2 : Nat) (iza3 : Int) (fza4 : Nat -> List V) (nza5 : Nat) (iza6 iza7 : Int) (fza8 : Nat -> List V) (iza9 iza10 iza11 : Int) (nza12 : Nat) (fza13 : Nat -> List V) (nza14 nza15 : Nat) (fza16 : Nat -> List V) (iza17 : Int) (nza18 nza19 : Nat) (iza20 iza21 iza22 : Int) (nza23 : Nat) (iza24 iza25 : Int) (fza26 : Nat -> List V)
 | L27 (izb0 izb1 : Int) (nzb2 : Nat) (izb3 : Int) (fzb4 : Nat -> List V) (nzb5 : Nat) (izb6 izb7 : Int) (nzb8 : Nat) (fzb9 : Nat -> List V) (izb10 izb11 izb12 : Int) (nzb13 : Nat) (fzb14 : Nat -> List V) (nzb15 nzb16 : Nat) (fzb17 : Nat -> List V) (izb18 : Int) (nzb19 nzb20 : Nat) (izb21 izb22 izb23 : Int) (nzb24 : Nat) (izb25 izb26 : Int) (fzb27 : Nat -> List V)
def pf57 (x0 x1 x2 x3 x4 x5 x6 x7 : Int) (b8 : Bool) (x9 x10 x11 x12 : Int) (l : List O) : List O := O.cells [vi x0, vi x1, vi x2, vi x3, vi x4, vi x5, vi x6, vi x7, V.bool b8] 97 :: O.cells [vi x9, vi x10, vi x11, vi x12] 29 :: O.cells [vi x9, vi x10] 95 :: O.cells [vi (F102_0 x0 x2 x9 x3), vi (F102_1 x1 x2 x10 x3), vi (F102_0 x0 x2 x9 x4), vi (F102_1 x1 x2 x10 x4)] 95 :: O.hid :: O.cells [vi x11, vi x10] 95 :: O.cells [vi (F102_0 x0 x2 x11 x3), vi (F102_1 x1 x2 x10 x3), vi (F102_0 x0 x2 x11 x4), vi (F102_1 x1 x2 x10 x4)] 95 :: O.hid :: O.cells [vi x11, vi x12] 95 :: O.cells [vi (F102_0 x0 x2 x11 x3), vi (F102_1 x1 x2 x12 x3), vi (F102_0 x0 x2 x11 x4), vi (F102_1 x1 x2 x12 x4)] 95 :: O.hid :: O.cells [vi x9, vi x12] 95 :: O.cells [vi (F102_0 x0 x2 x9 x3), vi (F102_1 x1 x2 x12 x3), vi (F102_0 x0 x2 x9 x4), vi (F102_1 x1 x2 x12 x4)] 95 :: l
def inv57 (x0 x1 x2 x3 x4 x5 x6 x7 : Int) (b8 : Bool) (x9 x10 x11 x12 : Int) : S57 -> Env × List O × Option Ex
 | .L0 ia0 fa1 => ([(8, vi ia0), (0, V.gs 13 8), (1, vi 0), (2, vi (↑8 : Int)), (3, V.fn 140 [] [])], pf57 x0 x1 x2 x3 x4 x5 x6 x7 b8 x9 x10 x11 x12 [O.gl 2 8 (elV tp2 fa1) 95], none)
 | .L1 ib0 ib1 fb2 => ([(9, vi ib0), (8, vi ib1), (0, V.gs 13 8), (1, vi 0), (2, vi (↑8 : Int)), (3, V.fn 140 [] [])], pf57 x0 x1 x2 x3 x4 x5 x6 x7 b8 x9 x10 x11 x12 [O.gl 2 8 (elV tp2 fb2) 95], none)
 | .L2 ic0 fc1 ic2 fc3 => ([(3, vi ic0), (8, V.kb false), (2, V.ns), (0, V.gs 13 8)], pf57 x0 x1 x2 x3 x4 x5 x6 x7 b8 x9 x10 x11 x12 [O.gl 2 8 (elV tp2 fc1) 95], none)
 | .L3 id0 nd1 nd2 id3 id4 id5 nd6 id7 id8 fd9 id10 fd11 => ([(5, vi id0), (4, V.go 13 nd1 nd2), (28, V.go 13 nd1 nd2), (27, vi id3), (26, V.gs 13 8), (25, V.kb true), (24, V.agg [vi id4, vi id5]), (23, V.pe 13 nd6 0), (22, vi id7), (21, vi id3), (20, V.gs 13 8), (10, vi id3), (3, vi id8), (8, V.kb false), (2, V.ns), (0, V.gs 13 8)], pf57 x0 x1 x2 x3 x4 x5 x6 x7 b8 x9 x10 x11 x12 [O.gl 2 8 (elV tp2 fd9) 95], none)
 | .L4 ie0 fe1 ne2 fe3 ie4 fe5 => ([(10, vi ie0), (9, vi (↑8 : Int)), (8, V.gs 13 8), (3, vi 0), (0, V.gs 13 8), (1, V.pl 14 0)], pf57 x0 x1 x2 x3 x4 x5 x6 x7 b8 x9 x10 x11 x12 [O.gl 2 8 (elV tp2 fe1) 95, O.cells [V.gs 15 ne2] 111, O.gl 2 ne2 (elV tp2 fe3) 95], none)
 | .L5 if0 if1 nf2 bf3 nf4 ff5 => ([(40, vi if0), (39, vi if1), (38, V.gs 0 nf2), (8, V.bool bf3), (5, V.gs 0 nf2), (16, vi (i64.wrap (i64.wrap (i64.wrap (i64.wrap (0 + 1) + 1) + 1) + 1))), (15, V.agg [vi x9, vi x10, vi x11, vi x10, vi x11, vi x12, vi x9, vi x12]), (2, V.pl 1 0)], [O.gl 2 nf4 (elV tp2 ff5) 95, O.cells [vi x0, vi x1, vi x2, vi x3, vi x4, vi x5, vi x6, vi x7, V.bool b8] 97], none)
 | .L7 ih0 fh1 nh2 ih3 ih4 nh5 fh6 ih7 fh8 => ([(5, V.pl 15 0), (10, vi ih0), (9, vi (↑8 : Int)), (8, V.gs 13 8), (3, vi 0), (0, V.gs 13 8), (1, V.pl 14 0)], pf57 x0 x1 x2 x3 x4 x5 x6 x7 b8 x9 x10 x11 x12 [O.gl 2 8 (elV tp2 fh1) 95, O.cells [V.gs 16 nh2] 111, O.cells [vi ih3, vi ih4] 95, O.gl 2 nh5 (elV tp2 fh6) 95], none)
 | .L12 im0 im1 nm2 fm3 nm4 fm5 im6 nm7 nm8 im9 im10 im11 nm12 im13 im14 fm15 => ([(10, vi im0), (9, vi im1), (8, V.gs 13 nm2), (3, vi 0), (0, V.gs 13 nm2), (1, V.pl 14 0)], pf57 x0 x1 x2 x3 x4 x5 x6 x7 b8 x9 x10 x11 x12 [O.gl 2 8 (elV tp2 fm3) 95, O.cells [V.gs 15 nm4] 111, O.gl 2 nm4 (elV tp2 fm5) 95], none)
 | .L13 in0 in1 fn2 nn3 nn4 fn5 in6 fn7 => ([(3, vi in0), (2, vi in1), (5, vi (↑8 : Int)), (4, V.gs 13 8), (0, V.gs 13 8)], pf57 x0 x1 x2 x3 x4 x5 x6 x7 b8 x9 x10 x11 x12 [O.gl 2 8 (elV tp2 fn2) 95, O.cells [V.gs 15 nn3] 111, O.gl 2 nn4 (elV tp2 fn5) 95], none)
 | .L14 io0 io1 no2 fo3 no4 io5 io6 no7 fo8 io9 no10 no11 io12 io13 io14 no15 io16 io17 fo18 => ([(5, V.pl 15 0), (10, vi io0), (9, vi io1), (8, V.gs 13 no2), (3, vi 0), (0, V.gs 13 no2), (1, V.pl 14 0)], pf57 x0 x1 x2 x3 x4 x5 x6 x7 b8 x9 x10 x11 x12 [O.gl 2 8 (elV tp2 fo3) 95, O.cells [V.gs 16 no4] 111, O.cells [vi io5, vi io6] 95, O.gl 2 no7 (elV tp2 fo8) 95], none)
 | .L15 ip0 ip1 ip2 np3 fp4 np5 np6 fp7 ip8 np9 np10 ip11 ip12 ip13 np14 ip15 ip16 fp17 => ([(3, vi ip0), (2, vi ip1), (5, vi ip2), (4, V.gs 13 np3), (0, V.gs 13 np3)], pf57 x0 x1 x2 x3 x4 x5 x6 x7 b8 x9 x10 x11 x12 [O.gl 2 8 (elV tp2 fp4) 95, O.cells [V.gs 15 np5] 111, O.gl 2 np6 (elV tp2 fp7) 95], none)
 | .L18 is0 fs1 ns2 ns3 fs4 is5 is6 fs7 fs8 is9 fs10 => ([(10, vi 0), (9, vi (↑8 : Int)), (8, V.gs 13 8), (3, vi is0), (0, V.gs 13 8), (1, V.pl 14 0)], pf57 x0 x1 x2 x3 x4 x5 x6 x7 b8 x9 x10 x11 x12 [O.gl 2 8 (elV tp2 fs1) 95, O.cells [V.gs 15 ns2] 111, O.gl 2 ns3 (elV tp2 fs4) 95], none)
 | .L20 iu0 fu1 nu2 nu3 fu4 iu5 iu6 iu7 iu8 fu9 nu10 fu11 iu12 fu13 => ([(5, V.pl 16 0), (10, vi 0), (9, vi (↑8 : Int)), (8, V.gs 13 8), (3, vi iu0), (0, V.gs 13 8), (1, V.pl 14 0)], pf57 x0 x1 x2 x3 x4 x5 x6 x7 b8 x9 x10 x11 x12 [O.gl 2 8 (elV tp2 fu1) 95, O.cells [V.gs 15 nu2] 111, O.gl 2 nu3 (elV tp2 fu4) 95, O.cells [vi iu5, vi iu6] 95], none)
 | .L22 iw0 iw1 fw2 nw3 iw4 iw5 fw6 iw7 iw8 fw9 nw10 nw11 fw12 iw13 fw14 => ([(10, vi iw0), (5, V.pl 16 0), (9, vi (↑8 : Int)), (8, V.gs 13 8), (3, vi iw1), (0, V.gs 13 8), (1, V.pl 14 0)], pf57 x0 x1 x2 x3 x4 x5 x6 x7 b8 x9 x10 x11 x12 [O.gl 2 8 (elV tp2 fw2) 95, O.cells [V.gs 17 nw3] 111, O.hid, O.cells [vi iw4, vi iw5] 95, O.gl 2 nw3 (elV tp2 fw6) 95], none)
 | .L23 ix0 ix1 fx2 nx3 ix4 ix5 nx6 fx7 ix8 ix9 fx10 nx11 nx12 fx13 ix14 fx15 => ([(5, V.pl 16 0), (10, vi ix0), (9, vi (↑8 : Int)), (8, V.gs 13 8), (3, vi ix1), (0, V.gs 13 8), (1, V.pl 14 0)], pf57 x0 x1 x2 x3 x4 x5 x6 x7 b8 x9 x10 x11 x12 [O.gl 2 8 (elV tp2 fx2) 95, O.cells [V.gs 17 nx3] 111, O.hid, O.cells [vi ix4, vi ix5] 95, O.gl 2 nx6 (elV tp2 fx7) 95], none)
 | .L24 iy0 ny1 iy2 fy3 ny4 ny5 fy6 iy7 iy8 iy9 ny10 fy11 fy12 iy13 ny14 ny15 iy16 iy17 iy18 ny19 iy20 iy21 fy22 => ([(10, vi 0), (9, vi iy0), (8, V.gs 13 ny1), (3, vi iy2), (0, V.gs 13 ny1), (1, V.pl 14 0)], pf57 x0 x1 x2 x3 x4 x5 x6 x7 b8 x9 x10 x11 x12 [O.gl 2 8 (elV tp2 fy3) 95, O.cells [V.gs 15 ny4] 111, O.gl 2 ny5 (elV tp2 fy6) 95], none)
 | .L25 iz0 nz1 iz2 fz3 nz4 nz5 fz6 iz7 iz8 iz9 iz10 iz11 nz12 fz13 nz14 fz15 iz16 nz17 nz18 iz19 iz20 iz21 nz22 iz23 iz24 fz25 => ([(5, V.pl 16 0), (10, vi 0), (9, vi iz0), (8, V.gs 13 nz1), (3, vi iz2), (0, V.gs 13 nz1), (1, V.pl 14 0)], pf57 x0 x1 x2 x3 x4 x5 x6 x7 b8 x9 x10 x11 x12 [O.gl 2 8 (elV tp2 fz3) 95, O.cells [V.gs 15 nz4] 111, O.gl 2 nz5 (elV tp2 fz6) 95, O.cells [vi iz7, vi iz8] 95], none)
 | .L26 iza0 iza1 nza2 iza3 fza4 nza5 iza6 iza7 fza8 iza9 iza10 iza11 nza12 fza13 nza14 nza15 fza16 iza17 nza18 nza19 iza20 iza21 iza22 nza23 iza24 iza25 fza26 => ([(10, vi iza0), (5, V.pl 16 0), (9, vi iza1), (8, V.gs 13 nza2), (3, vi iza3), (0, V.gs 13 nza2), (1, V.pl 14 0)], pf57 x0 x1 x2 x3 x4 x5 x6 x7 b8 x9 x10 x11 x12 [O.gl 2 8 (elV tp2 fza4) 95, O.cells [V.gs 17 nza5] 111, O.hid, O.cells [vi iza6, vi iza7] 95, O.gl 2 nza5 (elV tp2 fza8) 95], none)
 | .L27 izb0 izb1 nzb2 izb3 fzb4 nzb5 izb6 izb7 nzb8 fzb9 izb10 izb11 izb12 nzb13 fzb14 nzb15 nzb16 fzb17 izb18 nzb19 nzb20 izb21 izb22 izb23 nzb24 izb25 izb26 fzb27 => ([(5, V.pl 16 0), (10, vi izb0), (9, vi izb1), (8, V.gs 13 nzb2), (3, vi izb3), (0, V.gs 13 nzb2), (1, V.pl 14 0)], pf57 x0 x1 x2 x3 x4 x5 x6 x7 b8 x9 x10 x11 x12 [O.gl 2 8 (elV tp2 fzb4) 95, O.cells [V.gs 17 nzb5] 111, O.hid, O.cells [vi izb6, vi izb7] 95, O.gl 2 nzb8 (elV tp2 fzb9) 95], none)
def id57 : S57 -> JJ
 | .L0 ia0 fa1 => (0, [])
 | .L1 ib0 ib1 fb2 => (1, [])
 | .L2 ic0 fc1 ic2 fc3 => (2, [Cx.i ic2, Cx.f fc3])
 | .L3 id0 nd1 nd2 id3 id4 id5 nd6 id7 id8 fd9 id10 fd11 => (3, [Cx.i id10, Cx.f fd11])
 | .L4 ie0 fe1 ne2 fe3 ie4 fe5 => (4, [Cx.i ie4, Cx.f fe5])
 | .L5 if0 if1 nf2 bf3 nf4 ff5 => (5, [])
 | .L7 ih0 fh1 nh2 ih3 ih4 nh5 fh6 ih7 fh8 => (7, [Cx.i ih7, Cx.f fh8])
 | .L12 im0 im1 nm2 fm3 nm4 fm5 im6 nm7 nm8 im9 im10 im11 nm12 im13 im14 fm15 => (12, [Cx.i im6, Cx.n nm7, Cx.n nm8, Cx.i im9, Cx.i im10, Cx.i im11, Cx.n nm12, Cx.i im13, Cx.i im14, Cx.f fm15])
 | .L13 in0 in1 fn2 nn3 nn4 fn5 in6 fn7 => (13, [Cx.i in6, Cx.f fn7])
 | .L14 io0 io1 no2 fo3 no4 io5 io6 no7 fo8 io9 no10 no11 io12 io13 io14 no15 io16 io17 fo18 => (14, [Cx.i io9, Cx.n no10, Cx.n no11, Cx.i io12, Cx.i io13, Cx.i io14, Cx.n no15, Cx.i io16, Cx.i io17, Cx.f fo18])
 | .L15 ip0 ip1 ip2 np3 fp4 np5 np6 fp7 ip8 np9 np10 ip11 ip12 ip13 np14 ip15 ip16 fp17 => (15, [Cx.i ip8, Cx.n np9, Cx.n np10, Cx.i ip11, Cx.i ip12, Cx.i ip13, Cx.n np14, Cx.i ip15, Cx.i ip16, Cx.f fp17])
 | .L18 is0 fs1 ns2 ns3 fs4 is5 is6 fs7 fs8 is9 fs10 => (18, [Cx.i is5, Cx.i is6, Cx.f fs7, Cx.n ns2, Cx.n ns3, Cx.f fs8, Cx.i is9, Cx.f fs10])
 | .L20 iu0 fu1 nu2 nu3 fu4 iu5 iu6 iu7 iu8 fu9 nu10 fu11 iu12 fu13 => (20, [Cx.i iu7, Cx.i iu8, Cx.f fu9, Cx.n nu10, Cx.n nu3, Cx.f fu11, Cx.i iu12, Cx.f fu13])
 | .L22 iw0 iw1 fw2 nw3 iw4 iw5 fw6 iw7 iw8 fw9 nw10 nw11 fw12 iw13 fw14 => (18, [Cx.i iw7, Cx.i iw8, Cx.f fw9, Cx.n nw10, Cx.n nw11, Cx.f fw12, Cx.i iw13, Cx.f fw14])
 | .L23 ix0 ix1 fx2 nx3 ix4 ix5 nx6 fx7 ix8 ix9 fx10 nx11 nx12 fx13 ix14 fx15 => (20, [Cx.i ix8, Cx.i ix9, Cx.f fx10, Cx.n nx11, Cx.n nx12, Cx.f fx13, Cx.i ix14, Cx.f fx15])
 | .L24 iy0 ny1 iy2 fy3 ny4 ny5 fy6 iy7 iy8 iy9 ny10 fy11 fy12 iy13 ny14 ny15 iy16 iy17 iy18 ny19 iy20 iy21 fy22 => (24, [Cx.i iy7, Cx.i iy8, Cx.i iy9, Cx.n ny10, Cx.f fy11, Cx.n ny4, Cx.n ny5, Cx.f fy12, Cx.i iy13, Cx.n ny14, Cx.n ny15, Cx.i iy16, Cx.i iy17, Cx.i iy18, Cx.n ny19, Cx.i iy20, Cx.i iy21, Cx.f fy22])
 | .L25 iz0 nz1 iz2 fz3 nz4 nz5 fz6 iz7 iz8 iz9 iz10 iz11 nz12 fz13 nz14 fz15 iz16 nz17 nz18 iz19 iz20 iz21 nz22 iz23 iz24 fz25 => (25, [Cx.i iz9, Cx.i iz10, Cx.i iz11, Cx.n nz12, Cx.f fz13, Cx.n nz14, Cx.n nz5, Cx.f fz15, Cx.i iz16, Cx.n nz17, Cx.n nz18, Cx.i iz19, Cx.i iz20, Cx.i iz21, Cx.n nz22, Cx.i iz23, Cx.i iz24, Cx.f fz25])
 | .L26 iza0 iza1 nza2 iza3 fza4 nza5 iza6 iza7 fza8 iza9 iza10 iza11 nza12 fza13 nza14 nza15 fza16 iza17 nza18 nza19 iza20 iza21 iza22 nza23 iza24 iza25 fza26 => (24, [Cx.i iza9, Cx.i iza10, Cx.i iza11, Cx.n nza12, Cx.f fza13, Cx.n nza14, Cx.n nza15, Cx.f fza16, Cx.i iza17, Cx.n nza18, Cx.n nza19, Cx.i iza20, Cx.i iza21, Cx.i iza22, Cx.n nza23, Cx.i iza24, Cx.i iza25, Cx.f fza26])
 | .L27 izb0 izb1 nzb2 izb3 fzb4 nzb5 izb6 izb7 nzb8 fzb9 izb10 izb11 izb12 nzb13 fzb14 nzb15 nzb16 fzb17 izb18 nzb19 nzb20 izb21 izb22 izb23 nzb24 izb25 izb26 fzb27 => (25, [Cx.i izb10, Cx.i izb11, Cx.i izb12, Cx.n nzb13, Cx.f fzb14, Cx.n nzb15, Cx.n nzb16, Cx.f fzb17, Cx.i izb18, Cx.n nzb19, Cx.n nzb20, Cx.i izb21, Cx.i izb22, Cx.i izb23, Cx.n nzb24, Cx.i izb25, Cx.i izb26, Cx.f fzb27])
def rl57 (x0 x1 x2 x3 x4 x5 x6 x7 : Int) (b8 : Bool) (x9 x10 x11 x12 : Int) : T (Leaf JJ) := runL JJ ctB29 u57 s57 [V.agg [vi x0, vi x1, vi x2, vi x3, vi x4, vi x5, vi x6, vi x7, V.bool b8], V.agg [vi x9, vi x10, vi x11, vi x12]]
def lp57_0 (x0 x1 x2 x3 x4 x5 x6 x7 : Int) (b8 : Bool) (x9 x10 x11 x12 : Int) (cx : List Cx) : Lp JJ := lpT (atT (rl57 x0 x1 x2 x3 x4 x5 x6 x7 b8 x9 x10 x11 x12) [false, true, true, true, true, false, true])
def lp57_1 (x0 x1 x2 x3 x4 x5 x6 x7 : Int) (b8 : Bool) (x9 x10 x11 x12 : Int) (cx : List Cx) : Lp JJ := lpT (atT (rdP ctB29 u57 (0, []) (lp57_0 x0 x1 x2 x3 x4 x5 x6 x7 b8 x9 x10 x11 x12 []) (inv57 x0 x1 x2 x3 x4 x5 x6 x7 b8 x9 x10 x11 x12 (.L0 (0 : Int) (fun _ => [])))) [true])
def lp57_2 (x0 x1 x2 x3 x4 x5 x6 x7 : Int) (b8 : Bool) (x9 x10 x11 x12 : Int) (cx : List Cx) : Lp JJ := lpT (atT (rdP ctB29 u57 (0, []) (lp57_0 x0 x1 x2 x3 x4 x5 x6 x7 b8 x9 x10 x11 x12 []) (inv57 x0 x1 x2 x3 x4 x5 x6 x7 b8 x9 x10 x11 x12 (.L0 (cxi cx 0) (cxf cx 1)))) [false, false])
def lp57_3 (x0 x1 x2 x3 x4 x5 x6 x7 : Int) (b8 : Bool) (x9 x10 x11 x12 : Int) (cx : List Cx) : Lp JJ := lpT (atT (rdP ctB29 u57 (2, [.i (cxi cx 0), .f (cxf cx 1)]) (lp57_2 x0 x1 x2 x3 x4 x5 x6 x7 b8 x9 x10 x11 x12 [.i (cxi cx 0), .f (cxf cx 1)]) (inv57 x0 x1 x2 x3 x4 x5 x6 x7 b8 x9 x10 x11 x12 (.L2 (0 : Int) (fun _ => []) (cxi cx 0) (cxf cx 1)))) [true, true])
def lp57_4 (x0 x1 x2 x3 x4 x5 x6 x7 : Int) (b8 : Bool) (x9 x10 x11 x12 : Int) (cx : List Cx) : Lp JJ := lpT (atT (rdP ctB29 u57 (2, [.i (0 : Int), .f (fun _ => [])]) (lp57_2 x0 x1 x2 x3 x4 x5 x6 x7 b8 x9 x10 x11 x12 [.i (0 : Int), .f (fun _ => [])]) (inv57 x0 x1 x2 x3 x4 x5 x6 x7 b8 x9 x10 x11 x12 (.L2 (cxi cx 0) (cxf cx 1) (0 : Int) (fun _ => [])))) [false, false])
def lp57_5 (x0 x1 x2 x3 x4 x5 x6 x7 : Int) (b8 : Bool) (x9 x10 x11 x12 : Int) (cx : List Cx) : Lp JJ := lpT (atT (rdP ctB29 u57 (3, [.i (0 : Int), .f (fun _ => [])]) (lp57_3 x0 x1 x2 x3 x4 x5 x6 x7 b8 x9 x10 x11 x12 [.i (0 : Int), .f (fun _ => [])]) (inv57 x0 x1 x2 x3 x4 x5 x6 x7 b8 x9 x10 x11 x12 (.L3 (0 : Int) 0 0 (0 : Int) (0 : Int) (0 : Int) 0 (0 : Int) (0 : Int) (fun _ => []) (0 : Int) (fun _ => [])))) [false, true])
def lp57_7 (x0 x1 x2 x3 x4 x5 x6 x7 : Int) (b8 : Bool) (x9 x10 x11 x12 : Int) (cx : List Cx) : Lp JJ := lpT (atT (rdP ctB29 u57 (4, [.i (cxi cx 0), .f (cxf cx 1)]) (lp57_4 x0 x1 x2 x3 x4 x5 x6 x7 b8 x9 x10 x11 x12 [.i (cxi cx 0), .f (cxf cx 1)]) (inv57 x0 x1 x2 x3 x4 x5 x6 x7 b8 x9 x10 x11 x12 (.L4 (0 : Int) (fun _ => []) 0 (fun _ => []) (cxi cx 0) (cxf cx 1)))) [true])
def lp57_12 (x0 x1 x2 x3 x4 x5 x6 x7 : Int) (b8 : Bool) (x9 x10 x11 x12 : Int) (cx : List Cx) : Lp JJ := lpT (atT (rdP ctB29 u57 (3, [.i (0 : Int), .f (fun _ => [])]) (lp57_3 x0 x1 x2 x3 x4 x5 x6 x7 b8 x9 x10 x11 x12 [.i (0 : Int), .f (fun _ => [])]) (inv57 x0 x1 x2 x3 x4 x5 x6 x7 b8 x9 x10 x11 x12 (.L3 (cxi cx 0) (cxn cx 1) (cxn cx 2) (cxi cx 3) (cxi cx 4) (cxi cx 5) (cxn cx 6) (cxi cx 7) (cxi cx 8) (cxf cx 9) (0 : Int) (fun _ => [])))) [false, false])
def lp57_13 (x0 x1 x2 x3 x4 x5 x6 x7 : Int) (b8 : Bool) (x9 x10 x11 x12 : Int) (cx : List Cx) : Lp JJ := lpT (atT (rdP ctB29 u57 (4, [.i (cxi cx 0), .f (cxf cx 1)]) (lp57_4 x0 x1 x2 x3 x4 x5 x6 x7 b8 x9 x10 x11 x12 [.i (cxi cx 0), .f (cxf cx 1)]) (inv57 x0 x1 x2 x3 x4 x5 x6 x7 b8 x9 x10 x11 x12 (.L4 (0 : Int) (fun _ => []) 0 (fun _ => []) (cxi cx 0) (cxf cx 1)))) [false])
def lp57_14 (x0 x1 x2 x3 x4 x5 x6 x7 : Int) (b8 : Bool) (x9 x10 x11 x12 : Int) (cx : List Cx) : Lp JJ := lpT (atT (rdP ctB29 u57 (12, [.i (cxi cx 0), .n (cxn cx 1), .n (cxn cx 2), .i (cxi cx 3), .i (cxi cx 4), .i (cxi cx 5), .n (cxn cx 6), .i (cxi cx 7), .i (cxi cx 8), .f (cxf cx 9)]) (lp57_12 x0 x1 x2 x3 x4 x5 x6 x7 b8 x9 x10 x11 x12 [.i (cxi cx 0), .n (cxn cx 1), .n (cxn cx 2), .i (cxi cx 3), .i (cxi cx 4), .i (cxi cx 5), .n (cxn cx 6), .i (cxi cx 7), .i (cxi cx 8), .f (cxf cx 9)]) (inv57 x0 x1 x2 x3 x4 x5 x6 x7 b8 x9 x10 x11 x12 (.L12 (0 : Int) (0 : Int) 0 (fun _ => []) 0 (fun _ => []) (cxi cx 0) (cxn cx 1) (cxn cx 2) (cxi cx 3) (cxi cx 4) (cxi cx 5) (cxn cx 6) (cxi cx 7) (cxi cx 8) (cxf cx 9)))) [true])
def lp57_15 (x0 x1 x2 x3 x4 x5 x6 x7 : Int) (b8 : Bool) (x9 x10 x11 x12 : Int) (cx : List Cx) : Lp JJ := lpT (atT (rdP ctB29 u57 (12, [.i (cxi cx 0), .n (cxn cx 1), .n (cxn cx 2), .i (cxi cx 3), .i (cxi cx 4), .i (cxi cx 5), .n (cxn cx 6), .i (cxi cx 7), .i (cxi cx 8), .f (cxf cx 9)]) (lp57_12 x0 x1 x2 x3 x4 x5 x6 x7 b8 x9 x10 x11 x12 [.i (cxi cx 0), .n (cxn cx 1), .n (cxn cx 2), .i (cxi cx 3), .i (cxi cx 4), .i (cxi cx 5), .n (cxn cx 6), .i (cxi cx 7), .i (cxi cx 8), .f (cxf cx 9)]) (inv57 x0 x1 x2 x3 x4 x5 x6 x7 b8 x9 x10 x11 x12 (.L12 (0 : Int) (0 : Int) 0 (fun _ => []) 0 (fun _ => []) (cxi cx 0) (cxn cx 1) (cxn cx 2) (cxi cx 3) (cxi cx 4) (cxi cx 5) (cxn cx 6) (cxi cx 7) (cxi cx 8) (cxf cx 9)))) [false])
def lp57_18 (x0 x1 x2 x3 x4 x5 x6 x7 : Int) (b8 : Bool) (x9 x10 x11 x12 : Int) (cx : List Cx) : Lp JJ := lpT (atT (rdP ctB29 u57 (13, [.i (cxi cx 6), .f (cxf cx 7)]) (lp57_13 x0 x1 x2 x3 x4 x5 x6 x7 b8 x9 x10 x11 x12 [.i (cxi cx 6), .f (cxf cx 7)]) (inv57 x0 x1 x2 x3 x4 x5 x6 x7 b8 x9 x10 x11 x12 (.L13 (cxi cx 0) (cxi cx 1) (cxf cx 2) (cxn cx 3) (cxn cx 4) (cxf cx 5) (cxi cx 6) (cxf cx 7)))) [false])
def lp57_20 (x0 x1 x2 x3 x4 x5 x6 x7 : Int) (b8 : Bool) (x9 x10 x11 x12 : Int) (cx : List Cx) : Lp JJ := lpT (atT (rdP ctB29 u57 (18, [.i (cxi cx 0), .i (cxi cx 1), .f (cxf cx 2), .n (cxn cx 3), .n (cxn cx 4), .f (cxf cx 5), .i (cxi cx 6), .f (cxf cx 7)]) (lp57_18 x0 x1 x2 x3 x4 x5 x6 x7 b8 x9 x10 x11 x12 [.i (cxi cx 0), .i (cxi cx 1), .f (cxf cx 2), .n (cxn cx 3), .n (cxn cx 4), .f (cxf cx 5), .i (cxi cx 6), .f (cxf cx 7)]) (inv57 x0 x1 x2 x3 x4 x5 x6 x7 b8 x9 x10 x11 x12 (.L18 (0 : Int) (fun _ => []) (cxn cx 3) (cxn cx 4) (fun _ => []) (cxi cx 0) (cxi cx 1) (cxf cx 2) (cxf cx 5) (cxi cx 6) (cxf cx 7)))) [true])
def lp57_24 (x0 x1 x2 x3 x4 x5 x6 x7 : Int) (b8 : Bool) (x9 x10 x11 x12 : Int) (cx : List Cx) : Lp JJ := lpT (atT (rdP ctB29 u57 (15, [.i (cxi cx 8), .n (cxn cx 9), .n (cxn cx 10), .i (cxi cx 11), .i (cxi cx 12), .i (cxi cx 13), .n (cxn cx 14), .i (cxi cx 15), .i (cxi cx 16), .f (cxf cx 17)]) (lp57_15 x0 x1 x2 x3 x4 x5 x6 x7 b8 x9 x10 x11 x12 [.i (cxi cx 8), .n (cxn cx 9), .n (cxn cx 10), .i (cxi cx 11), .i (cxi cx 12), .i (cxi cx 13), .n (cxn cx 14), .i (cxi cx 15), .i (cxi cx 16), .f (cxf cx 17)]) (inv57 x0 x1 x2 x3 x4 x5 x6 x7 b8 x9 x10 x11 x12 (.L15 (cxi cx 0) (cxi cx 1) (cxi cx 2) (cxn cx 3) (cxf cx 4) (cxn cx 5) (cxn cx 6) (cxf cx 7) (cxi cx 8) (cxn cx 9) (cxn cx 10) (cxi cx 11) (cxi cx 12) (cxi cx 13) (cxn cx 14) (cxi cx 15) (cxi cx 16) (cxf cx 17)))) [false])
def lp57_25 (x0 x1 x2 x3 x4 x5 x6 x7 : Int) (b8 : Bool) (x9 x10 x11 x12 : Int) (cx : List Cx) : Lp JJ := lpT (atT (rdP ctB29 u57 (24, [.i (cxi cx 0), .i (cxi cx 1), .i (cxi cx 2), .n (cxn cx 3), .f (cxf cx 4), .n (cxn cx 5), .n (cxn cx 6), .f (cxf cx 7), .i (cxi cx 8), .n (cxn cx 9), .n (cxn cx 10), .i (cxi cx 11), .i (cxi cx 12), .i (cxi cx 13), .n (cxn cx 14), .i (cxi cx 15), .i (cxi cx 16), .f (cxf cx 17)]) (lp57_24 x0 x1 x2 x3 x4 x5 x6 x7 b8 x9 x10 x11 x12 [.i (cxi cx 0), .i (cxi cx 1), .i (cxi cx 2), .n (cxn cx 3), .f (cxf cx 4), .n (cxn cx 5), .n (cxn cx 6), .f (cxf cx 7), .i (cxi cx 8), .n (cxn cx 9), .n (cxn cx 10), .i (cxi cx 11), .i (cxi cx 12), .i (cxi cx 13), .n (cxn cx 14), .i (cxi cx 15), .i (cxi cx 16), .f (cxf cx 17)]) (inv57 x0 x1 x2 x3 x4 x5 x6 x7 b8 x9 x10 x11 x12 (.L24 (0 : Int) 0 (0 : Int) (fun _ => []) (cxn cx 5) (cxn cx 6) (fun _ => []) (cxi cx 0) (cxi cx 1) (cxi cx 2) (cxn cx 3) (cxf cx 4) (cxf cx 7) (cxi cx 8) (cxn cx 9) (cxn cx 10) (cxi cx 11) (cxi cx 12) (cxi cx 13) (cxn cx 14) (cxi cx 15) (cxi cx 16) (cxf cx 17)))) [true])
def lp57 (x0 x1 x2 x3 x4 x5 x6 x7 : Int) (b8 : Bool) (x9 x10 x11 x12 : Int) : JJ -> Lp JJ
 | (0, cx) => lp57_0 x0 x1 x2 x3 x4 x5 x6 x7 b8 x9 x10 x11 x12 cx
 | (1, cx) => lp57_1 x0 x1 x2 x3 x4 x5 x6 x7 b8 x9 x10 x11 x12 cx
 | (2, cx) => lp57_2 x0 x1 x2 x3 x4 x5 x6 x7 b8 x9 x10 x11 x12 cx
 | (3, cx) => lp57_3 x0 x1 x2 x3 x4 x5 x6 x7 b8 x9 x10 x11 x12 cx
 | (4, cx) => lp57_4 x0 x1 x2 x3 x4 x5 x6 x7 b8 x9 x10 x11 x12 cx
 | (5, cx) => lp57_5 x0 x1 x2 x3 x4 x5 x6 x7 b8 x9 x10 x11 x12 cx
 | (7, cx) => lp57_7 x0 x1 x2 x3 x4 x5 x6 x7 b8 x9 x10 x11 x12 cx
 | (12, cx) => lp57_12 x0 x1 x2 x3 x4 x5 x6 x7 b8 x9 x10 x11 x12 cx
 | (13, cx) => lp57_13 x0 x1 x2 x3 x4 x5 x6 x7 b8 x9 x10 x11 x12 cx
 | (14, cx) => lp57_14 x0 x1 x2 x3 x4 x5 x6 x7 b8 x9 x10 x11 x12 cx
 | (15, cx) => lp57_15 x0 x1 x2 x3 x4 x5 x6 x7 b8 x9 x10 x11 x12 cx
 | (18, cx) => lp57_18 x0 x1 x2 x3 x4 x5 x6 x7 b8 x9 x10 x11 x12 cx
 | (20, cx) => lp57_20 x0 x1 x2 x3 x4 x5 x6 x7 b8 x9 x10 x11 x12 cx
 | (24, cx) => lp57_24 x0 x1 x2 x3 x4 x5 x6 x7 b8 x9 x10 x11 x12 cx
 | (25, cx) => lp57_25 x0 x1 x2 x3 x4 x5 x6 x7 b8 x9 x10 x11 x12 cx
 | (_, cx) => lp57_0 x0 x1 x2 x3 x4 x5 x6 x7 b8 x9 x10 x11 x12 cx
def D57 (x0 x1 x2 x3 x4 x5 x6 x7 : Int) (b8 : Bool) (x9 x10 x11 x12 : Int) : LD JJ S57 := ⟨id57, lp57 x0 x1 x2 x3 x4 x5 x6 x7 b8 x9 x10 x11 x12, inv57 x0 x1 x2 x3 x4 x5 x6 x7 b8 x9 x10 x11 x12⟩
def st57 (x0 x1 x2 x3 x4 x5 x6 x7 : Int) (b8 : Bool) (x9 x10 x11 x12 : Int) : S57 -> RT S57
 | .L0 ia0 fa1 => .br (decide (ia0 < (↑8 : Int))) (.enter (iR 0 14 []) (S57.L1 (ia0) (ia0) (elV tp2 fa1)) [⟨13, tp2, 8, elV tp2 fa1, vf_view rfl _ _⟩]) (.brf (.enter (iR 0 14 []) (S57.L2 (1) (elV tp2 fa1) (ia0) (fa1)) [⟨13, tp2, 8, elV tp2 fa1, vf_view rfl _ _⟩]))
 | .L1 ib0 ib1 fb2 => .obi (.obi (.obj (decide (0 < ib0)) (decide (0 <= ib0 /\ ib0 < (↑8 : Int) /\ 8 <= 8)) (.obi (.obj (decide (0 < ib0)) (decide (ib0.toNat < 8)) (.obi (.obi (.obi (.obj (decide (0 < ib0)) (decide (0 <= i64.wrap (ib0 - 1) /\ i64.wrap (ib0 - 1) < (↑8 : Int) /\ 8 <= 8)) (.obi (.obj (decide (0 < ib0)) (decide ((i64.wrap (ib0 - 1)).toNat < 8)) (.br (decide (0 < ib0)) (.ob (decide (0 < ib0)) (.ob (decide (0 < ib0)) (.ob (decide (0 < ib0)) (.obc (.obt (.br (decide (F140_0 (jv0 (fb2 ib0.toNat)) (jv1 (fb2 ib0.toNat)) (jv0 (fb2 (i64.wrap (ib0 - 1)).toNat)) (jv1 (fb2 (i64.wrap (ib0 - 1)).toNat)) < 0)) (.ob (decide (0 <= i64.wrap (ib0 - 1) /\ i64.wrap (ib0 - 1) < (↑8 : Int) /\ 8 <= 8)) (.ob (decide ((i64.wrap (ib0 - 1)).toNat < 8)) (.ob (decide (0 <= ib0 /\ ib0 < (↑8 : Int) /\ 8 <= 8)) (.ob (decide (ib0.toNat < 8)) (.ob (decide (0 <= ib0 /\ ib0 < (↑8 : Int) /\ 8 <= 8)) (.ob (decide (ib0.toNat < 8)) (.ob (decide (0 <= i64.wrap (ib0 - 1) /\ i64.wrap (ib0 - 1) < (↑8 : Int) /\ 8 <= 8)) (.ob (decide ((i64.wrap (ib0 - 1)).toNat < 8)) (.next (iR 0 14 []) (S57.L1 (i64.wrap (ib0 - 1)) (ib1) (fun i' => bif i'.beq (i64.wrap (ib0 - 1)).toNat then [vi (jv0 (fb2 ib0.toNat)), vi (jv1 (fb2 ib0.toNat))] else bif i'.beq ib0.toNat then [vi (jv0 (fb2 (i64.wrap (ib0 - 1)).toNat)), vi (jv1 (fb2 (i64.wrap (ib0 - 1)).toNat))] else elV tp2 fb2 i')) [⟨13, tp2, 8, fun i' => bif i'.beq (i64.wrap (ib0 - 1)).toNat then [vi (jv0 (fb2 ib0.toNat)), vi (jv1 (fb2 ib0.toNat))] else bif i'.beq ib0.toNat then [vi (jv0 (fb2 (i64.wrap (ib0 - 1)).toNat)), vi (jv1 (fb2 (i64.wrap (ib0 - 1)).toNat))] else elV tp2 fb2 i', vf_set rfl (vf_set rfl (vf_view rfl _ _) rfl) rfl⟩]))))))))) (.next (iR 0 14 []) (S57.L0 (i64.wrap (ib1 + 1)) (elV tp2 fb2)) [⟨13, tp2, 8, elV tp2 fb2, vf_view rfl _ _⟩]))))))) (.next (iR 0 14 []) (S57.L0 (i64.wrap (ib1 + 1)) (elV tp2 fb2)) [⟨13, tp2, 8, elV tp2 fb2, vf_view rfl _ _⟩]))))))))))))
 | .L2 ic0 fc1 ic2 fc3 => .br (decide (ic0 < (↑8 : Int))) (.ob (decide (0 <= ic0 /\ ic0 < (↑8 : Int) /\ 8 <= 8)) (.ob (decide (ic0.toNat < 8)) (.ob (decide (0 <= i64.wrap (ic0 - 1) /\ i64.wrap (ic0 - 1) < (↑8 : Int) /\ 8 <= 8)) (.ob (decide ((i64.wrap (ic0 - 1)).toNat < 8)) (.br (jv0 (fc1 ic0.toNat) == jv0 (fc1 (i64.wrap (ic0 - 1)).toNat) && (jv1 (fc1 ic0.toNat) == jv1 (fc1 (i64.wrap (ic0 - 1)).toNat) && true)) (.ob (decide (0 <= ic0 /\ ic0 <= (↑8 : Int))) (.enter (iR 0 14 []) (S57.L3 (1) (ic0.toNat) (8 - ic0.toNat) (ic0) (jv0 (fc1 (i64.wrap (ic0 - 1)).toNat)) (jv1 (fc1 (i64.wrap (ic0 - 1)).toNat)) ((i64.wrap (ic0 - 1)).toNat) (i64.wrap (ic0 - 1)) (ic0) (elV tp2 fc1) (ic2) (fc3)) [⟨13, tp2, 8, elV tp2 fc1, vf_view rfl _ _⟩])) (.next (iR 0 14 []) (S57.L2 (i64.wrap (ic0 + 1)) (elV tp2 fc1) (ic2) (fc3)) [⟨13, tp2, 8, elV tp2 fc1, vf_view rfl _ _⟩])))))) (.brf (.enter (iR 0 15 [some none]) (S57.L4 (0) (elV tp2 fc1) (0) (fun i => []) (ic0) (fc1)) [⟨13, tp2, 8, elV tp2 fc1, vf_view rfl _ _⟩]))
 | .L3 id0 nd1 nd2 id3 id4 id5 nd6 id7 id8 fd9 id10 fd11 => .br (decide (id0 < (↑nd2 : Int))) (.ob (decide (0 <= id0 /\ id0 < (↑nd2 : Int) /\ nd1 + nd2 <= 8)) (.ob (decide (nd1 + id0.toNat < 8)) (.ob (decide (0 <= i64.wrap (id0 - 1) /\ i64.wrap (id0 - 1) < (↑nd2 : Int) /\ nd1 + nd2 <= 8)) (.ob (decide (nd1 + (i64.wrap (id0 - 1)).toNat < 8)) (.br (!(jv0 (fd9 (nd1 + id0.toNat)) == jv0 (fd9 (nd1 + (i64.wrap (id0 - 1)).toNat)) && (jv1 (fd9 (nd1 + id0.toNat)) == jv1 (fd9 (nd1 + (i64.wrap (id0 - 1)).toNat)) && true))) (.ob (decide (0 <= id0 /\ id0 < (↑nd2 : Int) /\ nd1 + nd2 <= 8)) (.ob (decide (nd1 + id0.toNat < 8)) (.ob (decide (0 <= id8 /\ id8 < (↑8 : Int) /\ 8 <= 8)) (.ob (decide (id8.toNat < 8)) (.next (iR 0 14 []) (S57.L3 (i64.wrap (id0 + 1)) (nd1) (nd2) (id3) (id4) (id5) (nd6) (id7) (i64.wrap (id8 + 1)) (fun i' => bif i'.beq id8.toNat then [vi (jv0 (fd9 (nd1 + id0.toNat))), vi (jv1 (fd9 (nd1 + id0.toNat)))] else elV tp2 fd9 i') (id10) (fd11)) [⟨13, tp2, 8, fun i' => bif i'.beq id8.toNat then [vi (jv0 (fd9 (nd1 + id0.toNat))), vi (jv1 (fd9 (nd1 + id0.toNat)))] else elV tp2 fd9 i', vf_set rfl (vf_view rfl _ _) rfl⟩]))))) (.next (iR 0 14 []) (S57.L3 (i64.wrap (id0 + 1)) (nd1) (nd2) (id3) (id4) (id5) (nd6) (id7) (id8) (elV tp2 fd9) (id10) (fd11)) [⟨13, tp2, 8, elV tp2 fd9, vf_view rfl _ _⟩])))))) (.ob (decide (0 <= id8 /\ id8 <= (↑8 : Int))) (.ob (decide (0 < 8 - id8.toNat /\ id8.toNat + (8 - id8.toNat) <= 8)) (.ob (decide (0 <= id8 /\ id8 <= (↑8 : Int))) (.br (decide ((↑id8.toNat : Int) < 3)) (.enter [some (some 13), some (some 0)] (S57.L5 (0) ((↑id8.toNat : Int)) (id8.toNat) (decide (2 < (↑id8.toNat : Int))) (8) (fun i => bif id8.toNat.ble i && i.succ.ble (id8.toNat + (8 - id8.toNat)) then [vi 0, vi 0] else elV tp2 fd9 i)) [⟨0, tp2, 8, fun i => bif id8.toNat.ble i && i.succ.ble (id8.toNat + (8 - id8.toNat)) then [vi 0, vi 0] else elV tp2 fd9 i, vf_if rfl (vf_view rfl _ _) rfl⟩]) (.enter (iR 0 15 [some none]) (S57.L12 (0) ((↑id8.toNat : Int)) (id8.toNat) (fun i => bif id8.toNat.ble i && i.succ.ble (id8.toNat + (8 - id8.toNat)) then [vi 0, vi 0] else elV tp2 fd9 i) (0) (fun i => []) (id0) (nd1) (nd2) (id3) (id4) (id5) (nd6) (id7) (id8) (fd9)) [⟨13, tp2, 8, fun i => bif id8.toNat.ble i && i.succ.ble (id8.toNat + (8 - id8.toNat)) then [vi 0, vi 0] else elV tp2 fd9 i, vf_if rfl (vf_view rfl _ _) rfl⟩])))))
 | .L4 ie0 fe1 ne2 fe3 ie4 fe5 => .br (decide (ie0 < (↑8 : Int))) (.ob (decide (0 <= ie0 /\ ie0 < (↑8 : Int) /\ 8 <= 8)) (.ob (decide (ie0.toNat < 8)) (.enter (iR 0 15 [some (some 16), some (some 15)]) (S57.L7 (ie0) (elV tp2 fe1) (ne2) (jv0 (fe1 ie0.toNat)) (jv1 (fe1 ie0.toNat)) (ne2) (elV tp2 fe3) (ie4) (fe5)) [⟨13, tp2, 8, elV tp2 fe1, vf_view rfl _ _⟩, ⟨16, tp2, ne2, elV tp2 fe3, vf_view rfl _ _⟩]))) (.ob (decide (0 <= i64.wrap ((↑ne2 : Int) - 1) /\ i64.wrap ((↑ne2 : Int) - 1) <= (↑ne2 : Int))) (.enter (iR 0 16 []) (S57.L13 (i64.wrap ((↑8 : Int) - 1)) (0) (elV tp2 fe1) ((i64.wrap ((↑ne2 : Int) - 1)).toNat) (ne2) (elV tp2 fe3) (ie4) (fe5)) [⟨13, tp2, 8, elV tp2 fe1, vf_view rfl _ _⟩, ⟨15, tp2, ne2, elV tp2 fe3, vf_view rfl _ _⟩]))
 | .L5 if0 if1 nf2 bf3 nf4 ff5 => .br (decide (if0 < if1)) (.ob (decide (0 <= if0 /\ if0 < (↑nf2 : Int) /\ nf2 <= nf4)) (.ob (decide (if0.toNat < nf4)) (.ob (decide ((↑nf2 : Int) ≠ 0)) (.ob (decide (0 <= (i64.wrap (if0 + 1)).tmod (↑nf2 : Int) /\ (i64.wrap (if0 + 1)).tmod (↑nf2 : Int) < (↑nf2 : Int) /\ nf2 <= nf4)) (.ob (decide (((i64.wrap (if0 + 1)).tmod (↑nf2 : Int)).toNat < nf4)) (.obc (.obt (.br (F103_0 (jv0 (ff5 if0.toNat)) (jv1 (ff5 if0.toNat)) (jv0 (ff5 ((i64.wrap (if0 + 1)).tmod (↑nf2 : Int)).toNat)) (jv1 (ff5 ((i64.wrap (if0 + 1)).tmod (↑nf2 : Int)).toNat)) x5 x6 x7) (.ret (V.kb true)) (.obi (.br (bf3) (.ob (bf3) (.ob (bf3) (.obc (.obt (.next [some (some 0), some (some 1)] (S57.L5 (i64.wrap (if0 + 1)) (if1) (nf2) (decide (0 < F78_0 (jv0 (ff5 if0.toNat)) (jv1 (ff5 if0.toNat)) (jv0 (ff5 ((i64.wrap (if0 + 1)).tmod (↑nf2 : Int)).toNat)) (jv1 (ff5 ((i64.wrap (if0 + 1)).tmod (↑nf2 : Int)).toNat)) x5 x6)) (nf4) (elV tp2 ff5)) [⟨0, tp2, nf4, elV tp2 ff5, vf_view rfl _ _⟩]))))) (.next [some (some 0), some (some 1)] (S57.L5 (i64.wrap (if0 + 1)) (if1) (nf2) (false) (nf4) (elV tp2 ff5)) [⟨0, tp2, nf4, elV tp2 ff5, vf_view rfl _ _⟩]))))))))))) (.ret (V.bool bf3))
 | .L7 ih0 fh1 nh2 ih3 ih4 nh5 fh6 ih7 fh8 => .obi (.obi (.obi (.obi (.obj (decide (i64.wrap (0 + 1) < (↑nh2 : Int))) (decide (0 <= i64.wrap ((↑nh2 : Int) - 2) /\ i64.wrap ((↑nh2 : Int) - 2) < (↑nh2 : Int) /\ nh2 <= nh5)) (.obi (.obj (decide (i64.wrap (0 + 1) < (↑nh2 : Int))) (decide ((i64.wrap ((↑nh2 : Int) - 2)).toNat < nh5)) (.obi (.obi (.obi (.obi (.obj (decide (i64.wrap (0 + 1) < (↑nh2 : Int))) (decide (0 <= i64.wrap ((↑nh2 : Int) - 1) /\ i64.wrap ((↑nh2 : Int) - 1) < (↑nh2 : Int) /\ nh2 <= nh5)) (.obi (.obj (decide (i64.wrap (0 + 1) < (↑nh2 : Int))) (decide ((i64.wrap ((↑nh2 : Int) - 1)).toNat < nh5)) (.obi (.obi (.br (decide (i64.wrap (0 + 1) < (↑nh2 : Int))) (.ob (decide (i64.wrap (0 + 1) < (↑nh2 : Int))) (.ob (decide (i64.wrap (0 + 1) < (↑nh2 : Int))) (.obc (.obt (.br (decide (F78_0 (jv0 (fh6 (i64.wrap ((↑nh2 : Int) - 2)).toNat)) (jv1 (fh6 (i64.wrap ((↑nh2 : Int) - 2)).toNat)) (jv0 (fh6 (i64.wrap ((↑nh2 : Int) - 1)).toNat)) (jv1 (fh6 (i64.wrap ((↑nh2 : Int) - 1)).toNat)) ih3 ih4 <= 0)) (.ob (decide (0 <= i64.wrap ((↑nh2 : Int) - 1) /\ i64.wrap ((↑nh2 : Int) - 1) <= (↑nh2 : Int))) (.next (iR 0 17 []) (S57.L7 (ih0) (elV tp2 fh1) ((i64.wrap ((↑nh2 : Int) - 1)).toNat) (ih3) (ih4) (nh5) (elV tp2 fh6) (ih7) (fh8)) [⟨13, tp2, 8, elV tp2 fh1, vf_view rfl _ _⟩, ⟨16, tp2, nh5, elV tp2 fh6, vf_view rfl _ _⟩])) (.obt (.ob (decide (nh2 <= nh5 /\ (nh2 + 1) * 16 <= 140737488355328) && !Nat.beq 16 0) (.next (iR 0 15 [some (some 18)]) (S57.L4 (i64.wrap (ih0 + 1)) (elV tp2 fh1) (nh2 + 1) (joinF nh2 (elV tp2 fh6) fun x => [vi ih3, vi ih4]) (ih7) (fh8)) [⟨13, tp2, 8, elV tp2 fh1, vf_view rfl _ _⟩, ⟨15, tp2, nh2 + 1, joinF nh2 (elV tp2 fh6) fun x => [vi ih3, vi ih4], vf_join (vf_view rfl _ _) (vf_const rfl _ rfl)⟩])))))))) (.obt (.ob (decide (nh2 <= nh5 /\ (nh2 + 1) * 16 <= 140737488355328) && !Nat.beq 16 0) (.next (iR 0 15 [some (some 18)]) (S57.L4 (i64.wrap (ih0 + 1)) (elV tp2 fh1) (nh2 + 1) (joinF nh2 (elV tp2 fh6) fun x => [vi ih3, vi ih4]) (ih7) (fh8)) [⟨13, tp2, 8, elV tp2 fh1, vf_view rfl _ _⟩, ⟨15, tp2, nh2 + 1, joinF nh2 (elV tp2 fh6) fun x => [vi ih3, vi ih4], vf_join (vf_view rfl _ _) (vf_const rfl _ rfl)⟩])))))))))))))))))))
 | .L12 im0 im1 nm2 fm3 nm4 fm5 im6 nm7 nm8 im9 im10 im11 nm12 im13 im14 fm15 => .br (decide (im0 < im1)) (.ob (decide (0 <= im0 /\ im0 < (↑nm2 : Int) /\ nm2 <= 8)) (.ob (decide (im0.toNat < 8)) (.enter (iR 0 15 [some (some 16), some (some 15)]) (S57.L14 (im0) (im1) (nm2) (elV tp2 fm3) (nm4) (jv0 (fm3 im0.toNat)) (jv1 (fm3 im0.toNat)) (nm4) (elV tp2 fm5) (im6) (nm7) (nm8) (im9) (im10) (im11) (nm12) (im13) (im14) (fm15)) [⟨13, tp2, 8, elV tp2 fm3, vf_view rfl _ _⟩, ⟨16, tp2, nm4, elV tp2 fm5, vf_view rfl _ _⟩]))) (.ob (decide (0 <= i64.wrap ((↑nm4 : Int) - 1) /\ i64.wrap ((↑nm4 : Int) - 1) <= (↑nm4 : Int))) (.enter (iR 0 16 []) (S57.L15 (i64.wrap ((↑im14.toNat : Int) - 1)) (0) ((↑im14.toNat : Int)) (im14.toNat) (elV tp2 fm3) ((i64.wrap ((↑nm4 : Int) - 1)).toNat) (nm4) (elV tp2 fm5) (im6) (nm7) (nm8) (im9) (im10) (im11) (nm12) (im13) (im14) (fm15)) [⟨13, tp2, 8, elV tp2 fm3, vf_view rfl _ _⟩, ⟨15, tp2, nm4, elV tp2 fm5, vf_view rfl _ _⟩]))
 | .L13 in0 in1 fn2 nn3 nn4 fn5 in6 fn7 => .br (decide (in1 < in0)) (.ob (decide (0 <= in0 /\ in0 < (↑8 : Int) /\ 8 <= 8)) (.ob (decide (in0.toNat < 8)) (.ob (decide (0 <= in1 /\ in1 < (↑8 : Int) /\ 8 <= 8)) (.ob (decide (in1.toNat < 8)) (.ob (decide (0 <= in1 /\ in1 < (↑8 : Int) /\ 8 <= 8)) (.ob (decide (in1.toNat < 8)) (.ob (decide (0 <= in0 /\ in0 < (↑8 : Int) /\ 8 <= 8)) (.ob (decide (in0.toNat < 8)) (.next (iR 0 16 []) (S57.L13 (i64.wrap (in0 - 1)) (i64.wrap (in1 + 1)) (fun i' => bif i'.beq in0.toNat then [vi (jv0 (fn2 in1.toNat)), vi (jv1 (fn2 in1.toNat))] else bif i'.beq in1.toNat then [vi (jv0 (fn2 in0.toNat)), vi (jv1 (fn2 in0.toNat))] else elV tp2 fn2 i') (nn3) (nn4) (elV tp2 fn5) (in6) (fn7)) [⟨13, tp2, 8, fun i' => bif i'.beq in0.toNat then [vi (jv0 (fn2 in1.toNat)), vi (jv1 (fn2 in1.toNat))] else bif i'.beq in1.toNat then [vi (jv0 (fn2 in0.toNat)), vi (jv1 (fn2 in0.toNat))] else elV tp2 fn2 i', vf_set rfl (vf_set rfl (vf_view rfl _ _) rfl) rfl⟩, ⟨15, tp2, nn4, elV tp2 fn5, vf_view rfl _ _⟩]))))))))) (.enter (iR 0 16 []) (S57.L18 ((↑nn3 : Int)) (elV tp2 fn2) (nn3) (nn4) (elV tp2 fn5) (in0) (in1) (fn2) (fn5) (in6) (fn7)) [⟨13, tp2, 8, elV tp2 fn2, vf_view rfl _ _⟩, ⟨15, tp2, nn4, elV tp2 fn5, vf_view rfl _ _⟩])
 | .L14 io0 io1 no2 fo3 no4 io5 io6 no7 fo8 io9 no10 no11 io12 io13 io14 no15 io16 io17 fo18 => .obi (.obi (.obi (.obi (.obj (decide (i64.wrap (0 + 1) < (↑no4 : Int))) (decide (0 <= i64.wrap ((↑no4 : Int) - 2) /\ i64.wrap ((↑no4 : Int) - 2) < (↑no4 : Int) /\ no4 <= no7)) (.obi (.obj (decide (i64.wrap (0 + 1) < (↑no4 : Int))) (decide ((i64.wrap ((↑no4 : Int) - 2)).toNat < no7)) (.obi (.obi (.obi (.obi (.obj (decide (i64.wrap (0 + 1) < (↑no4 : Int))) (decide (0 <= i64.wrap ((↑no4 : Int) - 1) /\ i64.wrap ((↑no4 : Int) - 1) < (↑no4 : Int) /\ no4 <= no7)) (.obi (.obj (decide (i64.wrap (0 + 1) < (↑no4 : Int))) (decide ((i64.wrap ((↑no4 : Int) - 1)).toNat < no7)) (.obi (.obi (.br (decide (i64.wrap (0 + 1) < (↑no4 : Int))) (.ob (decide (i64.wrap (0 + 1) < (↑no4 : Int))) (.ob (decide (i64.wrap (0 + 1) < (↑no4 : Int))) (.obc (.obt (.br (decide (F78_0 (jv0 (fo8 (i64.wrap ((↑no4 : Int) - 2)).toNat)) (jv1 (fo8 (i64.wrap ((↑no4 : Int) - 2)).toNat)) (jv0 (fo8 (i64.wrap ((↑no4 : Int) - 1)).toNat)) (jv1 (fo8 (i64.wrap ((↑no4 : Int) - 1)).toNat)) io5 io6 <= 0)) (.ob (decide (0 <= i64.wrap ((↑no4 : Int) - 1) /\ i64.wrap ((↑no4 : Int) - 1) <= (↑no4 : Int))) (.next (iR 0 17 []) (S57.L14 (io0) (io1) (no2) (elV tp2 fo3) ((i64.wrap ((↑no4 : Int) - 1)).toNat) (io5) (io6) (no7) (elV tp2 fo8) (io9) (no10) (no11) (io12) (io13) (io14) (no15) (io16) (io17) (fo18)) [⟨13, tp2, 8, elV tp2 fo3, vf_view rfl _ _⟩, ⟨16, tp2, no7, elV tp2 fo8, vf_view rfl _ _⟩])) (.obt (.ob (decide (no4 <= no7 /\ (no4 + 1) * 16 <= 140737488355328) && !Nat.beq 16 0) (.next (iR 0 15 [some (some 18)]) (S57.L12 (i64.wrap (io0 + 1)) (io1) (no2) (elV tp2 fo3) (no4 + 1) (joinF no4 (elV tp2 fo8) fun x => [vi io5, vi io6]) (io9) (no10) (no11) (io12) (io13) (io14) (no15) (io16) (io17) (fo18)) [⟨13, tp2, 8, elV tp2 fo3, vf_view rfl _ _⟩, ⟨15, tp2, no4 + 1, joinF no4 (elV tp2 fo8) fun x => [vi io5, vi io6], vf_join (vf_view rfl _ _) (vf_const rfl _ rfl)⟩])))))))) (.obt (.ob (decide (no4 <= no7 /\ (no4 + 1) * 16 <= 140737488355328) && !Nat.beq 16 0) (.next (iR 0 15 [some (some 18)]) (S57.L12 (i64.wrap (io0 + 1)) (io1) (no2) (elV tp2 fo3) (no4 + 1) (joinF no4 (elV tp2 fo8) fun x => [vi io5, vi io6]) (io9) (no10) (no11) (io12) (io13) (io14) (no15) (io16) (io17) (fo18)) [⟨13, tp2, 8, elV tp2 fo3, vf_view rfl _ _⟩, ⟨15, tp2, no4 + 1, joinF no4 (elV tp2 fo8) fun x => [vi io5, vi io6], vf_join (vf_view rfl _ _) (vf_const rfl _ rfl)⟩])))))))))))))))))))
 | .L15 ip0 ip1 ip2 np3 fp4 np5 np6 fp7 ip8 np9 np10 ip11 ip12 ip13 np14 ip15 ip16 fp17 => .br (decide (ip1 < ip0)) (.ob (decide (0 <= ip0 /\ ip0 < (↑np3 : Int) /\ np3 <= 8)) (.ob (decide (ip0.toNat < 8)) (.ob (decide (0 <= ip1 /\ ip1 < (↑np3 : Int) /\ np3 <= 8)) (.ob (decide (ip1.toNat < 8)) (.ob (decide (0 <= ip1 /\ ip1 < (↑np3 : Int) /\ np3 <= 8)) (.ob (decide (ip1.toNat < 8)) (.ob (decide (0 <= ip0 /\ ip0 < (↑np3 : Int) /\ np3 <= 8)) (.ob (decide (ip0.toNat < 8)) (.next (iR 0 16 []) (S57.L15 (i64.wrap (ip0 - 1)) (i64.wrap (ip1 + 1)) (ip2) (np3) (fun i' => bif i'.beq ip0.toNat then [vi (jv0 (fp4 ip1.toNat)), vi (jv1 (fp4 ip1.toNat))] else bif i'.beq ip1.toNat then [vi (jv0 (fp4 ip0.toNat)), vi (jv1 (fp4 ip0.toNat))] else elV tp2 fp4 i') (np5) (np6) (elV tp2 fp7) (ip8) (np9) (np10) (ip11) (ip12) (ip13) (np14) (ip15) (ip16) (fp17)) [⟨13, tp2, 8, fun i' => bif i'.beq ip0.toNat then [vi (jv0 (fp4 ip1.toNat)), vi (jv1 (fp4 ip1.toNat))] else bif i'.beq ip1.toNat then [vi (jv0 (fp4 ip0.toNat)), vi (jv1 (fp4 ip0.toNat))] else elV tp2 fp4 i', vf_set rfl (vf_set rfl (vf_view rfl _ _) rfl) rfl⟩, ⟨15, tp2, np6, elV tp2 fp7, vf_view rfl _ _⟩]))))))))) (.enter (iR 0 16 []) (S57.L24 ((↑ip16.toNat : Int)) (ip16.toNat) ((↑np5 : Int)) (elV tp2 fp4) (np5) (np6) (elV tp2 fp7) (ip0) (ip1) (ip2) (np3) (fp4) (fp7) (ip8) (np9) (np10) (ip11) (ip12) (ip13) (np14) (ip15) (ip16) (fp17)) [⟨13, tp2, 8, elV tp2 fp4, vf_view rfl _ _⟩, ⟨15, tp2, np6, elV tp2 fp7, vf_view rfl _ _⟩])
 | .L18 is0 fs1 ns2 ns3 fs4 is5 is6 fs7 fs8 is9 fs10 => .brt (.obt (.obt (.enter (iR 0 17 []) (S57.L20 (is0) (elV tp2 fs1) (ns2) (ns3) (elV tp2 fs4) (jv0 (fs1 0)) (jv1 (fs1 0)) (is5) (is6) (fs7) (ns2) (fs8) (is9) (fs10)) [⟨13, tp2, 8, elV tp2 fs1, vf_view rfl _ _⟩, ⟨15, tp2, ns3, elV tp2 fs4, vf_view rfl _ _⟩])))
 | .L20 iu0 fu1 nu2 nu3 fu4 iu5 iu6 iu7 iu8 fu9 nu10 fu11 iu12 fu13 => .obi (.obi (.obi (.obi (.obj (decide (i64.wrap (iu0 + 1) < (↑nu2 : Int))) (decide (0 <= i64.wrap ((↑nu2 : Int) - 2) /\ i64.wrap ((↑nu2 : Int) - 2) < (↑nu2 : Int) /\ nu2 <= nu3)) (.obi (.obj (decide (i64.wrap (iu0 + 1) < (↑nu2 : Int))) (decide ((i64.wrap ((↑nu2 : Int) - 2)).toNat < nu3)) (.obi (.obi (.obi (.obi (.obj (decide (i64.wrap (iu0 + 1) < (↑nu2 : Int))) (decide (0 <= i64.wrap ((↑nu2 : Int) - 1) /\ i64.wrap ((↑nu2 : Int) - 1) < (↑nu2 : Int) /\ nu2 <= nu3)) (.obi (.obj (decide (i64.wrap (iu0 + 1) < (↑nu2 : Int))) (decide ((i64.wrap ((↑nu2 : Int) - 1)).toNat < nu3)) (.obi (.obi (.br (decide (i64.wrap (iu0 + 1) < (↑nu2 : Int))) (.ob (decide (i64.wrap (iu0 + 1) < (↑nu2 : Int))) (.ob (decide (i64.wrap (iu0 + 1) < (↑nu2 : Int))) (.obc (.obt (.br (decide (F78_0 (jv0 (fu4 (i64.wrap ((↑nu2 : Int) - 2)).toNat)) (jv1 (fu4 (i64.wrap ((↑nu2 : Int) - 2)).toNat)) (jv0 (fu4 (i64.wrap ((↑nu2 : Int) - 1)).toNat)) (jv1 (fu4 (i64.wrap ((↑nu2 : Int) - 1)).toNat)) iu5 iu6 <= 0)) (.ob (decide (0 <= i64.wrap ((↑nu2 : Int) - 1) /\ i64.wrap ((↑nu2 : Int) - 1) <= (↑nu2 : Int))) (.next (iR 0 17 []) (S57.L20 (iu0) (elV tp2 fu1) ((i64.wrap ((↑nu2 : Int) - 1)).toNat) (nu3) (elV tp2 fu4) (iu5) (iu6) (iu7) (iu8) (fu9) (nu10) (fu11) (iu12) (fu13)) [⟨13, tp2, 8, elV tp2 fu1, vf_view rfl _ _⟩, ⟨15, tp2, nu3, elV tp2 fu4, vf_view rfl _ _⟩])) (.obt (.ob (decide (nu2 <= nu3 /\ (nu2 + 1) * 16 <= 140737488355328) && !Nat.beq 16 0) (.next (iR 0 17 [some (some 18)]) (S57.L22 (i64.wrap (0 + 1)) (iu0) (elV tp2 fu1) (nu2 + 1) (iu5) (iu6) (joinF nu2 (elV tp2 fu4) fun x => [vi iu5, vi iu6]) (iu7) (iu8) (fu9) (nu10) (nu3) (fu11) (iu12) (fu13)) [⟨13, tp2, 8, elV tp2 fu1, vf_view rfl _ _⟩, ⟨17, tp2, nu2 + 1, joinF nu2 (elV tp2 fu4) fun x => [vi iu5, vi iu6], vf_join (vf_view rfl _ _) (vf_const rfl _ rfl)⟩])))))))) (.obt (.ob (decide (nu2 <= nu3 /\ (nu2 + 1) * 16 <= 140737488355328) && !Nat.beq 16 0) (.next (iR 0 17 [some (some 18)]) (S57.L22 (i64.wrap (0 + 1)) (iu0) (elV tp2 fu1) (nu2 + 1) (iu5) (iu6) (joinF nu2 (elV tp2 fu4) fun x => [vi iu5, vi iu6]) (iu7) (iu8) (fu9) (nu10) (nu3) (fu11) (iu12) (fu13)) [⟨13, tp2, 8, elV tp2 fu1, vf_view rfl _ _⟩, ⟨17, tp2, nu2 + 1, joinF nu2 (elV tp2 fu4) fun x => [vi iu5, vi iu6], vf_join (vf_view rfl _ _) (vf_const rfl _ rfl)⟩])))))))))))))))))))
 | .L22 iw0 iw1 fw2 nw3 iw4 iw5 fw6 iw7 iw8 fw9 nw10 nw11 fw12 iw13 fw14 => .br (decide (iw0 < (↑8 : Int))) (.ob (decide (0 <= iw0 /\ iw0 < (↑8 : Int) /\ 8 <= 8)) (.ob (decide (iw0.toNat < 8)) (.enter (iR 0 16 [some (some 18), some (some 17)]) (S57.L23 (iw0) (iw1) (elV tp2 fw2) (nw3) (jv0 (fw2 iw0.toNat)) (jv1 (fw2 iw0.toNat)) (nw3) (elV tp2 fw6) (iw7) (iw8) (fw9) (nw10) (nw11) (fw12) (iw13) (fw14)) [⟨13, tp2, 8, elV tp2 fw2, vf_view rfl _ _⟩, ⟨17, tp2, nw3, elV tp2 fw6, vf_view rfl _ _⟩]))) (.ob (decide (0 <= i64.wrap ((↑nw3 : Int) - 1) /\ i64.wrap ((↑nw3 : Int) - 1) <= (↑nw3 : Int))) (.enter [some (some 17), some (some 0)] (S57.L5 (0) ((↑(i64.wrap ((↑nw3 : Int) - 1)).toNat : Int)) ((i64.wrap ((↑nw3 : Int) - 1)).toNat) (decide (2 < (↑(i64.wrap ((↑nw3 : Int) - 1)).toNat : Int))) (nw3) (elV tp2 fw6)) [⟨0, tp2, nw3, elV tp2 fw6, vf_view rfl _ _⟩]))
 | .L23 ix0 ix1 fx2 nx3 ix4 ix5 nx6 fx7 ix8 ix9 fx10 nx11 nx12 fx13 ix14 fx15 => .obi (.obi (.obi (.obi (.obj (decide (i64.wrap (ix1 + 1) < (↑nx3 : Int))) (decide (0 <= i64.wrap ((↑nx3 : Int) - 2) /\ i64.wrap ((↑nx3 : Int) - 2) < (↑nx3 : Int) /\ nx3 <= nx6)) (.obi (.obj (decide (i64.wrap (ix1 + 1) < (↑nx3 : Int))) (decide ((i64.wrap ((↑nx3 : Int) - 2)).toNat < nx6)) (.obi (.obi (.obi (.obi (.obj (decide (i64.wrap (ix1 + 1) < (↑nx3 : Int))) (decide (0 <= i64.wrap ((↑nx3 : Int) - 1) /\ i64.wrap ((↑nx3 : Int) - 1) < (↑nx3 : Int) /\ nx3 <= nx6)) (.obi (.obj (decide (i64.wrap (ix1 + 1) < (↑nx3 : Int))) (decide ((i64.wrap ((↑nx3 : Int) - 1)).toNat < nx6)) (.obi (.obi (.br (decide (i64.wrap (ix1 + 1) < (↑nx3 : Int))) (.ob (decide (i64.wrap (ix1 + 1) < (↑nx3 : Int))) (.ob (decide (i64.wrap (ix1 + 1) < (↑nx3 : Int))) (.obc (.obt (.br (decide (F78_0 (jv0 (fx7 (i64.wrap ((↑nx3 : Int) - 2)).toNat)) (jv1 (fx7 (i64.wrap ((↑nx3 : Int) - 2)).toNat)) (jv0 (fx7 (i64.wrap ((↑nx3 : Int) - 1)).toNat)) (jv1 (fx7 (i64.wrap ((↑nx3 : Int) - 1)).toNat)) ix4 ix5 <= 0)) (.ob (decide (0 <= i64.wrap ((↑nx3 : Int) - 1) /\ i64.wrap ((↑nx3 : Int) - 1) <= (↑nx3 : Int))) (.next (iR 0 18 []) (S57.L23 (ix0) (ix1) (elV tp2 fx2) ((i64.wrap ((↑nx3 : Int) - 1)).toNat) (ix4) (ix5) (nx6) (elV tp2 fx7) (ix8) (ix9) (fx10) (nx11) (nx12) (fx13) (ix14) (fx15)) [⟨13, tp2, 8, elV tp2 fx2, vf_view rfl _ _⟩, ⟨17, tp2, nx6, elV tp2 fx7, vf_view rfl _ _⟩])) (.obt (.ob (decide (nx3 <= nx6 /\ (nx3 + 1) * 16 <= 140737488355328) && !Nat.beq 16 0) (.next (iR 0 17 [some (some 19)]) (S57.L22 (i64.wrap (ix0 + 1)) (ix1) (elV tp2 fx2) (nx3 + 1) (ix4) (ix5) (joinF nx3 (elV tp2 fx7) fun x => [vi ix4, vi ix5]) (ix8) (ix9) (fx10) (nx11) (nx12) (fx13) (ix14) (fx15)) [⟨13, tp2, 8, elV tp2 fx2, vf_view rfl _ _⟩, ⟨17, tp2, nx3 + 1, joinF nx3 (elV tp2 fx7) fun x => [vi ix4, vi ix5], vf_join (vf_view rfl _ _) (vf_const rfl _ rfl)⟩])))))))) (.obt (.ob (decide (nx3 <= nx6 /\ (nx3 + 1) * 16 <= 140737488355328) && !Nat.beq 16 0) (.next (iR 0 17 [some (some 19)]) (S57.L22 (i64.wrap (ix0 + 1)) (ix1) (elV tp2 fx2) (nx3 + 1) (ix4) (ix5) (joinF nx3 (elV tp2 fx7) fun x => [vi ix4, vi ix5]) (ix8) (ix9) (fx10) (nx11) (nx12) (fx13) (ix14) (fx15)) [⟨13, tp2, 8, elV tp2 fx2, vf_view rfl _ _⟩, ⟨17, tp2, nx3 + 1, joinF nx3 (elV tp2 fx7) fun x => [vi ix4, vi ix5], vf_join (vf_view rfl _ _) (vf_const rfl _ rfl)⟩])))))))))))))))))))
 | .L24 iy0 ny1 iy2 fy3 ny4 ny5 fy6 iy7 iy8 iy9 ny10 fy11 fy12 iy13 ny14 ny15 iy16 iy17 iy18 ny19 iy20 iy21 fy22 => .br (decide (0 < iy0)) (.ob (decide ((0 : Int) <= 0 /\ 0 < (↑ny1 : Int) /\ ny1 <= 8)) (.obt (.enter (iR 0 17 []) (S57.L25 (iy0) (ny1) (iy2) (elV tp2 fy3) (ny4) (ny5) (elV tp2 fy6) (jv0 (fy3 0)) (jv1 (fy3 0)) (iy7) (iy8) (iy9) (ny10) (fy11) (ny4) (fy12) (iy13) (ny14) (ny15) (iy16) (iy17) (iy18) (ny19) (iy20) (iy21) (fy22)) [⟨13, tp2, 8, elV tp2 fy3, vf_view rfl _ _⟩, ⟨15, tp2, ny5, elV tp2 fy6, vf_view rfl _ _⟩]))) (.ob (decide (0 <= i64.wrap ((↑ny4 : Int) - 1) /\ i64.wrap ((↑ny4 : Int) - 1) <= (↑ny4 : Int))) (.enter [some (some 15), some (some 0)] (S57.L5 (0) ((↑(i64.wrap ((↑ny4 : Int) - 1)).toNat : Int)) ((i64.wrap ((↑ny4 : Int) - 1)).toNat) (decide (2 < (↑(i64.wrap ((↑ny4 : Int) - 1)).toNat : Int))) (ny5) (elV tp2 fy6)) [⟨0, tp2, ny5, elV tp2 fy6, vf_view rfl _ _⟩]))
 | .L25 iz0 nz1 iz2 fz3 nz4 nz5 fz6 iz7 iz8 iz9 iz10 iz11 nz12 fz13 nz14 fz15 iz16 nz17 nz18 iz19 iz20 iz21 nz22 iz23 iz24 fz25 => .obi (.obi (.obi (.obi (.obj (decide (i64.wrap (iz2 + 1) < (↑nz4 : Int))) (decide (0 <= i64.wrap ((↑nz4 : Int) - 2) /\ i64.wrap ((↑nz4 : Int) - 2) < (↑nz4 : Int) /\ nz4 <= nz5)) (.obi (.obj (decide (i64.wrap (iz2 + 1) < (↑nz4 : Int))) (decide ((i64.wrap ((↑nz4 : Int) - 2)).toNat < nz5)) (.obi (.obi (.obi (.obi (.obj (decide (i64.wrap (iz2 + 1) < (↑nz4 : Int))) (decide (0 <= i64.wrap ((↑nz4 : Int) - 1) /\ i64.wrap ((↑nz4 : Int) - 1) < (↑nz4 : Int) /\ nz4 <= nz5)) (.obi (.obj (decide (i64.wrap (iz2 + 1) < (↑nz4 : Int))) (decide ((i64.wrap ((↑nz4 : Int) - 1)).toNat < nz5)) (.obi (.obi (.br (decide (i64.wrap (iz2 + 1) < (↑nz4 : Int))) (.ob (decide (i64.wrap (iz2 + 1) < (↑nz4 : Int))) (.ob (decide (i64.wrap (iz2 + 1) < (↑nz4 : Int))) (.obc (.obt (.br (decide (F78_0 (jv0 (fz6 (i64.wrap ((↑nz4 : Int) - 2)).toNat)) (jv1 (fz6 (i64.wrap ((↑nz4 : Int) - 2)).toNat)) (jv0 (fz6 (i64.wrap ((↑nz4 : Int) - 1)).toNat)) (jv1 (fz6 (i64.wrap ((↑nz4 : Int) - 1)).toNat)) iz7 iz8 <= 0)) (.ob (decide (0 <= i64.wrap ((↑nz4 : Int) - 1) /\ i64.wrap ((↑nz4 : Int) - 1) <= (↑nz4 : Int))) (.next (iR 0 17 []) (S57.L25 (iz0) (nz1) (iz2) (elV tp2 fz3) ((i64.wrap ((↑nz4 : Int) - 1)).toNat) (nz5) (elV tp2 fz6) (iz7) (iz8) (iz9) (iz10) (iz11) (nz12) (fz13) (nz14) (fz15) (iz16) (nz17) (nz18) (iz19) (iz20) (iz21) (nz22) (iz23) (iz24) (fz25)) [⟨13, tp2, 8, elV tp2 fz3, vf_view rfl _ _⟩, ⟨15, tp2, nz5, elV tp2 fz6, vf_view rfl _ _⟩])) (.obt (.ob (decide (nz4 <= nz5 /\ (nz4 + 1) * 16 <= 140737488355328) && !Nat.beq 16 0) (.next (iR 0 17 [some (some 18)]) (S57.L26 (i64.wrap (0 + 1)) (iz0) (nz1) (iz2) (elV tp2 fz3) (nz4 + 1) (iz7) (iz8) (joinF nz4 (elV tp2 fz6) fun x => [vi iz7, vi iz8]) (iz9) (iz10) (iz11) (nz12) (fz13) (nz14) (nz5) (fz15) (iz16) (nz17) (nz18) (iz19) (iz20) (iz21) (nz22) (iz23) (iz24) (fz25)) [⟨13, tp2, 8, elV tp2 fz3, vf_view rfl _ _⟩, ⟨17, tp2, nz4 + 1, joinF nz4 (elV tp2 fz6) fun x => [vi iz7, vi iz8], vf_join (vf_view rfl _ _) (vf_const rfl _ rfl)⟩])))))))) (.obt (.ob (decide (nz4 <= nz5 /\ (nz4 + 1) * 16 <= 140737488355328) && !Nat.beq 16 0) (.next (iR 0 17 [some (some 18)]) (S57.L26 (i64.wrap (0 + 1)) (iz0) (nz1) (iz2) (elV tp2 fz3) (nz4 + 1) (iz7) (iz8) (joinF nz4 (elV tp2 fz6) fun x => [vi iz7, vi iz8]) (iz9) (iz10) (iz11) (nz12) (fz13) (nz14) (nz5) (fz15) (iz16) (nz17) (nz18) (iz19) (iz20) (iz21) (nz22) (iz23) (iz24) (fz25)) [⟨13, tp2, 8, elV tp2 fz3, vf_view rfl _ _⟩, ⟨17, tp2, nz4 + 1, joinF nz4 (elV tp2 fz6) fun x => [vi iz7, vi iz8], vf_join (vf_view rfl _ _) (vf_const rfl _ rfl)⟩])))))))))))))))))))
 | .L26 iza0 iza1 nza2 iza3 fza4 nza5 iza6 iza7 fza8 iza9 iza10 iza11 nza12 fza13 nza14 nza15 fza16 iza17 nza18 nza19 iza20 iza21 iza22 nza23 iza24 iza25 fza26 => .br (decide (iza0 < iza1)) (.ob (decide (0 <= iza0 /\ iza0 < (↑nza2 : Int) /\ nza2 <= 8)) (.ob (decide (iza0.toNat < 8)) (.enter (iR 0 16 [some (some 18), some (some 17)]) (S57.L27 (iza0) (iza1) (nza2) (iza3) (elV tp2 fza4) (nza5) (jv0 (fza4 iza0.toNat)) (jv1 (fza4 iza0.toNat)) (nza5) (elV tp2 fza8) (iza9) (iza10) (iza11) (nza12) (fza13) (nza14) (nza15) (fza16) (iza17) (nza18) (nza19) (iza20) (iza21) (iza22) (nza23) (iza24) (iza25) (fza26)) [⟨13, tp2, 8, elV tp2 fza4, vf_view rfl _ _⟩, ⟨17, tp2, nza5, elV tp2 fza8, vf_view rfl _ _⟩]))) (.ob (decide (0 <= i64.wrap ((↑nza5 : Int) - 1) /\ i64.wrap ((↑nza5 : Int) - 1) <= (↑nza5 : Int))) (.enter [some (some 17), some (some 0)] (S57.L5 (0) ((↑(i64.wrap ((↑nza5 : Int) - 1)).toNat : Int)) ((i64.wrap ((↑nza5 : Int) - 1)).toNat) (decide (2 < (↑(i64.wrap ((↑nza5 : Int) - 1)).toNat : Int))) (nza5) (elV tp2 fza8)) [⟨0, tp2, nza5, elV tp2 fza8, vf_view rfl _ _⟩]))
 | .L27 izb0 izb1 nzb2 izb3 fzb4 nzb5 izb6 izb7 nzb8 fzb9 izb10 izb11 izb12 nzb13 fzb14 nzb15 nzb16 fzb17 izb18 nzb19 nzb20 izb21 izb22 izb23 nzb24 izb25 izb26 fzb27 => .obi (.obi (.obi (.obi (.obj (decide (i64.wrap (izb3 + 1) < (↑nzb5 : Int))) (decide (0 <= i64.wrap ((↑nzb5 : Int) - 2) /\ i64.wrap ((↑nzb5 : Int) - 2) < (↑nzb5 : Int) /\ nzb5 <= nzb8)) (.obi (.obj (decide (i64.wrap (izb3 + 1) < (↑nzb5 : Int))) (decide ((i64.wrap ((↑nzb5 : Int) - 2)).toNat < nzb8)) (.obi (.obi (.obi (.obi (.obj (decide (i64.wrap (izb3 + 1) < (↑nzb5 : Int))) (decide (0 <= i64.wrap ((↑nzb5 : Int) - 1) /\ i64.wrap ((↑nzb5 : Int) - 1) < (↑nzb5 : Int) /\ nzb5 <= nzb8)) (.obi (.obj (decide (i64.wrap (izb3 + 1) < (↑nzb5 : Int))) (decide ((i64.wrap ((↑nzb5 : Int) - 1)).toNat < nzb8)) (.obi (.obi (.br (decide (i64.wrap (izb3 + 1) < (↑nzb5 : Int))) (.ob (decide (i64.wrap (izb3 + 1) < (↑nzb5 : Int))) (.ob (decide (i64.wrap (izb3 + 1) < (↑nzb5 : Int))) (.obc (.obt (.br (decide (F78_0 (jv0 (fzb9 (i64.wrap ((↑nzb5 : Int) - 2)).toNat)) (jv1 (fzb9 (i64.wrap ((↑nzb5 : Int) - 2)).toNat)) (jv0 (fzb9 (i64.wrap ((↑nzb5 : Int) - 1)).toNat)) (jv1 (fzb9 (i64.wrap ((↑nzb5 : Int) - 1)).toNat)) izb6 izb7 <= 0)) (.ob (decide (0 <= i64.wrap ((↑nzb5 : Int) - 1) /\ i64.wrap ((↑nzb5 : Int) - 1) <= (↑nzb5 : Int))) (.next (iR 0 18 []) (S57.L27 (izb0) (izb1) (nzb2) (izb3) (elV tp2 fzb4) ((i64.wrap ((↑nzb5 : Int) - 1)).toNat) (izb6) (izb7) (nzb8) (elV tp2 fzb9) (izb10) (izb11) (izb12) (nzb13) (fzb14) (nzb15) (nzb16) (fzb17) (izb18) (nzb19) (nzb20) (izb21) (izb22) (izb23) (nzb24) (izb25) (izb26) (fzb27)) [⟨13, tp2, 8, elV tp2 fzb4, vf_view rfl _ _⟩, ⟨17, tp2, nzb8, elV tp2 fzb9, vf_view rfl _ _⟩])) (.obt (.ob (decide (nzb5 <= nzb8 /\ (nzb5 + 1) * 16 <= 140737488355328) && !Nat.beq 16 0) (.next (iR 0 17 [some (some 19)]) (S57.L26 (i64.wrap (izb0 + 1)) (izb1) (nzb2) (izb3) (elV tp2 fzb4) (nzb5 + 1) (izb6) (izb7) (joinF nzb5 (elV tp2 fzb9) fun x => [vi izb6, vi izb7]) (izb10) (izb11) (izb12) (nzb13) (fzb14) (nzb15) (nzb16) (fzb17) (izb18) (nzb19) (nzb20) (izb21) (izb22) (izb23) (nzb24) (izb25) (izb26) (fzb27)) [⟨13, tp2, 8, elV tp2 fzb4, vf_view rfl _ _⟩, ⟨17, tp2, nzb5 + 1, joinF nzb5 (elV tp2 fzb9) fun x => [vi izb6, vi izb7], vf_join (vf_view rfl _ _) (vf_const rfl _ rfl)⟩])))))))) (.obt (.ob (decide (nzb5 <= nzb8 /\ (nzb5 + 1) * 16 <= 140737488355328) && !Nat.beq 16 0) (.next (iR 0 17 [some (some 19)]) (S57.L26 (i64.wrap (izb0 + 1)) (izb1) (nzb2) (izb3) (elV tp2 fzb4) (nzb5 + 1) (izb6) (izb7) (joinF nzb5 (elV tp2 fzb9) fun x => [vi izb6, vi izb7]) (izb10) (izb11) (izb12) (nzb13) (fzb14) (nzb15) (nzb16) (fzb17) (izb18) (nzb19) (nzb20) (izb21) (izb22) (izb23) (nzb24) (izb25) (izb26) (fzb27)) [⟨13, tp2, 8, elV tp2 fzb4, vf_view rfl _ _⟩, ⟨17, tp2, nzb5 + 1, joinF nzb5 (elV tp2 fzb9) fun x => [vi izb6, vi izb7], vf_join (vf_view rfl _ _) (vf_const rfl _ rfl)⟩])))))))))))))))))))
def m57 (x0 x1 x2 x3 x4 x5 x6 x7 : Int) (b8 : Bool) (x9 x10 x11 x12 : Int) : RT S57 := .br (b8) (.ret (V.kb false)) (.obc (.obt (.brt (.obt (.obc (.obt (.obc (.obt (.obt (.obt (.brt (.obt (.obc (.obt (.obc (.obt (.obt (.obt (.brt (.obt (.obc (.obt (.obc (.obt (.obt (.obt (.brt (.obt (.obc (.obt (.obc (.obt (.obt (.obt (.brf (.obc (.obt (.brt (.enter (iR 0 14 []) (S57.L0 (i64.wrap (0 + 1)) (joinF 6 (joinF 4 (joinF 2 (fun i => List.take 2 (List.drop (i * 2) [vi (F102_0 x0 x2 x9 x3), vi (F102_1 x1 x2 x10 x3), vi (F102_0 x0 x2 x9 x4), vi (F102_1 x1 x2 x10 x4)])) fun i => List.take 2 (List.drop (i * 2) [vi (F102_0 x0 x2 x11 x3), vi (F102_1 x1 x2 x10 x3), vi (F102_0 x0 x2 x11 x4), vi (F102_1 x1 x2 x10 x4)])) fun i => List.take 2 (List.drop (i * 2) [vi (F102_0 x0 x2 x11 x3), vi (F102_1 x1 x2 x12 x3), vi (F102_0 x0 x2 x11 x4), vi (F102_1 x1 x2 x12 x4)])) fun i => List.take 2 (List.drop (i * 2) [vi (F102_0 x0 x2 x9 x3), vi (F102_1 x1 x2 x12 x3), vi (F102_0 x0 x2 x9 x4), vi (F102_1 x1 x2 x12 x4)]))) [⟨13, tp2, 8, joinF 6 (joinF 4 (joinF 2 (fun i => List.take 2 (List.drop (i * 2) [vi (F102_0 x0 x2 x9 x3), vi (F102_1 x1 x2 x10 x3), vi (F102_0 x0 x2 x9 x4), vi (F102_1 x1 x2 x10 x4)])) fun i => List.take 2 (List.drop (i * 2) [vi (F102_0 x0 x2 x11 x3), vi (F102_1 x1 x2 x10 x3), vi (F102_0 x0 x2 x11 x4), vi (F102_1 x1 x2 x10 x4)])) fun i => List.take 2 (List.drop (i * 2) [vi (F102_0 x0 x2 x11 x3), vi (F102_1 x1 x2 x12 x3), vi (F102_0 x0 x2 x11 x4), vi (F102_1 x1 x2 x12 x4)])) fun i => List.take 2 (List.drop (i * 2) [vi (F102_0 x0 x2 x9 x3), vi (F102_1 x1 x2 x12 x3), vi (F102_0 x0 x2 x9 x4), vi (F102_1 x1 x2 x12 x4)]), vf_all rfl rfl⟩])))))))))))))))))))))))))))))))))))))))
theorem run57 (x0 x1 x2 x3 x4 x5 x6 x7 : Int) (b8 : Bool) (x9 x10 x11 x12 : Int) : Fits ctB29 u57 (D57 x0 x1 x2 x3 x4 x5 x6 x7 b8 x9 x10 x11 x12) (rl57 x0 x1 x2 x3 x4 x5 x6 x7 b8 x9 x10 x11 x12) (m57 x0 x1 x2 x3 x4 x5 x6 x7 b8 x9 x10 x11 x12) (st57 x0 x1 x2 x3 x4 x5 x6 x7 b8 x9 x10 x11 x12) := ⟨⟨by kernel_rfl, by kernel_rfl⟩, fun s => by cases s <;> exact ⟨by kernel_rfl, by kernel_rfl⟩⟩
attribute [local irreducible] F103_0 F78_0 F140_0
def pl57 (x0 x1 x2 x3 x4 x9 x10 x11 x12 : Int) : List P2 := [(F102_0 x0 x2 x9 x3, F102_1 x1 x2 x10 x3), (F102_0 x0 x2 x9 x4, F102_1 x1 x2 x10 x4), (F102_0 x0 x2 x11 x3, F102_1 x1 x2 x10 x3), (F102_0 x0 x2 x11 x4, F102_1 x1 x2 x10 x4), (F102_0 x0 x2 x11 x3, F102_1 x1 x2 x12 x3), (F102_0 x0 x2 x11 x4, F102_1 x1 x2 x12 x4), (F102_0 x0 x2 x9 x3, F102_1 x1 x2 x12 x3), (F102_0 x0 x2 x9 x4, F102_1 x1 x2 x12 x4)]
def F57 (x0 x1 x2 x3 x4 x5 x6 x7 : Int) (b8 : Bool) (x9 x10 x11 x12 : Int) : Bool := !b8 && refB (pl57 x0 x1 x2 x3 x4 x9 x10 x11 x12) (x5, x6) x7
def In57 (x0 x1 x2 x3 x4 x5 x6 x7 x9 x10 x11 x12 : Int) : Prop := (-100000 <= x0 /\ x0 <= 100000) /\ (-100000 <= x1 /\ x1 <= 100000) /\ (0 <= x2 /\ x2 <= 200) /\ (0 <= x3 /\ x3 <= 200) /\ (0 <= x4 /\ x4 <= 200) /\ sm x5 /\ sm x6 /\ (0 <= x7 /\ x7 <= 1073741824) /\ (-100000 <= x9 /\ x9 <= 100000) /\ (-100000 <= x10 /\ x10 <= 100000) /\ (-100000 <= x11 /\ x11 <= 100000) /\ (-100000 <= x12 /\ x12 <= 100000)
theorem atS {l h n x : Int} (hl : -100000 <= l /\ l <= 100000) (hh : 0 <= h /\ h <= 200) (hn : 0 <= n /\ n <= 200) (hx : -100000 <= x /\ x <= 100000) : F102_0 l h x n = h * l + n * (x - l) /\ F102_1 l h x n = h * l + n * (x - l) /\ sm (h * l + n * (x - l)) := by
 have k1 := mulS (x := h) (y := l) (A := 200) (B := 100000) (by omega) (by omega) (by omega) (by omega)
 have k2 := mulS (x := n) (y := x - l) (A := 200) (B := 200000) (by omega) (by omega) (by omega) (by omega)
 unfold F102_0 F102_1 F84_0 F84_1
 rw [wrapI (x := x - l) (by omega) (by omega), wrapI (x := h * l) (by omega) (by omega), wrapI (x := n * (x - l)) (by omega) (by omega), wrapI (x := h * l + n * (x - l)) (by omega) (by omega)]
 exact ⟨rfl, rfl, by unfold sm; omega⟩
theorem pl57_sm {x0 x1 x2 x3 x4 x5 x6 x7 x9 x10 x11 x12 : Int} (h : In57 x0 x1 x2 x3 x4 x5 x6 x7 x9 x10 x11 x12) : ∀ q ∈ pl57 x0 x1 x2 x3 x4 x9 x10 x11 x12, SmP q := by
 obtain ⟨h0, h1, h2, h3, h4, h5, h6, h7, h9, h10, h11, h12⟩ := h
 have k : ∀ a b n : Int, (-100000 <= a /\ a <= 100000) -> (-100000 <= b /\ b <= 100000) -> (0 <= n /\ n <= 200) -> SmP (F102_0 x0 x2 a n, F102_1 x1 x2 b n) := fun a b n ha hb hn => by
  have e1 := atS h0 h2 hn ha
  have e2 := atS h1 h2 hn hb
  exact ⟨by show sm (F102_0 x0 x2 a n); rw [e1.1]; exact e1.2.2, by show sm (F102_1 x1 x2 b n); rw [e2.2.1]; exact e2.2.2⟩
 intro q hq
 simp only [pl57, List.mem_cons, List.not_mem_nil, or_false] at hq
 rcases hq with rfl | rfl | rfl | rfl | rfl | rfl | rfl | rfl
 ·exact k _ _ _ h9 h10 h3
 ·exact k _ _ _ h9 h10 h4
 ·exact k _ _ _ h11 h10 h3
 ·exact k _ _ _ h11 h10 h4
 ·exact k _ _ _ h11 h12 h3
 ·exact k _ _ _ h11 h12 h4
 ·exact k _ _ _ h9 h12 h3
 ·exact k _ _ _ h9 h12 h4
theorem fin57 (x0 x1 x2 x3 x4 x5 x6 x7 : Int) (b8 : Bool) (x9 x10 x11 x12 : Int) (hm : SmP (x5, x6)) (h7 : 0 <= x7) (h8 : x7 <= 1073741824) {n cap : Nat} {fo : (Nat -> List V)} (hc : n <= cap) (hC : cap <= 100) (h1 : 1 <= n) (hs : ∀ k, k < n -> SmP (pq fo k)) :
 Ev (st57 x0 x1 x2 x3 x4 x5 x6 x7 b8 x9 x10 x11 x12) (.L5 0 (n : Int) n (decide (2 < (n : Int))) cap fo) (.bool (tpB (ptL n fo) (x5, x6) x7)) := by
 have key : ∀ i, i <= n -> ∀ (b : Bool) (g : (Nat -> List V)), (∀ k, pq g k = pq fo k) -> (b = true ↔ 2 < n /\ ∀ k, k < i -> 0 < sdp (pq fo k) (pq fo ((k + 1) % n)) (x5, x6)) -> (∀ k, k < i -> nrp (pq fo k) (pq fo ((k + 1) % n)) (x5, x6) x7 = false) -> Ev (st57 x0 x1 x2 x3 x4 x5 x6 x7 b8 x9 x10 x11 x12) (.L5 (i : Int) (n : Int) n b cap g) (.bool (tpB (ptL n fo) (x5, x6) x7)) := by
  refine up_ind fun i hi ih b g hg hb hN => ?_
  by_cases hlt : i < n
  ·have hmod : (i + 1) % n < n := Nat.mod_lt _ (by omega)
   have e : (i64.wrap ((i : Int) + 1)).tmod (n : Int) = (((i + 1) % n : Nat) : Int) := by
    rw [wp1 (by omega)]; exact (Int.ofNat_tmod _ _).symm
   have n1 : F103_0 (pq g i).1 (pq g i).2 (pq g ((i + 1) % n)).1 (pq g ((i + 1) % n)).2 x5 x6 x7 = nrp (pq fo i) (pq fo ((i + 1) % n)) (x5, x6) x7 := by
    rw [hg, hg]; exact nrT (a := pq fo i) (b := pq fo ((i + 1) % n)) (p := (x5, x6)) (hs i hlt) (hs _ hmod) hm h7 h8
   have n2 : F78_0 (pq g i).1 (pq g i).2 (pq g ((i + 1) % n)).1 (pq g ((i + 1) % n)).2 x5 x6 = sdp (pq fo i) (pq fo ((i + 1) % n)) (x5, x6) := by
    rw [hg, hg]; exact sdT (a := pq fo i) (b := pq fo ((i + 1) % n)) (p := (x5, x6)) (hs i hlt) (hs _ hmod) hm
   refine Ev.of rfl (evBrT (dqt (by omega)) (evOb (dqt (by omega)) (evOb (dqt (by omega)) (evOb (dqt (by omega)) (evOb (dqt (by rw [e]; omega)) (evOb (dqt (by rw [e]; omega)) (evObc (evObt ?_))))))))
   have hstep : ∀ b', (b' = true ↔ b = true /\ 0 < sdp (pq fo i) (pq fo ((i + 1) % n)) (x5, x6)) -> nrp (pq fo i) (pq fo ((i + 1) % n)) (x5, x6) x7 = false -> Ev (st57 x0 x1 x2 x3 x4 x5 x6 x7 b8 x9 x10 x11 x12) (.L5 (i64.wrap ((i : Int) + 1)) (n : Int) n b' cap (elV ty2 g)) (.bool (tpB (ptL n fo) (x5, x6) x7)) := fun b' hb' hn => by
    rw [wp1 (by omega)]
    refine ih hlt b' _ (fun k => hg k) ?_ ?_
    ·rw [hb', hb]
     constructor
     ·rintro ⟨⟨q1, q2⟩, q3⟩
      refine ⟨q1, fun k hk => ?_⟩
      by_cases ek : k = i
      ·rw [ek]; exact q3
      ·exact q2 k (by omega)
     ·rintro ⟨q1, q2⟩
      exact ⟨⟨q1, fun k hk => q2 k (by omega)⟩, q2 i (by omega)⟩
    ·intro k hk
     by_cases ek : k = i
     ·rw [ek]; exact hn
     ·exact hN k (by omega)
   have e' : ((i64.wrap ((i : Int) + 1)).tmod (n : Int)).toNat = (i + 1) % n := by rw [e]; rfl
   refine evBr (fun hx => evRet ?_) (fun hx => evObi (evBr (fun hb0 => evOb hb0 (evOb hb0 (evObc (evObt (evNext ?_))))) (fun hb0 => evNext ?_)))
   ·rw [e'] at hx
    have hx : nrp (pq fo i) (pq fo ((i + 1) % n)) (x5, x6) x7 = true := n1.symm.trans hx
    rw [tpB_t (.inl ⟨i, by rw [ptL_len]; exact hlt, by rw [ptL_len, ptL_pAt hlt, ptL_pAt hmod]; exact hx⟩)]; rfl
   ·rw [e'] at hx ⊢
    refine hstep _ ?_ (n1.symm.trans hx)
    rw [decide_eq_true_eq]
    have n2' : F78_0 (jv0 (g (i : Int).toNat)) (jv1 (g (i : Int).toNat)) (jv0 (g ((i + 1) % n))) (jv1 (g ((i + 1) % n))) x5 x6 = _ := n2
    rw [n2']
    exact ⟨fun q => ⟨hb0, q⟩, fun q => q.2⟩
   ·rw [e'] at hx
    refine hstep _ ?_ (n1.symm.trans hx)
    rw [hb0]
    exact ⟨(fun q => by cases q), fun q => q.1⟩
  ·have ei : i = n := by omega
   subst ei
   refine Ev.of rfl (evBrF (dqf (by omega)) (evRet ?_))
   have : b = tpB (ptL i fo) (x5, x6) x7 := by
    cases hb' : b with
    | true =>
      have := hb.1 hb'
      refine (tpB_t (.inr ⟨by rw [ptL_len]; exact this.1, fun k hk => ?_⟩)).symm
      rw [ptL_len] at hk ⊢
      rw [ptL_pAt hk, ptL_pAt (Nat.mod_lt _ (by omega))]
      exact this.2 k hk
    | false =>
      refine (tpB_f ?_).symm
      rintro (⟨k, hk, h⟩ | ⟨q1, q2⟩)
      ·rw [ptL_len] at hk h
       rw [ptL_pAt hk, ptL_pAt (Nat.mod_lt _ (by omega)), hN k hk] at h; cases h
      ·rw [ptL_len] at q1 q2
       have := hb.2 ⟨q1, fun k hk => by
        have := q2 k hk
        rwa [ptL_pAt hk, ptL_pAt (Nat.mod_lt _ (by omega))] at this⟩
       rw [hb'] at this; cases this
   rw [this]
 exact key 0 (Nat.zero_le _) _ fo (fun _ => rfl) ⟨fun h => ⟨by have := of_decide_eq_true h; omega, fun k hk => by omega⟩, fun h => dqt (by omega)⟩ (fun k hk => by omega)
theorem srt57 (x0 x1 x2 x3 x4 x5 x6 x7 : Int) (b8 : Bool) (x9 x10 x11 x12 : Int) {r : V} {D : P2 -> Prop} (hD : ∀ q, D q -> SmP q) (h2 : ∀ f j g, Srt 8 f -> MemN 8 D f -> Ev (st57 x0 x1 x2 x3 x4 x5 x6 x7 b8 x9 x10 x11 x12) (.L2 1 f j g) r) {f : (Nat -> List V)} (hf : MemN 8 D f) : Ev (st57 x0 x1 x2 x3 x4 x5 x6 x7 b8 x9 x10 x11 x12) (.L0 1 f) r := by
 refine sort_ind (N := 8) (D := D) (P0 := fun i f => Ev (st57 x0 x1 x2 x3 x4 x5 x6 x7 b8 x9 x10 x11 x12) (.L0 (i : Int) f) r) (P1 := fun j i f => Ev (st57 x0 x1 x2 x3 x4 x5 x6 x7 b8 x9 x10 x11 x12) (.L1 (j : Int) (i : Int) f) r) ?_ ?_ ?_ ?_ 7 1 f rfl (Nat.le_refl _) (fun a b h1 h2 => by omega) hf
 ·intro i f h1 h2 h
  exact Ev.of rfl (evBrT (dqt (by omega)) (evEnter h))
 ·intro f hs hm
  exact Ev.of rfl (evBrF (dqf (by omega)) (evBrf (evEnter (h2 _ _ _ hs hm))))
 ·intro j i f h0 hji hi hm hlt h
  have e := wm1 h0 (by omega)
  have hC : decide (0 < (j : Int)) = true := dqt (by omega)
  have hlt' := (cmpT (hD _ ((hm _).2 ⟨j, by omega, rfl⟩)) (hD _ ((hm _).2 ⟨j - 1, by omega, rfl⟩))).2 hlt
  refine Ev.of rfl (evObi (evObi (evObj (fun _ => dqt (by first | omega | (rw [e]; omega))) (evObi (evObj (fun _ => dqt (by first | omega | (rw [e]; omega))) (evObi (evObi (evObi (evObj (fun _ => dqt (by first | omega | (rw [e]; omega))) (evObi (evObj (fun _ => dqt (by first | omega | (rw [e]; omega))) (evBrT hC (evOb hC (evOb hC (evOb hC (evObc (evObt (evBrT ?_
   (evOb (dqt (by first | omega | (rw [e]; omega))) (evOb (dqt (by first | omega | (rw [e]; omega))) (evOb (dqt (by first | omega | (rw [e]; omega))) (evOb (dqt (by first | omega | (rw [e]; omega))) (evOb (dqt (by first | omega | (rw [e]; omega))) (evOb (dqt (by first | omega | (rw [e]; omega))) (evOb (dqt (by first | omega | (rw [e]; omega))) (evOb (dqt (by first | omega | (rw [e]; omega))) (evNext ?_)))))))))))))))))))))))))))
  ·rw [e]; exact hlt'
  ·rw [e]; exact h
 ·intro j i f hji hi hm hn h
  have h' : Ev (st57 x0 x1 x2 x3 x4 x5 x6 x7 b8 x9 x10 x11 x12) (.L0 (i64.wrap ((i : Int) + 1)) (elV ty2 f)) r := by rw [wp1 (by omega)]; exact h
  by_cases h0 : 0 < j
  ·have e := wm1 h0 (by omega)
   have hC : decide (0 < (j : Int)) = true := dqt (by omega)
   have hlt' := fun hh => hn h0 ((cmpT (hD _ ((hm _).2 ⟨j, by omega, rfl⟩)) (hD _ ((hm _).2 ⟨j - 1, by omega, rfl⟩))).1 hh)
   refine Ev.of rfl (evObi (evObi (evObj (fun _ => dqt (by first | omega | (rw [e]; omega))) (evObi (evObj (fun _ => dqt (by first | omega | (rw [e]; omega))) (evObi (evObi (evObi (evObj (fun _ => dqt (by first | omega | (rw [e]; omega))) (evObi (evObj (fun _ => dqt (by first | omega | (rw [e]; omega))) (evBrT hC (evOb hC (evOb hC (evOb hC (evObc (evObt (evBrF ?_ (evNext h')))))))))))))))))))
   rw [e]; exact Bool.eq_false_iff.2 hlt'
  ·have hC : decide (0 < (j : Int)) = false := dqf (by omega)
   have hx : ∀ {b : Bool}, decide (0 < (j : Int)) = true -> b = true := fun hh => by rw [hC] at hh; cases hh
   exact Ev.of rfl (evObi (evObi (evObj hx (evObi (evObj hx (evObi (evObi (evObi (evObj hx (evObi (evObj hx (evBrF hC (evNext h')))))))))))))
theorem cmp57 (x0 x1 x2 x3 x4 x5 x6 x7 : Int) (b8 : Bool) (x9 x10 x11 x12 : Int) {r : V} {D : P2 -> Prop} (h4 : ∀ f j g, SSr 8 f -> MemN 8 D f -> Ev (st57 x0 x1 x2 x3 x4 x5 x6 x7 b8 x9 x10 x11 x12) (.L4 0 f 0 (fun _ => []) j g) r) (h5 : ∀ m f, 1 <= m -> m < 3 -> SSr m f -> MemN m D f -> Ev (st57 x0 x1 x2 x3 x4 x5 x6 x7 b8 x9 x10 x11 x12) (.L5 0 (m : Int) m (decide (2 < (m : Int))) 8 f) r)
 (h12 : ∀ m f i n1 n2 i1 i2 i3 n3 i4 g, 3 <= m -> m < 8 -> SSr m f -> MemN m D f -> Ev (st57 x0 x1 x2 x3 x4 x5 x6 x7 b8 x9 x10 x11 x12) (.L12 0 (m : Int) m f 0 (fun _ => []) i n1 n2 i1 i2 i3 n3 i4 (m : Int) g) r) {f : (Nat -> List V)} (j : Int) (g : (Nat -> List V)) (hs : Srt 8 f) (hf : MemN 8 D f) : Ev (st57 x0 x1 x2 x3 x4 x5 x6 x7 b8 x9 x10 x11 x12) (.L2 1 f j g) r := by
 refine comp_ind (N := 8) (D := D) (P2' := fun i f => ∀ j g, Ev (st57 x0 x1 x2 x3 x4 x5 x6 x7 b8 x9 x10 x11 x12) (.L2 (i : Int) f j g) r) (P3 := fun k off m f => ∀ i1 i2 i3 n i4 i5 g, Ev (st57 x0 x1 x2 x3 x4 x5 x6 x7 b8 x9 x10 x11 x12) (.L3 (k : Int) off (8 - off) i1 i2 i3 n i4 (m : Int) f i5 g) r) ?_ ?_ ?_ ?_ ?_ ?_ 7 1 f rfl (Nat.le_refl _) hs (fun a b h1 h2 => by omega) hf j g
 ·intro f hs hm j g
  exact Ev.of rfl (evBrF (dqf (by omega)) (evBrf (evEnter (h4 _ _ _ hs hm))))
 ·intro i f h1 h8 hne h j g
  have e := wm1 (show 0 < i by omega) (by omega)
  refine Ev.of rfl (evBrT (dqt (by omega)) (evOb (dqt (by first | omega | (rw [e]; omega))) (evOb (dqt (by first | omega | (rw [e]; omega))) (evOb (dqt (by first | omega | (rw [e]; omega))) (evOb (dqt (by first | omega | (rw [e]; omega))) (evBrF ?_ (evNext ?_)))))))
  ·rw [e]; exact (eqB _ _ _ _).trans (dqf hne)
  ·rw [wp1 (by omega)]; exact h j g
 ·intro i f h1 h8 he h j g
  have e := wm1 (show 0 < i by omega) (by omega)
  refine Ev.of rfl (evBrT (dqt (by omega)) (evOb (dqt (by first | omega | (rw [e]; omega))) (evOb (dqt (by first | omega | (rw [e]; omega))) (evOb (dqt (by first | omega | (rw [e]; omega))) (evOb (dqt (by first | omega | (rw [e]; omega))) (evBrT ?_ (evOb (dqt (by omega)) (evEnter (h _ _ _ _ _ _ _)))))))))
  rw [e]; exact (eqB _ _ _ _).trans (dqt he)
 ·intro k off m f h1 hN hm hmk hne h i1 i2 i3 n i4 i5 g
  have e := wm1 (show 0 < k by omega) (by omega)
  refine Ev.of rfl (evBrT (dqt (by omega)) (evOb (dqt (by first | omega | (rw [e]; omega))) (evOb (dqt (by first | omega | (rw [e]; omega))) (evOb (dqt (by first | omega | (rw [e]; omega))) (evOb (dqt (by first | omega | (rw [e]; omega))) (evBrT ?_ (evOb (dqt (by first | omega | (rw [e]; omega))) (evOb (dqt (by first | omega | (rw [e]; omega))) (evOb (dqt (by first | omega | (rw [e]; omega))) (evOb (dqt (by first | omega | (rw [e]; omega))) (evNext ?_)))))))))))
  ·rw [e]; exact ntT ((eqB _ _ _ _).trans (dqf hne))
  ·rw [wp1 (j := k) (by omega), wp1 (j := m) (by omega)]; exact h _ _ _ _ _ _ _
 ·intro k off m f h1 hN hm hmk he h i1 i2 i3 n i4 i5 g
  have e := wm1 (show 0 < k by omega) (by omega)
  refine Ev.of rfl (evBrT (dqt (by omega)) (evOb (dqt (by first | omega | (rw [e]; omega))) (evOb (dqt (by first | omega | (rw [e]; omega))) (evOb (dqt (by first | omega | (rw [e]; omega))) (evOb (dqt (by first | omega | (rw [e]; omega))) (evBrF ?_ (evNext ?_)))))))
  ·rw [e]; exact ntF ((eqB _ _ _ _).trans (dqt he))
  ·rw [wp1 (j := k) (by omega)]; exact h _ _ _ _ _ _ _
 ·intro off m f hoff hm1 hmN hs hm i1 i2 i3 n i4 i5 g
  refine Ev.of rfl (evBrF (dqf (by omega)) (evOb (dqt (by omega)) (evOb (dqt (by omega)) (evOb (dqt (by omega)) (evBr (fun hh => evEnter ?_) (fun hh => evEnter ?_))))))
  ·have := of_decide_eq_true hh
   exact h5 m _ hm1 (by omega) (hs.cong fun k hk => pq_clr hk) (hm.cong fun k hk => pq_clr hk)
  ·have := of_decide_eq_false hh
   exact h12 m _ _ _ _ _ _ _ _ _ _ (by omega) hmN (hs.cong fun k hk => pq_clr hk) (hm.cong fun k hk => pq_clr hk)
theorem pmem {c : List P2} {i : Nat} (h : i < c.length) : pAt c i ∈ c := by
 have := pAt_some h
 exact List.mem_of_getElem? this
theorem sdX {fo : Nat -> List V} {p : P2} {n : Nat} {s : Int} (w1 : i64.wrap ((n : Int) - 1) = ((n - 1 : Nat) : Int)) (w2 : i64.wrap ((n : Int) - 2) = ((n - 2 : Nat) : Int)) (e : F78_0 (pq fo (n - 2)).1 (pq fo (n - 2)).2 (pq fo (n - 1)).1 (pq fo (n - 1)).2 p.1 p.2 = s) :
 decide (F78_0 (jv0 (fo (i64.wrap ((n : Int) - 2)).toNat)) (jv1 (fo (i64.wrap ((n : Int) - 2)).toNat)) (jv0 (fo (i64.wrap ((n : Int) - 1)).toNat)) (jv1 (fo (i64.wrap ((n : Int) - 1)).toNat)) p.1 p.2 <= 0) = decide (s <= 0) := by
 rw [w1, w2, ← e]; rfl
theorem secA (x0 x1 x2 x3 x4 x5 x6 x7 : Int) (b8 : Bool) (x9 x10 x11 x12 : Int) {r : V} {c : List P2} {bl : Nat} {base : List P2} {f : (Nat -> List V)} (hf : ptL 8 f = c) (hsm : ∀ q ∈ c, SmP q) (hb : ∀ q ∈ base, SmP q) (hbl : base.length = bl) (hb8 : bl <= 8)
 (h5 : ∀ n fo cap, n <= cap -> cap <= 100 -> ptL n fo = base ++ (chainS [] c).tail.reverse -> n = base.length + (chainS [] c).tail.length -> Ev (st57 x0 x1 x2 x3 x4 x5 x6 x7 b8 x9 x10 x11 x12) (.L5 0 (n : Int) n (decide (2 < (n : Int))) cap fo) r)
 {cap : Nat} {fo : (Nat -> List V)} (hc : bl <= cap) (hcM : cap <= 50) (hfo : ptL bl fo = base) (i5 : Int) (i6 : Int) (f7 : (Nat -> List V)) (f8 : (Nat -> List V)) (i9 : Int) (f10 : (Nat -> List V)) : Ev (st57 x0 x1 x2 x3 x4 x5 x6 x7 b8 x9 x10 x11 x12) (.L18 (bl : Int) f bl cap fo i5 i6 f7 f8 i9 f10) r := by
 have hcl : c.length = 8 := by rw [← hf, ptL_len]
 have ew := wp1 (j := bl) (by omega)
 have e0 : i64.wrap (0 + 1) = ((1 : Nat) : Int) := by rw [wrapI (by omega) (by omega)]; rfl
 have at' : ∀ (g : (Nat -> List V)), (∀ k, k < 8 -> pq g k = pq f k) -> ∀ i, i < 8 -> pAt c i = pq g i := fun g hg i hi => by rw [hg i hi, ← hf]; exact ptL_pAt hi
 have key := chain_ind (base := base) (c := c) (M := bl + 8) (by omega)
  (PO := fun i n fo => ∀ (g : (Nat -> List V)) (ix : Int) (iy : Int) (i7 : Int) (i8 : Int) (f9 : (Nat -> List V)) (n10 : Nat) (n11 : Nat) (f12 : (Nat -> List V)) (i13 : Int) (f14 : (Nat -> List V)), (∀ k, k < 8 -> pq g k = pq f k) -> Ev (st57 x0 x1 x2 x3 x4 x5 x6 x7 b8 x9 x10 x11 x12) (.L22 (i : Int) (bl : Int) g n ix iy fo i7 i8 f9 n10 n11 f12 i13 f14) r)
  (PI := fun i n cap fo => ∀ (g : (Nat -> List V)) (i7 : Int) (i8 : Int) (f9 : (Nat -> List V)) (n10 : Nat) (n11 : Nat) (f12 : (Nat -> List V)) (i13 : Int) (f14 : (Nat -> List V)), (∀ k, k < 8 -> pq g k = pq f k) -> Ev (st57 x0 x1 x2 x3 x4 x5 x6 x7 b8 x9 x10 x11 x12) (.L23 (i : Int) (bl : Int) g n (pAt c i).1 (pAt c i).2 cap fo i7 i8 f9 n10 n11 f12 i13 f14) r) ?_ ?_ ?_ ?_
 ·-- the first round
  obtain ⟨p, l, ec⟩ : ∃ p l, c = p :: l := by
   cases c with
   | nil => simp at hcl
   | cons p l => exact ⟨p, l, rfl⟩
  have hp : pq f 0 = p := by
   have := at' f (fun _ _ => rfl) 0 (by omega)
   rw [← this, ec]; rfl
  subst hp
  have k1 := key l [pq f 0] [pq f 0] (bl + 1) (joinF bl (elV ty2 fo) fun _ => pv2 (pq f 0)) (by rw [ec]; rfl) (by rw [ec]; rfl) (by rw [ptL_snoc, hfo]; rfl) (Nat.le_refl _) (fun q hq => by rw [ec]; simp at hq; simp [hq])
  have T0 : ∀ (i7 : Int) (i8 : Int) (f9 : (Nat -> List V)) (n10 : Nat) (f11 : (Nat -> List V)) (i12 : Int) (f13 : (Nat -> List V)), Ev (st57 x0 x1 x2 x3 x4 x5 x6 x7 b8 x9 x10 x11 x12) (.L20 (bl : Int) (elV ty2 f) bl cap (elV ty2 fo) (pq f 0).1 (pq f 0).2 i7 i8 f9 n10 f11 i12 f13) r := by
   intro i7 i8 f9 n10 f11 i12 f13
   have hC : decide (i64.wrap ((bl : Int) + 1) < (bl : Int)) = false := dqf (by rw [ew]; omega)
   have hx : ∀ {P : Prop}, decide (i64.wrap ((bl : Int) + 1) < (bl : Int)) = true -> P := fun hh => by rw [hC] at hh; cases hh
   refine Ev.of rfl (inStep hx hx hx fun _ => evObt (evOb (app_ok hc (by omega)) (evNext ?_)))
   rw [e0]
   exact k1 (elV ty2 f) _ _ _ _ _ _ _ _ _ _ (fun k hk => rfl)
  exact Ev.of rfl (evBrt (evObt (evObt (evEnter (T0 _ _ _ _ _ _ _)))))
 ·intro i n fo hi hn h g ix iy i7 i8 f9 n10 n11 f12 i13 f14 hg
  rw [hcl] at hi
  have e := at' g hg i hi
  have h' := h
  rw [e] at h'
  exact Ev.of rfl (evBrT (dqt (by omega)) (evOb (dqt (by omega)) (evOb (dqt (by omega)) (evEnter (h' (elV ty2 g) _ _ _ _ _ _ _ _ (fun k hk => hg k hk))))))
 ·intro i n cap fo hi h1 h2 h3' hel hs h g i7 i8 f9 n10 n11 f12 i13 f14 hg
  have hb2 : bl + 1 < n := by rw [← hbl]; exact h1
  have w1 := wm1 (j := n) (by omega) (by omega)
  have w2 := wm2 (j := n) (by omega) (by omega)
  have sm : ∀ k, k < n -> SmP (pq fo k) := fun k hk => (hel k hk).elim (hb _) (hsm _)
  have e3 := sdT (sm (n - 2) (by omega)) (sm (n - 1) (by omega)) (hsm (pAt c i) (pmem hi))
  have hC : decide (i64.wrap ((bl : Int) + 1) < (n : Int)) = true := dqt (by rw [ew]; omega)
  have hS := sdX (fo := fo) (p := pAt c i) w1 w2 e3
  refine Ev.of rfl (inStep (fun _ => ⟨dqt (by rw [w2]; omega), dqt (by rw [w2]; omega), dqt (by rw [w1]; omega), dqt (by rw [w1]; omega)⟩) (fun _ _ => evOb (dqt (by rw [w1]; omega)) (evNext ?_)) (fun _ hf => by rw [hS, dqt hs] at hf; cases hf) (fun hf => by rw [hC] at hf; cases hf))
  rw [w1]; exact h (elV ty2 g) _ _ _ _ _ _ _ _ (fun k hk => hg k hk)
 ·intro i n cap fo hi h1 hel hs h2 h3' h g i7 i8 f9 n10 n11 f12 i13 f14 hg
  have nx : ∀ (_ : Unit), Ev (st57 x0 x1 x2 x3 x4 x5 x6 x7 b8 x9 x10 x11 x12) (.L22 (i64.wrap ((i : Int) + 1)) (bl : Int) (elV ty2 g) (n + 1) (pAt c i).1 (pAt c i).2 (joinF n (elV ty2 fo) fun _ => pv2 (pAt c i)) i7 i8 f9 n10 n11 f12 i13 f14) r := fun _ => by rw [wp1 (j := i) (by omega)]; exact h (elV ty2 g) _ _ _ _ _ _ _ _ _ _ (fun k hk => hg k hk)
  by_cases hb2 : bl + 1 < n
  ·have w1 := wm1 (j := n) (by omega) (by omega)
   have w2 := wm2 (j := n) (by omega) (by omega)
   have sm : ∀ k, k < n -> SmP (pq fo k) := fun k hk => (hel k hk).elim (hb _) (hsm _)
   have e3 := sdT (sm (n - 2) (by omega)) (sm (n - 1) (by omega)) (hsm (pAt c i) (pmem hi))
   have hC : decide (i64.wrap ((bl : Int) + 1) < (n : Int)) = true := dqt (by rw [ew]; omega)
   have hS := sdX (fo := fo) (p := pAt c i) w1 w2 e3
   have hs' := hs (by first | exact hb2 | (rw [hbl]; exact hb2))
   exact Ev.of rfl (inStep (fun _ => ⟨dqt (by rw [w2]; omega), dqt (by rw [w2]; omega), dqt (by rw [w1]; omega), dqt (by rw [w1]; omega)⟩) (fun _ hf => by rw [hS, dqf (by omega)] at hf; cases hf) (fun _ _ => evObt (evOb (app_ok h2 (by omega)) (evNext (nx ())))) (fun hf => by rw [hC] at hf; cases hf))
  ·have hC : decide (i64.wrap ((bl : Int) + 1) < (n : Int)) = false := dqf (by rw [ew]; omega)
   have hx : ∀ {P : Prop}, decide (i64.wrap ((bl : Int) + 1) < (n : Int)) = true -> P := fun hh => by rw [hC] at hh; cases hh
   exact Ev.of rfl (inStep hx hx hx fun _ => evObt (evOb (app_ok h2 (by omega)) (evNext (nx ()))))
 ·intro n fo hpt g ix iy i7 i8 f9 n10 n11 f12 i13 f14 hg
  rw [hcl]
  obtain ⟨q1, q2, q3, q4⟩ := ptL_last hpt (chainS_ne (.inr (by intro h; rw [h] at hcl; simp at hcl)))
  have w1 := wm1 (j := n) q1 (by have := chainS_len (l := c) (st := []); simp only [List.length_nil] at this; omega)
  have hl := chainS_len (l := c) (st := [])
  simp only [List.length_nil] at hl
  have := h5 (n - 1) (elV ty2 fo) n (by omega) (by omega) q2 (by rw [List.length_tail]; omega)
  refine Ev.of rfl (evBrF (dqf (by omega)) (evOb (dqt (by rw [w1]; omega)) (evEnter ?_)))
  rw [w1]; exact this
theorem fstA (x0 x1 x2 x3 x4 x5 x6 x7 : Int) (b8 : Bool) (x9 x10 x11 x12 : Int) {r : V} {f : (Nat -> List V)} (hS : SSr 8 f) (hsm : ∀ q ∈ ptL 8 f, SmP q)
 (h5 : ∀ n fo cap, n <= cap -> cap <= 100 -> ptL n fo = hullL (ptL 8 f) -> n = (hullL (ptL 8 f)).length -> Ev (st57 x0 x1 x2 x3 x4 x5 x6 x7 b8 x9 x10 x11 x12) (.L5 0 (n : Int) n (decide (2 < (n : Int))) cap fo) r) (ia : Int) (fz : (Nat -> List V)) : Ev (st57 x0 x1 x2 x3 x4 x5 x6 x7 b8 x9 x10 x11 x12) (.L4 0 f 0 (fun _ => []) ia fz) r := by
 generalize hc : ptL 8 f = c at *
 have hcl : c.length = 8 := by rw [← hc, ptL_len]
 have e0 : i64.wrap (0 + 1) = ((1 : Nat) : Int) := by rw [wrapI (by omega) (by omega)]; rfl
 have at' : ∀ (g : (Nat -> List V)), (∀ k, k < 8 -> pq g k = pq f k) -> ∀ i, i < 8 -> pAt c i = pq g i := fun g hg i hi => by rw [hg i hi, ← hc]; exact ptL_pAt hi
 have hlA := chainS_len (l := c) (st := [])
 simp only [List.length_nil] at hlA
 have key := chain_ind (base := []) (c := c) (M := 8) (by simp; omega)
  (PO := fun i n fo => ∀ (g : (Nat -> List V)) (ia : Int) (fz : (Nat -> List V)), (∀ k, k < 8 -> pq g k = pq f k) -> Ev (st57 x0 x1 x2 x3 x4 x5 x6 x7 b8 x9 x10 x11 x12) (.L4 (i : Int) g n fo ia fz) r)
  (PI := fun i n cap fo => ∀ (g : (Nat -> List V)) (ia : Int) (fz : (Nat -> List V)), (∀ k, k < 8 -> pq g k = pq f k) -> Ev (st57 x0 x1 x2 x3 x4 x5 x6 x7 b8 x9 x10 x11 x12) (.L7 (i : Int) g n (pAt c i).1 (pAt c i).2 cap fo ia fz) r) ?_ ?_ ?_ ?_
 ·exact key c [] [] 0 (fun _ => []) rfl rfl rfl (Nat.le_refl _) (fun q hq => by cases hq) f ia fz (fun _ _ => rfl)
 ·intro i n fo hi hn h g ia fz hg
  rw [hcl] at hi
  have e := at' g hg i hi
  have h' := h
  rw [e] at h'
  exact Ev.of rfl (evBrT (dqt (by omega)) (evOb (dqt (by omega)) (evOb (dqt (by omega)) (evEnter (h' (elV ty2 g) _ _ (fun k hk => hg k hk))))))
 ·intro i n cap fo hi h1 h2 h3' hel hs h g ia fz hg
  have hb2 : 0 + 1 < n := by simpa using h1
  have w1 := wm1 (j := n) (by omega) (by omega)
  have w2 := wm2 (j := n) (by omega) (by omega)
  have sm : ∀ k, k < n -> SmP (pq fo k) := fun k hk => (hel k hk).elim (fun h => by cases h) (hsm _)
  have e3 := sdT (sm (n - 2) (by omega)) (sm (n - 1) (by omega)) (hsm (pAt c i) (pmem hi))
  have hC : decide (i64.wrap (0 + 1) < (n : Int)) = true := dqt (by rw [e0]; omega)
  have hS := sdX (fo := fo) (p := pAt c i) w1 w2 e3
  refine Ev.of rfl (inStep (fun _ => ⟨dqt (by rw [w2]; omega), dqt (by rw [w2]; omega), dqt (by rw [w1]; omega), dqt (by rw [w1]; omega)⟩) (fun _ _ => evOb (dqt (by rw [w1]; omega)) (evNext ?_)) (fun _ hf => by rw [hS, dqt hs] at hf; cases hf) (fun hf => by rw [hC] at hf; cases hf))
  rw [w1]; exact h (elV ty2 g) _ _ (fun k hk => hg k hk)
 ·intro i n cap fo hi h1 hel hs h2 h3' h g ia fz hg
  have nx : ∀ (_ : Unit), Ev (st57 x0 x1 x2 x3 x4 x5 x6 x7 b8 x9 x10 x11 x12) (.L4 (i64.wrap ((i : Int) + 1)) (elV ty2 g) (n + 1) (joinF n (elV ty2 fo) fun _ => pv2 (pAt c i)) ia fz) r := fun _ => by rw [wp1 (j := i) (by omega)]; exact h (elV ty2 g) _ _ (fun k hk => hg k hk)
  by_cases hb2 : 0 + 1 < n
  ·have w1 := wm1 (j := n) (by omega) (by omega)
   have w2 := wm2 (j := n) (by omega) (by omega)
   have sm : ∀ k, k < n -> SmP (pq fo k) := fun k hk => (hel k hk).elim (fun h => by cases h) (hsm _)
   have e3 := sdT (sm (n - 2) (by omega)) (sm (n - 1) (by omega)) (hsm (pAt c i) (pmem hi))
   have hC : decide (i64.wrap (0 + 1) < (n : Int)) = true := dqt (by rw [e0]; omega)
   have hS := sdX (fo := fo) (p := pAt c i) w1 w2 e3
   have hs' := hs (by simpa using hb2)
   exact Ev.of rfl (inStep (fun _ => ⟨dqt (by rw [w2]; omega), dqt (by rw [w2]; omega), dqt (by rw [w1]; omega), dqt (by rw [w1]; omega)⟩) (fun _ hf => by rw [hS, dqf (by omega)] at hf; cases hf) (fun _ _ => evObt (evOb (app_ok h2 (by omega)) (evNext (nx ())))) (fun hf => by rw [hC] at hf; cases hf))
  ·have hC : decide (i64.wrap (0 + 1) < (n : Int)) = false := dqf (by rw [e0]; omega)
   have hx : ∀ {P : Prop}, decide (i64.wrap (0 + 1) < (n : Int)) = true -> P := fun hh => by rw [hC] at hh; cases hh
   exact Ev.of rfl (inStep hx hx hx fun _ => evObt (evOb (app_ok h2 (by omega)) (evNext (nx ()))))
 ·intro n fo hpt g ia fz hg
  rw [hcl]
  obtain ⟨q1, q2, q3, q4⟩ := ptL_last hpt (chainS_ne (.inr (by intro h; rw [h] at hcl; simp at hcl)))
  simp only [List.length_nil, Nat.zero_add, List.nil_append] at q2 q3
  have w1 := wm1 (j := n) q1 (by omega)
  have wN : i64.wrap ((8 : Int) - 1) = ((8 - 1 : Nat) : Int) := by rw [wrapI (by omega) (by omega)]; rfl
  refine Ev.of rfl (evBrF (dqf (by omega)) (evOb (dqt (by rw [w1]; omega)) (evEnter ?_)))
  rw [w1, wN]
  have rev := rev_ind (N := 8) (g := pq f) (P := fun i j f2 => ∀ (fo2 : (Nat -> List V)) (ia : Int) (fz : (Nat -> List V)), (∀ k, pq fo2 k = pq fo k) -> Ev (st57 x0 x1 x2 x3 x4 x5 x6 x7 b8 x9 x10 x11 x12) (.L13 (j : Int) (i : Int) f2 (n - 1) n fo2 ia fz) r) ?_ ?_
  ·exact rev 8 0 (8 - 1) (elV ty2 g) (by omega) (by omega) (fun k hk => by rw [if_neg (by omega)]; exact hg k hk) (elV ty2 fo) _ _ (fun _ => rfl)
  ·intro i j f2 hij hj h fo2 ia fz hfo2
   have v1 := wm1 (j := j) (by omega) (by omega)
   have v2 := wp1 (j := i) (by omega)
   refine Ev.of rfl (evBrT (dqt (by omega)) (evOb (dqt (by omega)) (evOb (dqt (by omega)) (evOb (dqt (by omega)) (evOb (dqt (by omega)) (evOb (dqt (by omega)) (evOb (dqt (by omega)) (evOb (dqt (by omega)) (evOb (dqt (by omega)) (evNext ?_))))))))))
   rw [v1, v2]; exact h (elV ty2 fo2) _ _ (fun k => hfo2 k)
  ·intro i j f2 hij hf2 fo2 ia fz hfo2
   have hb : ptL (n - 1) fo2 = (chainS [] c).tail.reverse := by rw [ptL_cong fun k _ => hfo2 k]; exact q2
   have hrv : ptL 8 f2 = c.reverse := by rw [← hc]; exact ptL_rev hf2
   have hlt : (chainS [] c).tail.reverse.length = n - 1 := by rw [List.length_reverse, List.length_tail, ← q3]
   have hu : hullL c = (chainS [] c).tail.reverse ++ (chainS [] c.reverse).tail.reverse := hullL_eq (by omega)
   have hbs : ∀ q ∈ (chainS [] c).tail.reverse, SmP q := fun q hq => by
    rcases chainS_sub (List.mem_of_mem_tail (List.mem_reverse.1 hq)) with h | h
    ·cases h
    ·exact hsm q h
   have fin := secA x0 x1 x2 x3 x4 x5 x6 x7 b8 x9 x10 x11 x12  (r := r) (c := c.reverse) (base := (chainS [] c).tail.reverse) (f := elV ty2 f2) hrv (fun q hq => hsm q (List.mem_reverse.1 hq)) hbs hlt (by omega) (fun n fo cap k1 k2 k3 k4 => h5 n fo cap k1 k2 (by rw [hu]; exact k3) (by rw [hu, List.length_append, k4]; congr 1; exact (List.length_reverse ..).symm)) (cap := n) (fo := elV ty2 fo2) (by omega) (by omega) hb
   exact Ev.of rfl (evBrF (dqf (by omega)) (evEnter (fin _ _ _ _ _ _)))
theorem secB (x0 x1 x2 x3 x4 x5 x6 x7 : Int) (b8 : Bool) (x9 x10 x11 x12 : Int) {r : V} {N : Nat} {c : List P2} {bl : Nat} {base : List P2} {f : (Nat -> List V)} (h3 : 3 <= N) (h8 : N <= 8) (hf : ptL N f = c) (hsm : ∀ q ∈ c, SmP q) (hb : ∀ q ∈ base, SmP q) (hbl : base.length = bl) (hb8 : bl <= 8)
 (h5 : ∀ n fo cap, n <= cap -> cap <= 100 -> ptL n fo = base ++ (chainS [] c).tail.reverse -> n = base.length + (chainS [] c).tail.length -> Ev (st57 x0 x1 x2 x3 x4 x5 x6 x7 b8 x9 x10 x11 x12) (.L5 0 (n : Int) n (decide (2 < (n : Int))) cap fo) r)
 {cap : Nat} {fo : (Nat -> List V)} (hc : bl <= cap) (hcM : cap <= 50) (hfo : ptL bl fo = base) (i7 : Int) (i8 : Int) (i9 : Int) (n10 : Nat) (f11 : (Nat -> List V)) (f12 : (Nat -> List V)) (i13 : Int) (n14 : Nat) (n15 : Nat) (i16 : Int) (i17 : Int) (i18 : Int) (n19 : Nat) (i20 : Int) (i21 : Int) (f22 : (Nat -> List V)) : Ev (st57 x0 x1 x2 x3 x4 x5 x6 x7 b8 x9 x10 x11 x12) (.L24 (N : Int) N (bl : Int) f bl cap fo i7 i8 i9 n10 f11 f12 i13 n14 n15 i16 i17 i18 n19 i20 i21 f22) r := by
 have hcl : c.length = N := by rw [← hf, ptL_len]
 have ew := wp1 (j := bl) (by omega)
 have e0 : i64.wrap (0 + 1) = ((1 : Nat) : Int) := by rw [wrapI (by omega) (by omega)]; rfl
 have at' : ∀ (g : (Nat -> List V)), (∀ k, k < N -> pq g k = pq f k) -> ∀ i, i < N -> pAt c i = pq g i := fun g hg i hi => by rw [hg i hi, ← hf]; exact ptL_pAt hi
 have key := chain_ind (base := base) (c := c) (M := bl + 8) (by omega)
  (PO := fun i n fo => ∀ (g : (Nat -> List V)) (ix : Int) (iy : Int) (i09 : Int) (i10 : Int) (i11 : Int) (n12 : Nat) (f13 : (Nat -> List V)) (n14 : Nat) (n15 : Nat) (f16 : (Nat -> List V)) (i17 : Int) (n18 : Nat) (n19 : Nat) (i20 : Int) (i21 : Int) (i22 : Int) (n23 : Nat) (i24 : Int) (i25 : Int) (f26 : (Nat -> List V)), (∀ k, k < N -> pq g k = pq f k) -> Ev (st57 x0 x1 x2 x3 x4 x5 x6 x7 b8 x9 x10 x11 x12) (.L26 (i : Int) (N : Int) N (bl : Int) g n ix iy fo i09 i10 i11 n12 f13 n14 n15 f16 i17 n18 n19 i20 i21 i22 n23 i24 i25 f26) r)
  (PI := fun i n cap fo => ∀ (g : (Nat -> List V)) (i09 : Int) (i10 : Int) (i11 : Int) (n12 : Nat) (f13 : (Nat -> List V)) (n14 : Nat) (n15 : Nat) (f16 : (Nat -> List V)) (i17 : Int) (n18 : Nat) (n19 : Nat) (i20 : Int) (i21 : Int) (i22 : Int) (n23 : Nat) (i24 : Int) (i25 : Int) (f26 : (Nat -> List V)), (∀ k, k < N -> pq g k = pq f k) -> Ev (st57 x0 x1 x2 x3 x4 x5 x6 x7 b8 x9 x10 x11 x12) (.L27 (i : Int) (N : Int) N (bl : Int) g n (pAt c i).1 (pAt c i).2 cap fo i09 i10 i11 n12 f13 n14 n15 f16 i17 n18 n19 i20 i21 i22 n23 i24 i25 f26) r) ?_ ?_ ?_ ?_
 ·-- the first round
  obtain ⟨p, l, ec⟩ : ∃ p l, c = p :: l := by
   cases c with
   | nil => simp at hcl; omega
   | cons p l => exact ⟨p, l, rfl⟩
  have hp : pq f 0 = p := by
   have := at' f (fun _ _ => rfl) 0 (by omega)
   rw [← this, ec]; rfl
  subst hp
  have k1 := key l [pq f 0] [pq f 0] (bl + 1) (joinF bl (elV ty2 fo) fun _ => pv2 (pq f 0)) (by rw [ec]; rfl) (by rw [ec]; rfl) (by rw [ptL_snoc, hfo]; rfl) (Nat.le_refl _) (fun q hq => by rw [ec]; simp at hq; simp [hq])
  have T0 : ∀ (i09 : Int) (i10 : Int) (i11 : Int) (n12 : Nat) (f13 : (Nat -> List V)) (n14 : Nat) (f15 : (Nat -> List V)) (i16 : Int) (n17 : Nat) (n18 : Nat) (i19 : Int) (i20 : Int) (i21 : Int) (n22 : Nat) (i23 : Int) (i24 : Int) (f25 : (Nat -> List V)), Ev (st57 x0 x1 x2 x3 x4 x5 x6 x7 b8 x9 x10 x11 x12) (.L25 (N : Int) N (bl : Int) (elV ty2 f) bl cap (elV ty2 fo) (pq f 0).1 (pq f 0).2 i09 i10 i11 n12 f13 n14 f15 i16 n17 n18 i19 i20 i21 n22 i23 i24 f25) r := by
   intro i09 i10 i11 n12 f13 n14 f15 i16 n17 n18 i19 i20 i21 n22 i23 i24 f25
   have hC : decide (i64.wrap ((bl : Int) + 1) < (bl : Int)) = false := dqf (by rw [ew]; omega)
   have hx : ∀ {P : Prop}, decide (i64.wrap ((bl : Int) + 1) < (bl : Int)) = true -> P := fun hh => by rw [hC] at hh; cases hh
   refine Ev.of rfl (inStep hx hx hx fun _ => evObt (evOb (app_ok hc (by omega)) (evNext ?_)))
   rw [e0]
   exact k1 (elV ty2 f) _ _ _ _ _ _ _ _ _ _ _ _ _ _ _ _ _ _ _ _ (fun k hk => rfl)
  exact Ev.of rfl (evBrT (dqt (by omega)) (evOb (dqt (by omega)) (evObt (evEnter (T0 _ _ _ _ _ _ _ _ _ _ _ _ _ _ _ _ _)))))
 ·intro i n fo hi hn h g ix iy i09 i10 i11 n12 f13 n14 n15 f16 i17 n18 n19 i20 i21 i22 n23 i24 i25 f26 hg
  rw [hcl] at hi
  have e := at' g hg i hi
  have h' := h
  rw [e] at h'
  exact Ev.of rfl (evBrT (dqt (by omega)) (evOb (dqt (by omega)) (evOb (dqt (by omega)) (evEnter (h' (elV ty2 g) _ _ _ _ _ _ _ _ _ _ _ _ _ _ _ _ _ _ (fun k hk => hg k hk))))))
 ·intro i n cap fo hi h1 h2 h3' hel hs h g i09 i10 i11 n12 f13 n14 n15 f16 i17 n18 n19 i20 i21 i22 n23 i24 i25 f26 hg
  have hb2 : bl + 1 < n := by rw [← hbl]; exact h1
  have w1 := wm1 (j := n) (by omega) (by omega)
  have w2 := wm2 (j := n) (by omega) (by omega)
  have sm : ∀ k, k < n -> SmP (pq fo k) := fun k hk => (hel k hk).elim (hb _) (hsm _)
  have e3 := sdT (sm (n - 2) (by omega)) (sm (n - 1) (by omega)) (hsm (pAt c i) (pmem hi))
  have hC : decide (i64.wrap ((bl : Int) + 1) < (n : Int)) = true := dqt (by rw [ew]; omega)
  have hS := sdX (fo := fo) (p := pAt c i) w1 w2 e3
  refine Ev.of rfl (inStep (fun _ => ⟨dqt (by rw [w2]; omega), dqt (by rw [w2]; omega), dqt (by rw [w1]; omega), dqt (by rw [w1]; omega)⟩) (fun _ _ => evOb (dqt (by rw [w1]; omega)) (evNext ?_)) (fun _ hf => by rw [hS, dqt hs] at hf; cases hf) (fun hf => by rw [hC] at hf; cases hf))
  rw [w1]; exact h (elV ty2 g) _ _ _ _ _ _ _ _ _ _ _ _ _ _ _ _ _ _ (fun k hk => hg k hk)
 ·intro i n cap fo hi h1 hel hs h2 h3' h g i09 i10 i11 n12 f13 n14 n15 f16 i17 n18 n19 i20 i21 i22 n23 i24 i25 f26 hg
  have nx : ∀ (_ : Unit), Ev (st57 x0 x1 x2 x3 x4 x5 x6 x7 b8 x9 x10 x11 x12) (.L26 (i64.wrap ((i : Int) + 1)) (N : Int) N (bl : Int) (elV ty2 g) (n + 1) (pAt c i).1 (pAt c i).2 (joinF n (elV ty2 fo) fun _ => pv2 (pAt c i)) i09 i10 i11 n12 f13 n14 n15 f16 i17 n18 n19 i20 i21 i22 n23 i24 i25 f26) r := fun _ => by rw [wp1 (j := i) (by omega)]; exact h (elV ty2 g) _ _ _ _ _ _ _ _ _ _ _ _ _ _ _ _ _ _ _ _ (fun k hk => hg k hk)
  by_cases hb2 : bl + 1 < n
  ·have w1 := wm1 (j := n) (by omega) (by omega)
   have w2 := wm2 (j := n) (by omega) (by omega)
   have sm : ∀ k, k < n -> SmP (pq fo k) := fun k hk => (hel k hk).elim (hb _) (hsm _)
   have e3 := sdT (sm (n - 2) (by omega)) (sm (n - 1) (by omega)) (hsm (pAt c i) (pmem hi))
   have hC : decide (i64.wrap ((bl : Int) + 1) < (n : Int)) = true := dqt (by rw [ew]; omega)
   have hS := sdX (fo := fo) (p := pAt c i) w1 w2 e3
   have hs' := hs (by first | exact hb2 | (rw [hbl]; exact hb2))
   exact Ev.of rfl (inStep (fun _ => ⟨dqt (by rw [w2]; omega), dqt (by rw [w2]; omega), dqt (by rw [w1]; omega), dqt (by rw [w1]; omega)⟩) (fun _ hf => by rw [hS, dqf (by omega)] at hf; cases hf) (fun _ _ => evObt (evOb (app_ok h2 (by omega)) (evNext (nx ())))) (fun hf => by rw [hC] at hf; cases hf))
  ·have hC : decide (i64.wrap ((bl : Int) + 1) < (n : Int)) = false := dqf (by rw [ew]; omega)
   have hx : ∀ {P : Prop}, decide (i64.wrap ((bl : Int) + 1) < (n : Int)) = true -> P := fun hh => by rw [hC] at hh; cases hh
   exact Ev.of rfl (inStep hx hx hx fun _ => evObt (evOb (app_ok h2 (by omega)) (evNext (nx ()))))
 ·intro n fo hpt g ix iy i09 i10 i11 n12 f13 n14 n15 f16 i17 n18 n19 i20 i21 i22 n23 i24 i25 f26 hg
  rw [hcl]
  obtain ⟨q1, q2, q3, q4⟩ := ptL_last hpt (chainS_ne (.inr (by intro h; rw [h] at hcl; simp at hcl; omega)))
  have w1 := wm1 (j := n) q1 (by have := chainS_len (l := c) (st := []); simp only [List.length_nil] at this; omega)
  have hl := chainS_len (l := c) (st := [])
  simp only [List.length_nil] at hl
  have := h5 (n - 1) (elV ty2 fo) n (by omega) (by omega) q2 (by rw [List.length_tail]; omega)
  refine Ev.of rfl (evBrF (dqf (by omega)) (evOb (dqt (by rw [w1]; omega)) (evEnter ?_)))
  rw [w1]; exact this
theorem fstB (x0 x1 x2 x3 x4 x5 x6 x7 : Int) (b8 : Bool) (x9 x10 x11 x12 : Int) {r : V} {N : Nat} {f : (Nat -> List V)} (h3 : 3 <= N) (h8 : N <= 8) (hS : SSr N f) (hsm : ∀ q ∈ ptL N f, SmP q)
 (h5 : ∀ n fo cap, n <= cap -> cap <= 100 -> ptL n fo = hullL (ptL N f) -> n = (hullL (ptL N f)).length -> Ev (st57 x0 x1 x2 x3 x4 x5 x6 x7 b8 x9 x10 x11 x12) (.L5 0 (n : Int) n (decide (2 < (n : Int))) cap fo) r) (ia : Int) (na : Nat) (nb : Nat) (ib : Int) (ic : Int) (id : Int) (nc : Nat) (ie : Int) (fz : (Nat -> List V)) : Ev (st57 x0 x1 x2 x3 x4 x5 x6 x7 b8 x9 x10 x11 x12) (.L12 0 (N : Int) N f 0 (fun _ => []) ia na nb ib ic id nc ie (N : Int) fz) r := by
 generalize hc : ptL N f = c at *
 have hcl : c.length = N := by rw [← hc, ptL_len]
 have e0 : i64.wrap (0 + 1) = ((1 : Nat) : Int) := by rw [wrapI (by omega) (by omega)]; rfl
 have at' : ∀ (g : (Nat -> List V)), (∀ k, k < N -> pq g k = pq f k) -> ∀ i, i < N -> pAt c i = pq g i := fun g hg i hi => by rw [hg i hi, ← hc]; exact ptL_pAt hi
 have hlA := chainS_len (l := c) (st := [])
 simp only [List.length_nil] at hlA
 have key := chain_ind (base := []) (c := c) (M := 8) (by simp; omega)
  (PO := fun i n fo => ∀ (g : (Nat -> List V)) (ia : Int) (na : Nat) (nb : Nat) (ib : Int) (ic : Int) (id : Int) (nc : Nat) (ie : Int) (fz : (Nat -> List V)), (∀ k, k < N -> pq g k = pq f k) -> Ev (st57 x0 x1 x2 x3 x4 x5 x6 x7 b8 x9 x10 x11 x12) (.L12 (i : Int) (N : Int) N g n fo ia na nb ib ic id nc ie (N : Int) fz) r)
  (PI := fun i n cap fo => ∀ (g : (Nat -> List V)) (ia : Int) (na : Nat) (nb : Nat) (ib : Int) (ic : Int) (id : Int) (nc : Nat) (ie : Int) (fz : (Nat -> List V)), (∀ k, k < N -> pq g k = pq f k) -> Ev (st57 x0 x1 x2 x3 x4 x5 x6 x7 b8 x9 x10 x11 x12) (.L14 (i : Int) (N : Int) N g n (pAt c i).1 (pAt c i).2 cap fo ia na nb ib ic id nc ie (N : Int) fz) r) ?_ ?_ ?_ ?_
 ·exact key c [] [] 0 (fun _ => []) rfl rfl rfl (Nat.le_refl _) (fun q hq => by cases hq) f ia na nb ib ic id nc ie fz (fun _ _ => rfl)
 ·intro i n fo hi hn h g ia na nb ib ic id nc ie fz hg
  rw [hcl] at hi
  have e := at' g hg i hi
  have h' := h
  rw [e] at h'
  exact Ev.of rfl (evBrT (dqt (by omega)) (evOb (dqt (by omega)) (evOb (dqt (by omega)) (evEnter (h' (elV ty2 g) _ _ _ _ _ _ _ _ _ (fun k hk => hg k hk))))))
 ·intro i n cap fo hi h1 h2 h3' hel hs h g ia na nb ib ic id nc ie fz hg
  have hb2 : 0 + 1 < n := by simpa using h1
  have w1 := wm1 (j := n) (by omega) (by omega)
  have w2 := wm2 (j := n) (by omega) (by omega)
  have sm : ∀ k, k < n -> SmP (pq fo k) := fun k hk => (hel k hk).elim (fun h => by cases h) (hsm _)
  have e3 := sdT (sm (n - 2) (by omega)) (sm (n - 1) (by omega)) (hsm (pAt c i) (pmem hi))
  have hC : decide (i64.wrap (0 + 1) < (n : Int)) = true := dqt (by rw [e0]; omega)
  have hS := sdX (fo := fo) (p := pAt c i) w1 w2 e3
  refine Ev.of rfl (inStep (fun _ => ⟨dqt (by rw [w2]; omega), dqt (by rw [w2]; omega), dqt (by rw [w1]; omega), dqt (by rw [w1]; omega)⟩) (fun _ _ => evOb (dqt (by rw [w1]; omega)) (evNext ?_)) (fun _ hf => by rw [hS, dqt hs] at hf; cases hf) (fun hf => by rw [hC] at hf; cases hf))
  rw [w1]; exact h (elV ty2 g) _ _ _ _ _ _ _ _ _ (fun k hk => hg k hk)
 ·intro i n cap fo hi h1 hel hs h2 h3' h g ia na nb ib ic id nc ie fz hg
  have nx : ∀ (_ : Unit), Ev (st57 x0 x1 x2 x3 x4 x5 x6 x7 b8 x9 x10 x11 x12) (.L12 (i64.wrap ((i : Int) + 1)) (N : Int) N (elV ty2 g) (n + 1) (joinF n (elV ty2 fo) fun _ => pv2 (pAt c i)) ia na nb ib ic id nc ie (N : Int) fz) r := fun _ => by rw [wp1 (j := i) (by omega)]; exact h (elV ty2 g) _ _ _ _ _ _ _ _ _ (fun k hk => hg k hk)
  by_cases hb2 : 0 + 1 < n
  ·have w1 := wm1 (j := n) (by omega) (by omega)
   have w2 := wm2 (j := n) (by omega) (by omega)
   have sm : ∀ k, k < n -> SmP (pq fo k) := fun k hk => (hel k hk).elim (fun h => by cases h) (hsm _)
   have e3 := sdT (sm (n - 2) (by omega)) (sm (n - 1) (by omega)) (hsm (pAt c i) (pmem hi))
   have hC : decide (i64.wrap (0 + 1) < (n : Int)) = true := dqt (by rw [e0]; omega)
   have hS := sdX (fo := fo) (p := pAt c i) w1 w2 e3
   have hs' := hs (by simpa using hb2)
   exact Ev.of rfl (inStep (fun _ => ⟨dqt (by rw [w2]; omega), dqt (by rw [w2]; omega), dqt (by rw [w1]; omega), dqt (by rw [w1]; omega)⟩) (fun _ hf => by rw [hS, dqf (by omega)] at hf; cases hf) (fun _ _ => evObt (evOb (app_ok h2 (by omega)) (evNext (nx ())))) (fun hf => by rw [hC] at hf; cases hf))
  ·have hC : decide (i64.wrap (0 + 1) < (n : Int)) = false := dqf (by rw [e0]; omega)
   have hx : ∀ {P : Prop}, decide (i64.wrap (0 + 1) < (n : Int)) = true -> P := fun hh => by rw [hC] at hh; cases hh
   exact Ev.of rfl (inStep hx hx hx fun _ => evObt (evOb (app_ok h2 (by omega)) (evNext (nx ()))))
 ·intro n fo hpt g ia na nb ib ic id nc ie fz hg
  rw [hcl]
  obtain ⟨q1, q2, q3, q4⟩ := ptL_last hpt (chainS_ne (.inr (by intro h; rw [h] at hcl; simp at hcl; omega)))
  simp only [List.length_nil, Nat.zero_add, List.nil_append] at q2 q3
  have w1 := wm1 (j := n) q1 (by omega)
  have wN : i64.wrap ((((N : Int)).toNat : Int) - 1) = ((N - 1 : Nat) : Int) := by exact wm1 (by omega) (by omega)
  refine Ev.of rfl (evBrF (dqf (by omega)) (evOb (dqt (by rw [w1]; omega)) (evEnter ?_)))
  rw [w1, wN]
  have rev := rev_ind (N := N) (g := pq f) (P := fun i j f2 => ∀ (fo2 : (Nat -> List V)) (ia : Int) (na : Nat) (nb : Nat) (ib : Int) (ic : Int) (id : Int) (nc : Nat) (ie : Int) (fz : (Nat -> List V)), (∀ k, pq fo2 k = pq fo k) -> Ev (st57 x0 x1 x2 x3 x4 x5 x6 x7 b8 x9 x10 x11 x12) (.L15 (j : Int) (i : Int) (N : Int) N f2 (n - 1) n fo2 ia na nb ib ic id nc ie (N : Int) fz) r) ?_ ?_
  ·exact rev N 0 (N - 1) (elV ty2 g) (by omega) (by omega) (fun k hk => by rw [if_neg (by omega)]; exact hg k hk) (elV ty2 fo) _ _ _ _ _ _ _ _ _ (fun _ => rfl)
  ·intro i j f2 hij hj h fo2 ia na nb ib ic id nc ie fz hfo2
   have v1 := wm1 (j := j) (by omega) (by omega)
   have v2 := wp1 (j := i) (by omega)
   refine Ev.of rfl (evBrT (dqt (by omega)) (evOb (dqt (by omega)) (evOb (dqt (by omega)) (evOb (dqt (by omega)) (evOb (dqt (by omega)) (evOb (dqt (by omega)) (evOb (dqt (by omega)) (evOb (dqt (by omega)) (evOb (dqt (by omega)) (evNext ?_))))))))))
   rw [v1, v2]; exact h (elV ty2 fo2) _ _ _ _ _ _ _ _ _ (fun k => hfo2 k)
  ·intro i j f2 hij hf2 fo2 ia na nb ib ic id nc ie fz hfo2
   have hb : ptL (n - 1) fo2 = (chainS [] c).tail.reverse := by rw [ptL_cong fun k _ => hfo2 k]; exact q2
   have hrv : ptL N f2 = c.reverse := by rw [← hc]; exact ptL_rev hf2
   have hlt : (chainS [] c).tail.reverse.length = n - 1 := by rw [List.length_reverse, List.length_tail, ← q3]
   have hu : hullL c = (chainS [] c).tail.reverse ++ (chainS [] c.reverse).tail.reverse := hullL_eq (by omega)
   have hbs : ∀ q ∈ (chainS [] c).tail.reverse, SmP q := fun q hq => by
    rcases chainS_sub (List.mem_of_mem_tail (List.mem_reverse.1 hq)) with h | h
    ·cases h
    ·exact hsm q h
   have fin := secB x0 x1 x2 x3 x4 x5 x6 x7 b8 x9 x10 x11 x12 h3 h8 (r := r) (c := c.reverse) (base := (chainS [] c).tail.reverse) (f := elV ty2 f2) hrv (fun q hq => hsm q (List.mem_reverse.1 hq)) hbs hlt (by omega) (fun n fo cap k1 k2 k3 k4 => h5 n fo cap k1 k2 (by rw [hu]; exact k3) (by rw [hu, List.length_append, k4]; congr 1; exact (List.length_reverse ..).symm)) (cap := n) (fo := elV ty2 fo2) (by omega) (by omega) hb
   exact Ev.of rfl (evBrF (dqf (by omega)) (evEnter (fin _ _ _ _ _ _ _ _ _ _ _ _ _ _ _ _)))
theorem end57 (x0 x1 x2 x3 x4 x5 x6 x7 : Int) (b8 : Bool) (x9 x10 x11 x12 : Int) (hm : SmP (x5, x6)) (h7 : 0 <= x7) (h8 : x7 <= 1073741824) {L : List P2} (hL : ∀ q ∈ L, SmP q) {m : Nat} {f : (Nat -> List V)} (h1 : 1 <= m) (hs : SSr m f) (hf : MemN m (fun q => q ∈ L) f) {n cap : Nat} {fo : (Nat -> List V)} (k1 : n <= cap) (k2 : cap <= 100) (k3 : ptL n fo = hullL (ptL m f)) (k4 : n = (hullL (ptL m f)).length) :
 Ev (st57 x0 x1 x2 x3 x4 x5 x6 x7 b8 x9 x10 x11 x12) (.L5 0 (n : Int) n (decide (2 < (n : Int))) cap fo) (.bool (refB L (x5, x6) x7)) := by
 have hmem : ∀ q, q ∈ L ↔ q ∈ ptL m f := fun q => (hf q).trans ptL_mem.symm
 have hne : ptL m f ≠ [] := fun h => by have := ptL_len m f; rw [h] at this; simp at this; omega
 have := fin57 x0 x1 x2 x3 x4 x5 x6 x7 b8 x9 x10 x11 x12 hm h7 h8 k1 k2 (by have := hullL_pos (ptL_pw hs) hne; omega) (fun k hk => hL _ ((hmem _).2 (hullL_sub (by rw [← k3]; exact ptL_mem.2 ⟨k, hk, rfl⟩))))
 rw [k3, tp_refB (ptL_pw hs) hne hmem h7] at this
 exact this
theorem all57 (x0 x1 x2 x3 x4 x5 x6 x7 : Int) (b8 : Bool) (x9 x10 x11 x12 : Int) (hb : b8 = false) (hin : In57 x0 x1 x2 x3 x4 x5 x6 x7 x9 x10 x11 x12) {f : (Nat -> List V)} (hf : ptL 8 f = pl57 x0 x1 x2 x3 x4 x9 x10 x11 x12) : Ev (st57 x0 x1 x2 x3 x4 x5 x6 x7 b8 x9 x10 x11 x12) (.L0 1 f) (.bool (F57 x0 x1 x2 x3 x4 x5 x6 x7 b8 x9 x10 x11 x12)) := by
 have hF : F57 x0 x1 x2 x3 x4 x5 x6 x7 b8 x9 x10 x11 x12 = refB (pl57 x0 x1 x2 x3 x4 x9 x10 x11 x12) (x5, x6) x7 := by unfold F57; rw [hb]; rfl
 rw [hF]
 have hL := pl57_sm hin
 have hm : SmP (x5, x6) := ⟨hin.2.2.2.2.2.1, hin.2.2.2.2.2.2.1⟩
 have h7 := hin.2.2.2.2.2.2.2.1
 have sml : ∀ {m : Nat} {f : (Nat -> List V)}, MemN m (fun q => q ∈ pl57 x0 x1 x2 x3 x4 x9 x10 x11 x12) f -> ∀ q ∈ ptL m f, SmP q := fun hm q hq => hL q ((hm q).2 (ptL_mem.1 hq))
 refine srt57 x0 x1 x2 x3 x4 x5 x6 x7 b8 x9 x10 x11 x12 (D := fun q => q ∈ pl57 x0 x1 x2 x3 x4 x9 x10 x11 x12) hL (fun f j g hs hmm => cmp57 x0 x1 x2 x3 x4 x5 x6 x7 b8 x9 x10 x11 x12 ?_ ?_ ?_ j g hs hmm) (fun q => by rw [← hf]; exact ptL_mem)
 ·exact fun f j g hs hmm => fstA x0 x1 x2 x3 x4 x5 x6 x7 b8 x9 x10 x11 x12 hs (sml hmm) (fun n fo cap k1 k2 k3 k4 => end57 x0 x1 x2 x3 x4 x5 x6 x7 b8 x9 x10 x11 x12 hm h7.1 h7.2 hL (by omega) hs hmm k1 k2 k3 k4) j g
 ·exact fun m f h1 h3 hs hmm => end57 x0 x1 x2 x3 x4 x5 x6 x7 b8 x9 x10 x11 x12 hm h7.1 h7.2 hL h1 hs hmm (n := m) (by omega) (by omega) (hull2 (by rw [ptL_len]; exact h3)).symm (by rw [hull2 (by rw [ptL_len]; exact h3), ptL_len])
 ·exact fun m f i n1 n2 i1 i2 i3 n3 i4 g h3 h8 hs hmm => fstB x0 x1 x2 x3 x4 x5 x6 x7 b8 x9 x10 x11 x12 h3 (by omega) hs (sml hmm) (fun n fo cap k1 k2 k3 k4 => end57 x0 x1 x2 x3 x4 x5 x6 x7 b8 x9 x10 x11 x12 hm h7.1 h7.2 hL (by omega) hs hmm k1 k2 k3 k4) i n1 n2 i1 i2 i3 n3 i4 g
theorem ev57_0 (x0 x1 x2 x3 x4 x5 x6 x7 : Int) (b8 : Bool) (x9 x10 x11 x12 : Int) (hp : b8 = false -> In57 x0 x1 x2 x3 x4 x5 x6 x7 x9 x10 x11 x12) : evR (Ev (st57 x0 x1 x2 x3 x4 x5 x6 x7 b8 x9 x10 x11 x12)) (m57 x0 x1 x2 x3 x4 x5 x6 x7 b8 x9 x10 x11 x12) (.bool (F57 x0 x1 x2 x3 x4 x5 x6 x7 b8 x9 x10 x11 x12)) := by
 refine evBr (fun h => evRet ?_) (fun h => ?_)
 ·have : F57 x0 x1 x2 x3 x4 x5 x6 x7 b8 x9 x10 x11 x12 = false := by unfold F57; rw [h]; rfl
  rw [this]; rfl
 ·have e1 : i64.wrap (0 + 1) = 1 := by rw [wrapI (by omega) (by omega)]; rfl
  repeat (first | refine evObt ?_ | refine evObc ?_ | refine evBrt ?_ | refine evBrf ?_)
  refine evEnter ?_
  rw [e1]
  exact all57 x0 x1 x2 x3 x4 x5 x6 x7 b8 x9 x10 x11 x12 h (hp h) rfl
theorem ev57 (x0 x1 x2 x3 x4 x5 x6 x7 : Int) (b8 : Bool) (x9 x10 x11 x12 : Int) (hp : b8 = false -> In57 x0 x1 x2 x3 x4 x5 x6 x7 x9 x10 x11 x12) : evR (Ev (st57 x0 x1 x2 x3 x4 x5 x6 x7 b8 x9 x10 x11 x12)) (m57 x0 x1 x2 x3 x4 x5 x6 x7 b8 x9 x10 x11 x12) (.bool (F57 x0 x1 x2 x3 x4 x5 x6 x7 b8 x9 x10 x11 x12)) := ev57_0 x0 x1 x2 x3 x4 x5 x6 x7 b8 x9 x10 x11 x12 hp
def C57 : PCon := mkC [.agg [.int .i64, .int .i64, .int .i64, .int .i64, .int .i64, .int .i64, .int .i64, .int .i64, .bool], .agg tp4] (fun
 | [.agg [.int _ x0, .int _ x1, .int _ x2, .int _ x3, .int _ x4, .int _ x5, .int _ x6, .int _ x7, .bool b8], .agg [.int _ x9, .int _ x10, .int _ x11, .int _ x12]] => b8 = false -> In57 x0 x1 x2 x3 x4 x5 x6 x7 x9 x10 x11 x12
 | _ => False) fun
 | [.agg [.int _ x0, .int _ x1, .int _ x2, .int _ x3, .int _ x4, .int _ x5, .int _ x6, .int _ x7, .bool b8], .agg [.int _ x9, .int _ x10, .int _ x11, .int _ x12]] => .bool (F57 x0 x1 x2 x3 x4 x5 x6 x7 b8 x9 x10 x11 x12)
 | _ => .any
theorem ok57 : (vP C57).Ok Tryz.prog 57 := mkE tabB29 Tryz.func57 (by kernel_rfl) fun ds hp => rfs (run57 ..) (ev57 _ _ _ _ _ _ _ _ _ _ _ _ _ hp)
end
end Go.Dx
namespace Go.Dx
open Go.Sx
noncomputable section
section
variable {a b c m : P2} {r : Int}
theorem Wn.sw1 (h : Wn m a b c) : Wn m b a c := by
 have e1 : sdp b a c = -sdp a b c := by unfold sdp sd; grind
 have e2 := sdp_neg a b m
 have e3 := sdp_neg c a m
 have e4 := sdp_neg b c m
 obtain ⟨h1, h2⟩ := h
 exact ⟨by omega, by omega⟩
theorem Wn.sw2 (h : Wn m a b c) : Wn m a c b := by
 have e1 : sdp a c b = -sdp a b c := by unfold sdp sd; grind
 have e2 := sdp_neg a b m
 have e3 := sdp_neg c a m
 have e4 := sdp_neg b c m
 obtain ⟨h1, h2⟩ := h
 exact ⟨by omega, by omega⟩
theorem nrp_sw (hr : 0 <= r) (h : nrp a b m r = true) : nrp b a m r = true := by
 unfold nrp at *; rw [nr_swap hr]; exact h
theorem nrp_one (hr : 0 <= r) (h : nrp a a m r = true) (b : P2) : nrp a b m r = true := by
 refine (nrp_iff hr).2 (nq_pt ?_ b)
 obtain ⟨n, k, h1, h2, h3, h4⟩ := (nrp_iff hr).1 h
 rw [show k * m.1 - 1 * ((k - n) * a.1 + n * a.1) = k * (m.1 - a.1) by grind, show k * m.2 - 1 * ((k - n) * a.2 + n * a.2) = k * (m.2 - a.2) by grind, q2_mul] at h4
 refine cancel2 h3 ?_
 have e : k * 1 * r * (k * 1 * r) = k * k * (r * r) := by grind
 omega
theorem wnT (hm : SmP m) (ha : SmP a) (hb : SmP b) (hc : SmP c) : F110_0 m.1 m.2 a.1 a.2 b.1 b.2 c.1 c.2 = true ↔ Wn m a b c := by
 have k : ∀ {a b p : P2}, SmP a -> SmP b -> SmP p -> F79_0 (F93_0 b.1 a.1) (F93_1 b.2 a.2) (F93_0 p.1 a.1) (F93_1 p.2 a.2) = sdp a b p := fun ha hb hp => (sd_p ha.1 ha.2 hb.1 hb.2 hp.1 hp.2).1
 unfold F110_0 Wn
 rw [k ha hb hc, k ha hb hm, k hb hc hm, k hc ha hm]
 generalize sdp a b c = s
 generalize sdp a b m = x
 generalize sdp b c m = y
 generalize sdp c a m = z
 have g1 : ∀ n : Int, (0 <= F144_0 n) ↔ 0 <= n := fun n => by rcases sg_cases n with ⟨h, h0⟩ | ⟨h, h0⟩ | ⟨h, h0⟩ <;> rw [h] <;> omega
 have g2 : ∀ n : Int, (F144_0 n <= 0) ↔ n <= 0 := fun n => by rcases sg_cases n with ⟨h, h0⟩ | ⟨h, h0⟩ | ⟨h, h0⟩ <;> rw [h] <;> omega
 simp only [g1, g2]
 by_cases h0 : s = 0
 ·simp [h0]
 ·by_cases x1 : 0 <= x <;> by_cases y1 : 0 <= y <;> by_cases z1 : 0 <= z <;> by_cases x2 : x <= 0 <;> by_cases y2 : y <= 0 <;> by_cases z2 : z <= 0 <;> simp [h0, x1, y1, z1, x2, y2, z2]
theorem refT_no {v : Nat -> P2} {N : Nat} {L : List P2} (h2 : 2 <= N) (hL : ∀ q, q ∈ L ↔ ∃ k, k < N /\ v k = q) (hr : 0 <= r) (h : ∀ i j, j < i -> i < N -> nrp (v i) (v j) m r = false /\ ∀ n, n < j -> ¬ Wn m (v i) (v j) (v n)) : ¬ RefT (fun q => q ∈ L) m r := by
 have np : ∀ i j, i < N -> j < N -> i ≠ j -> nrp (v i) (v j) m r = true -> False := fun i j hi hj hij hn => by
  rcases Nat.lt_or_gt_of_ne hij with h1 | h1
  ·have := nrp_sw hr hn; rw [(h j i h1 hj).1] at this; cases this
  ·rw [(h i j h1 hi).1] at hn; cases hn
 rintro (⟨p, q, hp, hq, hn⟩ | ⟨p, q, s, hp, hq, hs, hw⟩)
 ·obtain ⟨i, hi, rfl⟩ := (hL _).1 hp
  obtain ⟨j, hj, rfl⟩ := (hL _).1 hq
  by_cases hij : i = j
  ·subst hij
   by_cases h0 : i = 0
   ·exact np i 1 hi (by omega) (by omega) (nrp_one hr hn _)
   ·exact np i 0 hi (by omega) h0 (nrp_one hr hn _)
  ·exact np i j hi hj hij hn
 ·obtain ⟨i, hi, rfl⟩ := (hL _).1 hp
  obtain ⟨j, hj, rfl⟩ := (hL _).1 hq
  obtain ⟨k, hk, rfl⟩ := (hL _).1 hs
  have z1 : i ≠ j := fun e => hw.1 (by rw [e]; exact sdp_2 _ _)
  have z2 : j ≠ k := fun e => hw.1 (by rw [e]; exact sdp_1 _ _)
  have z3 : i ≠ k := fun e => hw.1 (by rw [e]; exact sdp_0 _ _)
  have tr : ∀ i j k, i < N -> k < j -> j < i -> Wn m (v i) (v j) (v k) -> False := fun i j k hi h1 h2 hw => (h i j h2 hi).2 k h1 hw
  rcases Nat.lt_or_gt_of_ne z1 with h1 | h1 <;> rcases Nat.lt_or_gt_of_ne z2 with h2 | h2 <;> rcases Nat.lt_or_gt_of_ne z3 with h3 | h3
  ·exact tr k j i hk h1 h2 hw.sw1.sw2.sw1
  ·omega
  ·exact tr j k i hj h3 h2 hw.sw1.sw2
  ·exact tr j i k hj h3 h1 hw.sw1
  ·exact tr k i j hk h1 h3 hw.sw2.sw1
  ·exact tr i k j hi h2 h3 hw.sw2
  ·omega
  ·exact tr i j k hi h2 h1 hw
theorem refB_t {L : List P2} (h : RefT (fun q => q ∈ L) m r) : refB L m r = true := @dqt _ (Classical.propDecidable _) h
theorem refB_f {L : List P2} (h : ¬ RefT (fun q => q ∈ L) m r) : refB L m r = false := @dqf _ (Classical.propDecidable _) h
end
end
end Go.Dx
namespace Go.Dx
open Go.IntKind (i64 u64 u8)
open Go.Sx Go.Proofs
noncomputable section
def ctB30 : CTab := (57, .con C57) :: (131, .con CB131) :: ctB24
theorem tabB30 : TabOk Tryz.prog eqs its ctB30 := .con ok57 (.con okB131 (tabB24))
def u60 : Unr := fun k => bif Nat.beq k 0 then 5 else 0
inductive S60 where
 | L0 (ia0 : Int) (fa1 : Nat -> List V)
 | L1 (ib0 ib1 : Int) (fb2 : Nat -> List V)
 | L2 (ic0 ic1 ic2 : Int) (fc3 : Nat -> List V)
def inv60 (s0 : ByteArray) (x1 x2 x3 x4 x5 x6 x7 x8 x9 x10 x11 x12 x13 x14 : Int) : S60 -> Env × List O × Option Ex
 | .L0 ia0 fa1 => ([(15, vi ia0), (14, vi (i64.wrap (i64.wrap (i64.wrap (i64.wrap (0 + 1) + 1) + 1) + 1))), (13, V.gs 0 8), (12, V.pl 1 0), (11, vi (F105_2 x3 x8)), (10, V.pl 2 0), (8, vi (F104_1 x3 x9)), (7, vi (F104_0 x3 x10)), (3, V.pl 3 0)], [O.gl 2 8 (elV tp2 fa1) 106, O.cells [vi x11, vi x12, vi x13, vi x12, vi x13, vi x14, vi x11, vi x14] 112, O.cells [vi (F105_0 x3 x6), vi (F105_1 x3 x7)] 106, O.cells [V.str s0, vi x1, vi x2, vi x3, vi x4, vi x5] 100], none)
 | .L1 ib0 ib1 fb2 => ([(16, vi ib0), (15, vi ib1), (14, vi (i64.wrap (i64.wrap (i64.wrap (i64.wrap (0 + 1) + 1) + 1) + 1))), (13, V.gs 0 8), (12, V.pl 1 0), (11, vi (F105_2 x3 x8)), (10, V.pl 2 0), (8, vi (F104_1 x3 x9)), (7, vi (F104_0 x3 x10)), (3, V.pl 3 0)], [O.gl 2 8 (elV tp2 fb2) 106, O.cells [vi x11, vi x12, vi x13, vi x12, vi x13, vi x14, vi x11, vi x14] 112, O.cells [vi (F105_0 x3 x6), vi (F105_1 x3 x7)] 106, O.cells [V.str s0, vi x1, vi x2, vi x3, vi x4, vi x5] 100], none)
 | .L2 ic0 ic1 ic2 fc3 => ([(17, vi ic0), (16, vi ic1), (15, vi ic2), (14, vi (i64.wrap (i64.wrap (i64.wrap (i64.wrap (0 + 1) + 1) + 1) + 1))), (13, V.gs 0 8), (12, V.pl 1 0), (11, vi (F105_2 x3 x8)), (10, V.pl 2 0), (8, vi (F104_1 x3 x9)), (7, vi (F104_0 x3 x10)), (3, V.pl 3 0)], [O.gl 2 8 (elV tp2 fc3) 106, O.cells [vi x11, vi x12, vi x13, vi x12, vi x13, vi x14, vi x11, vi x14] 112, O.cells [vi (F105_0 x3 x6), vi (F105_1 x3 x7)] 106, O.cells [V.str s0, vi x1, vi x2, vi x3, vi x4, vi x5] 100], none)
def id60 : S60 -> JJ
 | .L0 ia0 fa1 => (0, [])
 | .L1 ib0 ib1 fb2 => (1, [])
 | .L2 ic0 ic1 ic2 fc3 => (2, [])
def rl60 (s0 : ByteArray) (x1 x2 x3 x4 x5 x6 x7 x8 x9 x10 x11 x12 x13 x14 : Int) : T (Leaf JJ) := runL JJ ctB30 u60 s60 [V.agg [V.str s0, vi x1, vi x2, vi x3, vi x4, vi x5], V.agg [vi x6, vi x7, vi x8, vi x9, vi x10], V.agg [vi x11, vi x12, vi x13, vi x14]]
def lp60_0 (s0 : ByteArray) (x1 x2 x3 x4 x5 x6 x7 x8 x9 x10 x11 x12 x13 x14 : Int) (cx : List Cx) : Lp JJ := lpT (atT (rl60 s0 x1 x2 x3 x4 x5 x6 x7 x8 x9 x10 x11 x12 x13 x14) [false, true, true, true, true, false])
def lp60_1 (s0 : ByteArray) (x1 x2 x3 x4 x5 x6 x7 x8 x9 x10 x11 x12 x13 x14 : Int) (cx : List Cx) : Lp JJ := lpT (atT (rdP ctB30 u60 (0, []) (lp60_0 s0 x1 x2 x3 x4 x5 x6 x7 x8 x9 x10 x11 x12 x13 x14 []) (inv60 s0 x1 x2 x3 x4 x5 x6 x7 x8 x9 x10 x11 x12 x13 x14 (.L0 (0 : Int) (fun _ => [])))) [true])
def lp60_2 (s0 : ByteArray) (x1 x2 x3 x4 x5 x6 x7 x8 x9 x10 x11 x12 x13 x14 : Int) (cx : List Cx) : Lp JJ := lpT (atT (rdP ctB30 u60 (1, []) (lp60_1 s0 x1 x2 x3 x4 x5 x6 x7 x8 x9 x10 x11 x12 x13 x14 []) (inv60 s0 x1 x2 x3 x4 x5 x6 x7 x8 x9 x10 x11 x12 x13 x14 (.L1 (0 : Int) (0 : Int) (fun _ => [])))) [true, false])
def lp60 (s0 : ByteArray) (x1 x2 x3 x4 x5 x6 x7 x8 x9 x10 x11 x12 x13 x14 : Int) : JJ -> Lp JJ
 | (0, cx) => lp60_0 s0 x1 x2 x3 x4 x5 x6 x7 x8 x9 x10 x11 x12 x13 x14 cx
 | (1, cx) => lp60_1 s0 x1 x2 x3 x4 x5 x6 x7 x8 x9 x10 x11 x12 x13 x14 cx
 | (2, cx) => lp60_2 s0 x1 x2 x3 x4 x5 x6 x7 x8 x9 x10 x11 x12 x13 x14 cx
 | (_, cx) => lp60_0 s0 x1 x2 x3 x4 x5 x6 x7 x8 x9 x10 x11 x12 x13 x14 cx
def D60 (s0 : ByteArray) (x1 x2 x3 x4 x5 x6 x7 x8 x9 x10 x11 x12 x13 x14 : Int) : LD JJ S60 := ⟨id60, lp60 s0 x1 x2 x3 x4 x5 x6 x7 x8 x9 x10 x11 x12 x13 x14, inv60 s0 x1 x2 x3 x4 x5 x6 x7 x8 x9 x10 x11 x12 x13 x14⟩
def st60 (s0 : ByteArray) (x1 x2 x3 x4 x5 x6 x7 x8 x9 x10 x11 x12 x13 x14 : Int) : S60 -> RT S60
 | .L0 ia0 fa1 => .br (decide (ia0 < (↑8 : Int))) (.enter (iR 0 4 []) (S60.L1 (0) (ia0) (elV tp2 fa1)) [⟨0, tp2, 8, elV tp2 fa1, vf_view rfl _ _⟩]) (.ret (V.kb false))
 | .L1 ib0 ib1 fb2 => .br (decide (ib0 < ib1)) (.ob (decide (0 <= ib1 /\ ib1 < (↑8 : Int) /\ 8 <= 8)) (.ob (decide (ib1.toNat < 8)) (.ob (decide (0 <= ib0 /\ ib0 < (↑8 : Int) /\ 8 <= 8)) (.ob (decide (ib0.toNat < 8)) (.obc (.obt (.br (F106_0 (F105_0 x3 x6) (F105_1 x3 x7) (jv0 (fb2 ib1.toNat)) (jv1 (fb2 ib1.toNat)) (jv0 (fb2 ib0.toNat)) (jv1 (fb2 ib0.toNat)) (F105_2 x3 x8)) (.ret (V.kb true)) (.enter (iR 0 4 []) (S60.L2 (0) (ib0) (ib1) (elV tp2 fb2)) [⟨0, tp2, 8, elV tp2 fb2, vf_view rfl _ _⟩])))))))) (.next (iR 0 4 []) (S60.L0 (i64.wrap (ib1 + 1)) (elV tp2 fb2)) [⟨0, tp2, 8, elV tp2 fb2, vf_view rfl _ _⟩])
 | .L2 ic0 ic1 ic2 fc3 => .br (decide (ic0 < ic1)) (.ob (decide (0 <= ic2 /\ ic2 < (↑8 : Int) /\ 8 <= 8)) (.ob (decide (ic2.toNat < 8)) (.ob (decide (0 <= ic1 /\ ic1 < (↑8 : Int) /\ 8 <= 8)) (.ob (decide (ic1.toNat < 8)) (.ob (decide (0 <= ic0 /\ ic0 < (↑8 : Int) /\ 8 <= 8)) (.ob (decide (ic0.toNat < 8)) (.obc (.obt (.br (F110_0 (F105_0 x3 x6) (F105_1 x3 x7) (jv0 (fc3 ic2.toNat)) (jv1 (fc3 ic2.toNat)) (jv0 (fc3 ic1.toNat)) (jv1 (fc3 ic1.toNat)) (jv0 (fc3 ic0.toNat)) (jv1 (fc3 ic0.toNat))) (.ret (V.kb true)) (.next (iR 0 4 []) (S60.L2 (i64.wrap (ic0 + 1)) (ic1) (ic2) (elV tp2 fc3)) [⟨0, tp2, 8, elV tp2 fc3, vf_view rfl _ _⟩])))))))))) (.next (iR 0 4 []) (S60.L1 (i64.wrap (ic1 + 1)) (ic2) (elV tp2 fc3)) [⟨0, tp2, 8, elV tp2 fc3, vf_view rfl _ _⟩])
def m60 (s0 : ByteArray) (x1 x2 x3 x4 x5 x6 x7 x8 x9 x10 x11 x12 x13 x14 : Int) : RT S60 := .obc (.obt (.br (!F104_2 x3 x9) (.ret (V.kb false)) (.obc (.obt (.obc (.obt (.brt (.obt (.obc (.obt (.obt (.obc (.obt (.obt (.obt (.brt (.obt (.obc (.obt (.obt (.obc (.obt (.obt (.obt (.brt (.obt (.obc (.obt (.obt (.obc (.obt (.obt (.obt (.brt (.obt (.obc (.obt (.obt (.obc (.obt (.obt (.obt (.brf (.enter [some (some 12), some (some 4), some (some 3), some (some 0)] (S60.L0 (0) (joinF 6 (joinF 4 (joinF 2 (fun i => List.take 2 (List.drop (i * 2) [vi (F107_0 x1 x3 x11 (F104_0 x3 x10)), vi (F107_1 x2 x3 x12 (F104_0 x3 x10)), vi (F107_0 x1 x3 x11 (F104_1 x3 x9)), vi (F107_1 x2 x3 x12 (F104_1 x3 x9))])) fun i => List.take 2 (List.drop (i * 2) [vi (F107_0 x1 x3 x13 (F104_0 x3 x10)), vi (F107_1 x2 x3 x12 (F104_0 x3 x10)), vi (F107_0 x1 x3 x13 (F104_1 x3 x9)), vi (F107_1 x2 x3 x12 (F104_1 x3 x9))])) fun i => List.take 2 (List.drop (i * 2) [vi (F107_0 x1 x3 x13 (F104_0 x3 x10)), vi (F107_1 x2 x3 x14 (F104_0 x3 x10)), vi (F107_0 x1 x3 x13 (F104_1 x3 x9)), vi (F107_1 x2 x3 x14 (F104_1 x3 x9))])) fun i => List.take 2 (List.drop (i * 2) [vi (F107_0 x1 x3 x11 (F104_0 x3 x10)), vi (F107_1 x2 x3 x14 (F104_0 x3 x10)), vi (F107_0 x1 x3 x11 (F104_1 x3 x9)), vi (F107_1 x2 x3 x14 (F104_1 x3 x9))]))) [⟨0, tp2, 8, joinF 6 (joinF 4 (joinF 2 (fun i => List.take 2 (List.drop (i * 2) [vi (F107_0 x1 x3 x11 (F104_0 x3 x10)), vi (F107_1 x2 x3 x12 (F104_0 x3 x10)), vi (F107_0 x1 x3 x11 (F104_1 x3 x9)), vi (F107_1 x2 x3 x12 (F104_1 x3 x9))])) fun i => List.take 2 (List.drop (i * 2) [vi (F107_0 x1 x3 x13 (F104_0 x3 x10)), vi (F107_1 x2 x3 x12 (F104_0 x3 x10)), vi (F107_0 x1 x3 x13 (F104_1 x3 x9)), vi (F107_1 x2 x3 x12 (F104_1 x3 x9))])) fun i => List.take 2 (List.drop (i * 2) [vi (F107_0 x1 x3 x13 (F104_0 x3 x10)), vi (F107_1 x2 x3 x14 (F104_0 x3 x10)), vi (F107_0 x1 x3 x13 (F104_1 x3 x9)), vi (F107_1 x2 x3 x14 (F104_1 x3 x9))])) fun i => List.take 2 (List.drop (i * 2) [vi (F107_0 x1 x3 x11 (F104_0 x3 x10)), vi (F107_1 x2 x3 x14 (F104_0 x3 x10)), vi (F107_0 x1 x3 x11 (F104_1 x3 x9)), vi (F107_1 x2 x3 x14 (F104_1 x3 x9))]), vf_all rfl rfl⟩]))))))))))))))))))))))))))))))))))))))))))))
theorem run60 (s0 : ByteArray) (x1 x2 x3 x4 x5 x6 x7 x8 x9 x10 x11 x12 x13 x14 : Int) : Fits ctB30 u60 (D60 s0 x1 x2 x3 x4 x5 x6 x7 x8 x9 x10 x11 x12 x13 x14) (rl60 s0 x1 x2 x3 x4 x5 x6 x7 x8 x9 x10 x11 x12 x13 x14) (m60 s0 x1 x2 x3 x4 x5 x6 x7 x8 x9 x10 x11 x12 x13 x14) (st60 s0 x1 x2 x3 x4 x5 x6 x7 x8 x9 x10 x11 x12 x13 x14) := ⟨⟨by kernel_rfl, by kernel_rfl⟩, fun s => by cases s <;> exact ⟨by kernel_rfl, by kernel_rfl⟩⟩
attribute [local irreducible] F106_0 F110_0
def F60 (x1 x2 x3 x6 x7 x8 x9 x10 x11 x12 x13 x14 : Int) : Bool := F104_2 x3 x9 && refB (pl57 x1 x2 x3 (F104_0 x3 x10) (F104_1 x3 x9) x11 x12 x13 x14) (F105_0 x3 x6, F105_1 x3 x7) (F105_2 x3 x8)
theorem all60 (s0 : ByteArray) (x1 x2 x3 x4 x5 x6 x7 x8 x9 x10 x11 x12 x13 x14 : Int) (h7 : 0 <= (F105_2 x3 x8)) (h8 : (F105_2 x3 x8) <= 1073741824) (hm : SmP (F105_0 x3 x6, F105_1 x3 x7)) {L : List P2} (hL : ∀ q ∈ L, SmP q) {f : Nat -> List V} (hf : ptL 8 f = L) : Ev (st60 s0 x1 x2 x3 x4 x5 x6 x7 x8 x9 x10 x11 x12 x13 x14) (.L0 0 f) (.bool (refB L (F105_0 x3 x6, F105_1 x3 x7) (F105_2 x3 x8))) := by
 have hv : ∀ q, q ∈ L ↔ ∃ k, k < 8 /\ pq f k = q := fun q => by rw [← hf]; exact ptL_mem
 have sv : ∀ k, k < 8 -> SmP (pq f k) := fun k hk => hL _ ((hv _).2 ⟨k, hk, rfl⟩)
 have nT : ∀ i j, i < 8 -> j < 8 -> F106_0 (F105_0 x3 x6) (F105_1 x3 x7) (pq f i).1 (pq f i).2 (pq f j).1 (pq f j).2 (F105_2 x3 x8) = nrp (pq f i) (pq f j) (F105_0 x3 x6, F105_1 x3 x7) (F105_2 x3 x8) := fun i j hi hj =>
  near_r (sv i hi).1 (sv i hi).2 (sv j hj).1 (sv j hj).2 hm.1 hm.2 h7 h8
 have wT : ∀ i j n, i < 8 -> j < 8 -> n < 8 -> (F110_0 (F105_0 x3 x6) (F105_1 x3 x7) (pq f i).1 (pq f i).2 (pq f j).1 (pq f j).2 (pq f n).1 (pq f n).2 = true ↔ Wn (F105_0 x3 x6, F105_1 x3 x7) (pq f i) (pq f j) (pq f n)) := fun i j n hi hj hn => wnT (m := (F105_0 x3 x6, F105_1 x3 x7)) hm (sv i hi) (sv j hj) (sv n hn)
 have k0 : ∀ i, i <= 8 -> ∀ g : Nat -> List V, (∀ k, pq g k = pq f k) -> (∀ i' j', j' < i' -> i' < i -> nrp (pq f i') (pq f j') (F105_0 x3 x6, F105_1 x3 x7) (F105_2 x3 x8) = false /\ ∀ n, n < j' -> ¬ Wn (F105_0 x3 x6, F105_1 x3 x7) (pq f i') (pq f j') (pq f n)) -> Ev (st60 s0 x1 x2 x3 x4 x5 x6 x7 x8 x9 x10 x11 x12 x13 x14) (.L0 (i : Int) g) (.bool (refB L (F105_0 x3 x6, F105_1 x3 x7) (F105_2 x3 x8))) := by
  refine up_ind fun i hi ih0 g hg h0 => ?_
  by_cases hi8 : i < 8
  ·refine Ev.of rfl (evBrT (dqt (by omega)) (evEnter ?_))
   have k1 : ∀ j, j <= i -> ∀ g : Nat -> List V, (∀ k, pq g k = pq f k) -> (∀ j', j' < j -> nrp (pq f i) (pq f j') (F105_0 x3 x6, F105_1 x3 x7) (F105_2 x3 x8) = false /\ ∀ n, n < j' -> ¬ Wn (F105_0 x3 x6, F105_1 x3 x7) (pq f i) (pq f j') (pq f n)) -> Ev (st60 s0 x1 x2 x3 x4 x5 x6 x7 x8 x9 x10 x11 x12 x13 x14) (.L1 (j : Int) (i : Int) g) (.bool (refB L (F105_0 x3 x6, F105_1 x3 x7) (F105_2 x3 x8))) := by
    refine up_ind fun j hj ih1 g hg h1 => ?_
    by_cases hji : j < i
    ·have e1 := nT i j hi8 (by omega)
     rw [← hg, ← hg j] at e1
     refine Ev.of rfl (evBrT (dqt (by omega)) (evOb (dqt (by omega)) (evOb (dqt (by omega)) (evOb (dqt (by omega)) (evOb (dqt (by omega)) (evObc (evObt (evBr (fun hh => evRet ?_) (fun hh => evEnter ?_)))))))))
     ·have hh' := e1.symm.trans hh
      rw [hg, hg] at hh'
      rw [refB_t (.inl ⟨_, _, (hv _).2 ⟨i, hi8, rfl⟩, (hv _).2 ⟨j, by omega, rfl⟩, hh'⟩)]; rfl
     ·have hh' := e1.symm.trans hh
      rw [hg, hg] at hh'
      have k2 : ∀ n, n <= j -> ∀ g : Nat -> List V, (∀ k, pq g k = pq f k) -> (∀ n', n' < n -> ¬ Wn (F105_0 x3 x6, F105_1 x3 x7) (pq f i) (pq f j) (pq f n')) -> Ev (st60 s0 x1 x2 x3 x4 x5 x6 x7 x8 x9 x10 x11 x12 x13 x14) (.L2 (n : Int) (j : Int) (i : Int) g) (.bool (refB L (F105_0 x3 x6, F105_1 x3 x7) (F105_2 x3 x8))) := by
       refine up_ind fun n hn ih2 g hg hw => ?_
       by_cases hnj : n < j
       ·have e2 := wT i j n hi8 (by omega) (by omega)
        rw [← hg, ← hg j, ← hg n] at e2
        refine Ev.of rfl (evBrT (dqt (by omega)) (evOb (dqt (by omega)) (evOb (dqt (by omega)) (evOb (dqt (by omega)) (evOb (dqt (by omega)) (evOb (dqt (by omega)) (evOb (dqt (by omega)) (evObc (evObt (evBr (fun hh => evRet ?_) (fun hh => evNext ?_)))))))))))
        ·have hw' := e2.1 hh
         rw [hg, hg, hg] at hw'
         rw [refB_t (.inr ⟨_, _, _, (hv _).2 ⟨i, hi8, rfl⟩, (hv _).2 ⟨j, by omega, rfl⟩, (hv _).2 ⟨n, by omega, rfl⟩, hw'⟩)]; rfl
        ·rw [wp1 (by omega)]
         refine ih2 hnj _ (fun k => hg k) fun n' hn' => ?_
         by_cases en : n' = n
         ·intro hw'
          rw [en] at hw'
          rw [← hg i, ← hg j, ← hg n] at hw'
          have := e2.2 hw'
          have hh2 : F110_0 (F105_0 x3 x6) (F105_1 x3 x7) (pq g i).1 (pq g i).2 (pq g j).1 (pq g j).2 (pq g n).1 (pq g n).2 = false := hh
          rw [hh2] at this; cases this
         ·exact hw n' (by omega)
       ·have en : n = j := by omega
        subst en
        refine Ev.of rfl (evBrF (dqf (by omega)) (evNext ?_))
        rw [wp1 (by omega)]
        refine ih1 hji _ (fun k => hg k) fun j' hj' => ?_
        by_cases ej : j' = n
        ·rw [ej]; exact ⟨hh', fun n' hn' => hw n' hn'⟩
        ·exact h1 j' (by omega)
      exact k2 0 (Nat.zero_le _) _ (fun k => hg k) (fun n' hn' => by omega)
    ·have ej : j = i := by omega
     subst ej
     refine Ev.of rfl (evBrF (dqf (by omega)) (evNext ?_))
     rw [wp1 (by omega)]
     refine ih0 hi8 _ (fun k => hg k) fun i' j' hj' hi' => ?_
     by_cases ei : i' = j
     ·rw [ei] at hj' ⊢; exact h1 j' hj'
     ·exact h0 i' j' hj' (by omega)
   exact k1 0 (Nat.zero_le _) _ (fun k => hg k) (fun j' hj' => by omega)
  ·have ei : i = 8 := by omega
   subst ei
   refine Ev.of rfl (evBrF (dqf (by omega)) (evRet ?_))
   rw [refB_f (refT_no (v := pq f) (N := 8) (by omega) hv h7 h0)]; rfl
 exact k0 0 (Nat.zero_le _) f (fun _ => rfl) (fun i' j' _ h => by omega)
theorem ev60_0 (s0 : ByteArray) (x1 x2 x3 x4 x5 x6 x7 x8 x9 x10 x11 x12 x13 x14 : Int) (hp : F104_2 x3 x9 = true -> In57 x1 x2 x3 (F104_0 x3 x10) (F104_1 x3 x9) (F105_0 x3 x6) (F105_1 x3 x7) (F105_2 x3 x8) x11 x12 x13 x14) : evR (Ev (st60 s0 x1 x2 x3 x4 x5 x6 x7 x8 x9 x10 x11 x12 x13 x14)) (m60 s0 x1 x2 x3 x4 x5 x6 x7 x8 x9 x10 x11 x12 x13 x14) (.bool (F60 x1 x2 x3 x6 x7 x8 x9 x10 x11 x12 x13 x14)) := by
 refine evObc (evObt (evBr (fun h => evRet ?_) (fun h => ?_)))
 ·have : F60 x1 x2 x3 x6 x7 x8 x9 x10 x11 x12 x13 x14 = false := by unfold F60; rw [tnF h]; rfl
  rw [this]; rfl
 ·have hin := hp (tnT h)
  have : F60 x1 x2 x3 x6 x7 x8 x9 x10 x11 x12 x13 x14 = refB (pl57 x1 x2 x3 (F104_0 x3 x10) (F104_1 x3 x9) x11 x12 x13 x14) (F105_0 x3 x6, F105_1 x3 x7) (F105_2 x3 x8) := by unfold F60; rw [tnT h]; rfl
  rw [this]
  repeat (first | refine evObt ?_ | refine evObc ?_ | refine evBrt ?_ | refine evBrf ?_)
  refine evEnter ?_
  exact all60 s0 x1 x2 x3 x4 x5 x6 x7 x8 x9 x10 x11 x12 x13 x14 hin.2.2.2.2.2.2.2.1.1 hin.2.2.2.2.2.2.2.1.2 ⟨hin.2.2.2.2.2.1, hin.2.2.2.2.2.2.1⟩ (pl57_sm hin) rfl
theorem ev60 (s0 : ByteArray) (x1 x2 x3 x4 x5 x6 x7 x8 x9 x10 x11 x12 x13 x14 : Int) (hp : F104_2 x3 x9 = true -> In57 x1 x2 x3 (F104_0 x3 x10) (F104_1 x3 x9) (F105_0 x3 x6) (F105_1 x3 x7) (F105_2 x3 x8) x11 x12 x13 x14) : evR (Ev (st60 s0 x1 x2 x3 x4 x5 x6 x7 x8 x9 x10 x11 x12 x13 x14)) (m60 s0 x1 x2 x3 x4 x5 x6 x7 x8 x9 x10 x11 x12 x13 x14) (.bool (F60 x1 x2 x3 x6 x7 x8 x9 x10 x11 x12 x13 x14)) := ev60_0 s0 x1 x2 x3 x4 x5 x6 x7 x8 x9 x10 x11 x12 x13 x14 hp
def C60 : PCon := mkC [.agg tyC, .agg tyT, .agg tp4] (fun
 | [.agg [.str s0, .int _ x1, .int _ x2, .int _ x3, .int _ x4, .int _ x5], .agg [.int _ x6, .int _ x7, .int _ x8, .int _ x9, .int _ x10], .agg [.int _ x11, .int _ x12, .int _ x13, .int _ x14]] => F104_2 x3 x9 = true -> In57 x1 x2 x3 (F104_0 x3 x10) (F104_1 x3 x9) (F105_0 x3 x6) (F105_1 x3 x7) (F105_2 x3 x8) x11 x12 x13 x14
 | _ => False) fun
 | [.agg [.str s0, .int _ x1, .int _ x2, .int _ x3, .int _ x4, .int _ x5], .agg [.int _ x6, .int _ x7, .int _ x8, .int _ x9, .int _ x10], .agg [.int _ x11, .int _ x12, .int _ x13, .int _ x14]] => .bool (F60 x1 x2 x3 x6 x7 x8 x9 x10 x11 x12 x13 x14)
 | _ => .any
theorem ok60 : (vP C60).Ok Tryz.prog 60 := mkE tabB30 Tryz.func60 (by kernel_rfl) fun ds hp => rfs (run60 ..) (ev60 _ _ _ _ _ _ _ _ _ _ _ _ _ _ _ hp)
end
end Go.Dx
