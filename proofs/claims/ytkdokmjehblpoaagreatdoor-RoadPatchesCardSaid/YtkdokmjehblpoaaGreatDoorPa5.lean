/- Part 5 of a proof: an evaluator of code with its soundness, contracts of functions, and plain facts of what they compute. No conditions. -/
import Derived.Test.YtkdokmjehblpoaaGreatDoorPa4
import Derived.Laws.MathBits
namespace Go.Dx
open Go.IntKind (i64 u64 u8)
open Go.Sx Go.Proofs
set_option maxRecDepth 100000
set_option linter.unusedVariables false
set_option linter.unusedSimpArgs false
def ctB10 : CTab := (117, .inl s117 u0) :: (116, .inl s116 u0) :: (115, .con C115) :: (114, .con C114) :: (73, .con C73) :: ctB9
theorem tabB10 : TabOk Tryz.prog eqs its ctB10 := .inl Tryz.func117 (by kernel_rfl) (by kernel_rfl) (by kernel_rfl) (.inl Tryz.func116 (by kernel_rfl) (by kernel_rfl) (by kernel_rfl) (.con ok115 (.con ok114 (.con ok73 (tabB9)))))
inductive S63 where
  | L0 (i_100 : Int) (f_101 : Nat -> List V)
  | L1 (i_200 : Int) (f_201 : Nat -> List V)
  | L2 (i_300 : Int) (f_301 : Nat -> List V)
  | L3 (i_400 : Int) (f_401 : Nat -> List V)
  | L4 (i_500 : Int) (n_501 n_502 : Nat) (i_503 i_504 i_505 : Int) (n_506 : Nat) (i_507 i_508 i_509 i_510 : Int) (f_511 : Nat -> List V)
  | L5 (i_600 : Int) (n_601 n_602 : Nat) (i_603 i_604 i_605 : Int) (n_606 : Nat) (i_607 i_608 i_609 i_610 : Int) (f_611 : Nat -> List V)
  | L6 (i_700 : Int) (n_701 n_702 : Nat) (i_703 i_704 i_705 : Int) (n_706 : Nat) (i_707 i_708 i_709 i_710 : Int) (f_711 : Nat -> List V)
  | L7 (i_800 : Int) (n_801 n_802 : Nat) (i_803 i_804 i_805 : Int) (n_806 : Nat) (i_807 i_808 i_809 i_810 : Int) (f_811 : Nat -> List V)
def inv63 (n0 : Nat) (f0 : FnV) (s2 : ByteArray) (x3 : Int) (n4 : Nat) (f4 : FnV) (x6 : Int) : S63 -> Env × List O × Option Ex
  | .L0 i_100 f_101 => ([(3, vi i_100), (8, V.kb false), (7, vi (↑n4 : Int)), (6, V.gs 2 n4), (2, V.ns), (0, V.gs 2 n4)], [O.cells [V.str s2, vi x3, V.sl n4 (elV tp2 f4), vi x6] 54, O.hid, O.gl 2 n4 (elV tp2 f_101) 72], none)
  | .L1 i_200 f_201 => ([(3, vi i_200), (8, V.kb false), (7, vi (↑n4 : Int)), (6, V.gs 2 n4), (2, V.ns), (0, V.gs 2 n4)], [O.cells [V.str s2, vi x3, V.sl n4 (elV tp2 f4), vi x6] 54, O.hid, O.gl 2 n4 (elV tp2 f_201) 72], none)
  | .L2 i_300 f_301 => ([(3, vi i_300), (8, V.kb false), (7, vi (↑n4 : Int)), (6, V.gs 2 n4), (2, V.ns), (0, V.gs 2 n4)], [O.cells [V.str s2, vi x3, V.sl n4 (elV tp2 f4), vi x6] 54, O.hid, O.gl 2 n4 (elV tp2 f_301) 72], none)
  | .L3 i_400 f_401 => ([(3, vi i_400), (8, V.kb false), (7, vi (↑n4 : Int)), (6, V.gs 2 n4), (2, V.ns), (0, V.gs 2 n4)], [O.cells [V.str s2, vi x3, V.sl n4 (elV tp2 f4), vi x6] 54, O.hid, O.gl 2 n4 (elV tp2 f_401) 72], none)
  | .L4 i_500 n_501 n_502 i_503 i_504 i_505 n_506 i_507 i_508 i_509 i_510 f_511 => ([(5, vi i_500), (4, V.go 2 n_501 n_502), (28, V.go 2 n_501 n_502), (27, vi i_503), (26, V.gs 2 n4), (25, V.kb true), (24, V.agg [vi i_504, vi i_505]), (23, V.pe 2 n_506 0), (22, vi i_507), (21, vi i_503), (20, V.gs 2 n4), (19, V.agg [vi i_508, vi i_509]), (18, V.pe 2 n_501 0), (17, vi i_503), (16, V.gs 2 n4), (13, V.kb true), (12, vi (↑n4 : Int)), (11, V.gs 2 n4), (10, vi i_503), (3, vi i_510), (8, V.kb false), (7, vi (↑n4 : Int)), (6, V.gs 2 n4), (2, V.ns), (0, V.gs 2 n4)], [O.cells [V.str s2, vi x3, V.sl n4 (elV tp2 f4), vi x6] 54, O.hid, O.gl 2 n4 (elV tp2 f_511) 72], none)
  | .L5 i_600 n_601 n_602 i_603 i_604 i_605 n_606 i_607 i_608 i_609 i_610 f_611 => ([(5, vi i_600), (4, V.go 2 n_601 n_602), (28, V.go 2 n_601 n_602), (27, vi i_603), (26, V.gs 2 n4), (25, V.kb true), (24, V.agg [vi i_604, vi i_605]), (23, V.pe 2 n_606 0), (22, vi i_607), (21, vi i_603), (20, V.gs 2 n4), (19, V.agg [vi i_608, vi i_609]), (18, V.pe 2 n_601 0), (17, vi i_603), (16, V.gs 2 n4), (13, V.kb true), (12, vi (↑n4 : Int)), (11, V.gs 2 n4), (10, vi i_603), (3, vi i_610), (8, V.kb false), (7, vi (↑n4 : Int)), (6, V.gs 2 n4), (2, V.ns), (0, V.gs 2 n4)], [O.cells [V.str s2, vi x3, V.sl n4 (elV tp2 f4), vi x6] 54, O.hid, O.gl 2 n4 (elV tp2 f_611) 72], none)
  | .L6 i_700 n_701 n_702 i_703 i_704 i_705 n_706 i_707 i_708 i_709 i_710 f_711 => ([(5, vi i_700), (4, V.go 2 n_701 n_702), (28, V.go 2 n_701 n_702), (27, vi i_703), (26, V.gs 2 n4), (25, V.kb true), (24, V.agg [vi i_704, vi i_705]), (23, V.pe 2 n_706 0), (22, vi i_707), (21, vi i_703), (20, V.gs 2 n4), (19, V.agg [vi i_708, vi i_709]), (18, V.pe 2 n_701 0), (17, vi i_703), (16, V.gs 2 n4), (13, V.kb true), (12, vi (↑n4 : Int)), (11, V.gs 2 n4), (10, vi i_703), (3, vi i_710), (8, V.kb false), (7, vi (↑n4 : Int)), (6, V.gs 2 n4), (2, V.ns), (0, V.gs 2 n4)], [O.cells [V.str s2, vi x3, V.sl n4 (elV tp2 f4), vi x6] 54, O.hid, O.gl 2 n4 (elV tp2 f_711) 72], none)
  | .L7 i_800 n_801 n_802 i_803 i_804 i_805 n_806 i_807 i_808 i_809 i_810 f_811 => ([(5, vi i_800), (4, V.go 2 n_801 n_802), (28, V.go 2 n_801 n_802), (27, vi i_803), (26, V.gs 2 n4), (25, V.kb true), (24, V.agg [vi i_804, vi i_805]), (23, V.pe 2 n_806 0), (22, vi i_807), (21, vi i_803), (20, V.gs 2 n4), (19, V.agg [vi i_808, vi i_809]), (18, V.pe 2 n_801 0), (17, vi i_803), (16, V.gs 2 n4), (13, V.kb true), (12, vi (↑n4 : Int)), (11, V.gs 2 n4), (10, vi i_803), (3, vi i_810), (8, V.kb false), (7, vi (↑n4 : Int)), (6, V.gs 2 n4), (2, V.ns), (0, V.gs 2 n4)], [O.cells [V.str s2, vi x3, V.sl n4 (elV tp2 f4), vi x6] 54, O.hid, O.gl 2 n4 (elV tp2 f_811) 72], none)
def id63 : S63 -> JJ
  | .L0 i_100 f_101 => (0, [])
  | .L1 i_200 f_201 => (1, [])
  | .L2 i_300 f_301 => (2, [])
  | .L3 i_400 f_401 => (3, [])
  | .L4 i_500 n_501 n_502 i_503 i_504 i_505 n_506 i_507 i_508 i_509 i_510 f_511 => (4, [])
  | .L5 i_600 n_601 n_602 i_603 i_604 i_605 n_606 i_607 i_608 i_609 i_610 f_611 => (5, [])
  | .L6 i_700 n_701 n_702 i_703 i_704 i_705 n_706 i_707 i_708 i_709 i_710 f_711 => (6, [])
  | .L7 i_800 n_801 n_802 i_803 i_804 i_805 n_806 i_807 i_808 i_809 i_810 f_811 => (7, [])
def rl63 (n0 : Nat) (f0 : FnV) (s2 : ByteArray) (x3 : Int) (n4 : Nat) (f4 : FnV) (x6 : Int) : T (Leaf JJ) := runL JJ ctB10 u0 s63 [V.sl n0 (elV tyR f0), V.agg [V.str s2, vi x3, V.sl n4 (elV tp2 f4), vi x6]]
def lp63_0 (n0 : Nat) (f0 : FnV) (s2 : ByteArray) (x3 : Int) (n4 : Nat) (f4 : FnV) (x6 : Int) (cx : List Cx) : Lp JJ := lpT (atT (rl63 n0 f0 s2 x3 n4 f4 x6) [false, false, false, false, false, true, false, true, true, false, true, false])
def lp63_1 (n0 : Nat) (f0 : FnV) (s2 : ByteArray) (x3 : Int) (n4 : Nat) (f4 : FnV) (x6 : Int) (cx : List Cx) : Lp JJ := lpT (atT (rl63 n0 f0 s2 x3 n4 f4 x6) [false, false, false, false, false, true, false, true, true, false, false, false])
def lp63_2 (n0 : Nat) (f0 : FnV) (s2 : ByteArray) (x3 : Int) (n4 : Nat) (f4 : FnV) (x6 : Int) (cx : List Cx) : Lp JJ := lpT (atT (rl63 n0 f0 s2 x3 n4 f4 x6) [false, false, false, false, false, true, false, true, false, false, false])
def lp63_3 (n0 : Nat) (f0 : FnV) (s2 : ByteArray) (x3 : Int) (n4 : Nat) (f4 : FnV) (x6 : Int) (cx : List Cx) : Lp JJ := lpT (atT (rl63 n0 f0 s2 x3 n4 f4 x6) [false, false, false, false, false, true, false, false, false, false])
def lp63_4 (n0 : Nat) (f0 : FnV) (s2 : ByteArray) (x3 : Int) (n4 : Nat) (f4 : FnV) (x6 : Int) (cx : List Cx) : Lp JJ := lpT (atT (rdT ctB10 u0 (0, []) (lp63_0 n0 f0 s2 x3 n4 f4 x6 []) (inv63 n0 f0 s2 x3 n4 f4 x6 (.L0 (0 : Int) (fun _ => []))).1 (inv63 n0 f0 s2 x3 n4 f4 x6 (.L0 (0 : Int) (fun _ => []))).2.1 (inv63 n0 f0 s2 x3 n4 f4 x6 (.L0 (0 : Int) (fun _ => []))).2.2) [true, true])
def lp63_5 (n0 : Nat) (f0 : FnV) (s2 : ByteArray) (x3 : Int) (n4 : Nat) (f4 : FnV) (x6 : Int) (cx : List Cx) : Lp JJ := lpT (atT (rdT ctB10 u0 (1, []) (lp63_1 n0 f0 s2 x3 n4 f4 x6 []) (inv63 n0 f0 s2 x3 n4 f4 x6 (.L1 (0 : Int) (fun _ => []))).1 (inv63 n0 f0 s2 x3 n4 f4 x6 (.L1 (0 : Int) (fun _ => []))).2.1 (inv63 n0 f0 s2 x3 n4 f4 x6 (.L1 (0 : Int) (fun _ => []))).2.2) [true, true])
def lp63_6 (n0 : Nat) (f0 : FnV) (s2 : ByteArray) (x3 : Int) (n4 : Nat) (f4 : FnV) (x6 : Int) (cx : List Cx) : Lp JJ := lpT (atT (rdT ctB10 u0 (2, []) (lp63_2 n0 f0 s2 x3 n4 f4 x6 []) (inv63 n0 f0 s2 x3 n4 f4 x6 (.L2 (0 : Int) (fun _ => []))).1 (inv63 n0 f0 s2 x3 n4 f4 x6 (.L2 (0 : Int) (fun _ => []))).2.1 (inv63 n0 f0 s2 x3 n4 f4 x6 (.L2 (0 : Int) (fun _ => []))).2.2) [true, true])
def lp63_7 (n0 : Nat) (f0 : FnV) (s2 : ByteArray) (x3 : Int) (n4 : Nat) (f4 : FnV) (x6 : Int) (cx : List Cx) : Lp JJ := lpT (atT (rdT ctB10 u0 (3, []) (lp63_3 n0 f0 s2 x3 n4 f4 x6 []) (inv63 n0 f0 s2 x3 n4 f4 x6 (.L3 (0 : Int) (fun _ => []))).1 (inv63 n0 f0 s2 x3 n4 f4 x6 (.L3 (0 : Int) (fun _ => []))).2.1 (inv63 n0 f0 s2 x3 n4 f4 x6 (.L3 (0 : Int) (fun _ => []))).2.2) [true, true])
def lp63 (n0 : Nat) (f0 : FnV) (s2 : ByteArray) (x3 : Int) (n4 : Nat) (f4 : FnV) (x6 : Int) : JJ -> Lp JJ
  | (0, cx) => lp63_0 n0 f0 s2 x3 n4 f4 x6 cx
  | (1, cx) => lp63_1 n0 f0 s2 x3 n4 f4 x6 cx
  | (2, cx) => lp63_2 n0 f0 s2 x3 n4 f4 x6 cx
  | (3, cx) => lp63_3 n0 f0 s2 x3 n4 f4 x6 cx
  | (4, cx) => lp63_4 n0 f0 s2 x3 n4 f4 x6 cx
  | (5, cx) => lp63_5 n0 f0 s2 x3 n4 f4 x6 cx
  | (6, cx) => lp63_6 n0 f0 s2 x3 n4 f4 x6 cx
  | (7, cx) => lp63_7 n0 f0 s2 x3 n4 f4 x6 cx
  | (_, cx) => lp63_0 n0 f0 s2 x3 n4 f4 x6 cx
def D63 (n0 : Nat) (f0 : FnV) (s2 : ByteArray) (x3 : Int) (n4 : Nat) (f4 : FnV) (x6 : Int) : LD JJ S63 := ⟨id63, lp63 n0 f0 s2 x3 n4 f4 x6, inv63 n0 f0 s2 x3 n4 f4 x6⟩
def st63 (n0 : Nat) (f0 : FnV) (s2 : ByteArray) (x3 : Int) (n4 : Nat) (f4 : FnV) (x6 : Int) : S63 -> RT S63
  | .L0 i_100 f_101 => .br (decide (i_100 < (↑n4 : Int))) (.ob (decide (0 <= i_100 /\ i_100 < (↑n4 : Int) /\ n4 <= n4)) (.ob (decide (i_100.toNat < n4)) (.ob (decide (0 <= i64.wrap (i_100 - 1) /\ i64.wrap (i_100 - 1) < (↑n4 : Int) /\ n4 <= n4)) (.ob (decide ((i64.wrap (i_100 - 1)).toNat < n4)) (.br (iv (hdV (f_101 i_100.toNat)) == iv (hdV (f_101 (i64.wrap (i_100 - 1)).toNat)) && (iv (hdV (tlV (f_101 i_100.toNat))) == iv (hdV (tlV (f_101 (i64.wrap (i_100 - 1)).toNat))) && true)) (.ob (decide (0 <= i_100 /\ i_100 <= (↑n4 : Int))) (.enter [some (some 0), some (some 1), some (some 2)] (S63.L4 (1) (i_100.toNat) (n4 - i_100.toNat) (i_100) (iv (hdV (f_101 (i64.wrap (i_100 - 1)).toNat))) (iv (hdV (tlV (f_101 (i64.wrap (i_100 - 1)).toNat)))) ((i64.wrap (i_100 - 1)).toNat) (i64.wrap (i_100 - 1)) (iv (hdV (f_101 i_100.toNat))) (iv (hdV (tlV (f_101 i_100.toNat)))) (i_100) (elV tp2 f_101)) [⟨2, tp2, n4, elV tp2 f_101, vf_view rfl _ _⟩])) (.next [some (some 0), some (some 1), some (some 2)] (S63.L0 (i64.wrap (i_100 + 1)) (elV tp2 f_101)) [⟨2, tp2, n4, elV tp2 f_101, vf_view rfl _ _⟩])))))) (.asm (true = true -> n4 <= 9223372036854775807) (.br (decide ((↑n4 : Int) < (↑n4 : Int))) (.ret (vi 2)) (.obi (.obi (.asm ((x3 == 3) = true -> n4 <= 9223372036854775807) (.obi (.obi (.br (bif x3 == 3 then decide (2 < (↑n4 : Int)) else false) (.ret (vi 2)) (.ret (vi 0))))))))))
  | .L1 i_200 f_201 => .br (decide (i_200 < (↑n4 : Int))) (.ob (decide (0 <= i_200 /\ i_200 < (↑n4 : Int) /\ n4 <= n4)) (.ob (decide (i_200.toNat < n4)) (.ob (decide (0 <= i64.wrap (i_200 - 1) /\ i64.wrap (i_200 - 1) < (↑n4 : Int) /\ n4 <= n4)) (.ob (decide ((i64.wrap (i_200 - 1)).toNat < n4)) (.br (iv (hdV (f_201 i_200.toNat)) == iv (hdV (f_201 (i64.wrap (i_200 - 1)).toNat)) && (iv (hdV (tlV (f_201 i_200.toNat))) == iv (hdV (tlV (f_201 (i64.wrap (i_200 - 1)).toNat))) && true)) (.ob (decide (0 <= i_200 /\ i_200 <= (↑n4 : Int))) (.enter [some (some 0), some (some 1), some (some 2)] (S63.L5 (1) (i_200.toNat) (n4 - i_200.toNat) (i_200) (iv (hdV (f_201 (i64.wrap (i_200 - 1)).toNat))) (iv (hdV (tlV (f_201 (i64.wrap (i_200 - 1)).toNat)))) ((i64.wrap (i_200 - 1)).toNat) (i64.wrap (i_200 - 1)) (iv (hdV (f_201 i_200.toNat))) (iv (hdV (tlV (f_201 i_200.toNat)))) (i_200) (elV tp2 f_201)) [⟨2, tp2, n4, elV tp2 f_201, vf_view rfl _ _⟩])) (.next [some (some 0), some (some 1), some (some 2)] (S63.L1 (i64.wrap (i_200 + 1)) (elV tp2 f_201)) [⟨2, tp2, n4, elV tp2 f_201, vf_view rfl _ _⟩])))))) (.br (decide ((↑n4 : Int) < (↑n4 : Int))) (.ret (vi 2)) (.obi (.obi (.asm ((x3 == 3) = true -> n4 <= 9223372036854775807) (.obi (.obi (.br (bif x3 == 3 then decide (2 < (↑n4 : Int)) else false) (.ret (vi 2)) (.ret (vi 0)))))))))
  | .L2 i_300 f_301 => .br (decide (i_300 < (↑n4 : Int))) (.ob (decide (0 <= i_300 /\ i_300 < (↑n4 : Int) /\ n4 <= n4)) (.ob (decide (i_300.toNat < n4)) (.ob (decide (0 <= i64.wrap (i_300 - 1) /\ i64.wrap (i_300 - 1) < (↑n4 : Int) /\ n4 <= n4)) (.ob (decide ((i64.wrap (i_300 - 1)).toNat < n4)) (.br (iv (hdV (f_301 i_300.toNat)) == iv (hdV (f_301 (i64.wrap (i_300 - 1)).toNat)) && (iv (hdV (tlV (f_301 i_300.toNat))) == iv (hdV (tlV (f_301 (i64.wrap (i_300 - 1)).toNat))) && true)) (.ob (decide (0 <= i_300 /\ i_300 <= (↑n4 : Int))) (.enter [some (some 0), some (some 1), some (some 2)] (S63.L6 (1) (i_300.toNat) (n4 - i_300.toNat) (i_300) (iv (hdV (f_301 (i64.wrap (i_300 - 1)).toNat))) (iv (hdV (tlV (f_301 (i64.wrap (i_300 - 1)).toNat)))) ((i64.wrap (i_300 - 1)).toNat) (i64.wrap (i_300 - 1)) (iv (hdV (f_301 i_300.toNat))) (iv (hdV (tlV (f_301 i_300.toNat)))) (i_300) (elV tp2 f_301)) [⟨2, tp2, n4, elV tp2 f_301, vf_view rfl _ _⟩])) (.next [some (some 0), some (some 1), some (some 2)] (S63.L2 (i64.wrap (i_300 + 1)) (elV tp2 f_301)) [⟨2, tp2, n4, elV tp2 f_301, vf_view rfl _ _⟩])))))) (.br (decide ((↑n4 : Int) < (↑n4 : Int))) (.ret (vi 2)) (.obi (.obi (.asm ((x3 == 3) = true -> n4 <= 9223372036854775807) (.obi (.obi (.br (bif x3 == 3 then decide (2 < (↑n4 : Int)) else false) (.ret (vi 2)) (.ret (vi 0)))))))))
  | .L3 i_400 f_401 => .br (decide (i_400 < (↑n4 : Int))) (.ob (decide (0 <= i_400 /\ i_400 < (↑n4 : Int) /\ n4 <= n4)) (.ob (decide (i_400.toNat < n4)) (.ob (decide (0 <= i64.wrap (i_400 - 1) /\ i64.wrap (i_400 - 1) < (↑n4 : Int) /\ n4 <= n4)) (.ob (decide ((i64.wrap (i_400 - 1)).toNat < n4)) (.br (iv (hdV (f_401 i_400.toNat)) == iv (hdV (f_401 (i64.wrap (i_400 - 1)).toNat)) && (iv (hdV (tlV (f_401 i_400.toNat))) == iv (hdV (tlV (f_401 (i64.wrap (i_400 - 1)).toNat))) && true)) (.ob (decide (0 <= i_400 /\ i_400 <= (↑n4 : Int))) (.enter [some (some 0), some (some 1), some (some 2)] (S63.L7 (1) (i_400.toNat) (n4 - i_400.toNat) (i_400) (iv (hdV (f_401 (i64.wrap (i_400 - 1)).toNat))) (iv (hdV (tlV (f_401 (i64.wrap (i_400 - 1)).toNat)))) ((i64.wrap (i_400 - 1)).toNat) (i64.wrap (i_400 - 1)) (iv (hdV (f_401 i_400.toNat))) (iv (hdV (tlV (f_401 i_400.toNat)))) (i_400) (elV tp2 f_401)) [⟨2, tp2, n4, elV tp2 f_401, vf_view rfl _ _⟩])) (.next [some (some 0), some (some 1), some (some 2)] (S63.L3 (i64.wrap (i_400 + 1)) (elV tp2 f_401)) [⟨2, tp2, n4, elV tp2 f_401, vf_view rfl _ _⟩])))))) (.br (decide ((↑n4 : Int) < (↑n4 : Int))) (.ret (vi 2)) (.obi (.obi (.asm ((x3 == 3) = true -> n4 <= 9223372036854775807) (.obi (.obi (.br (bif x3 == 3 then decide (2 < (↑n4 : Int)) else false) (.ret (vi 2)) (.ret (vi 0)))))))))
  | .L4 i_500 n_501 n_502 i_503 i_504 i_505 n_506 i_507 i_508 i_509 i_510 f_511 => .br (decide (i_500 < (↑n_502 : Int))) (.ob (decide (0 <= i_500 /\ i_500 < (↑n_502 : Int) /\ n_501 + n_502 <= n4)) (.ob (decide (n_501 + i_500.toNat < n4)) (.ob (decide (0 <= i64.wrap (i_500 - 1) /\ i64.wrap (i_500 - 1) < (↑n_502 : Int) /\ n_501 + n_502 <= n4)) (.ob (decide (n_501 + (i64.wrap (i_500 - 1)).toNat < n4)) (.br (!(iv (hdV (f_511 (n_501 + i_500.toNat))) == iv (hdV (f_511 (n_501 + (i64.wrap (i_500 - 1)).toNat))) && (iv (hdV (tlV (f_511 (n_501 + i_500.toNat)))) == iv (hdV (tlV (f_511 (n_501 + (i64.wrap (i_500 - 1)).toNat)))) && true))) (.ob (decide (0 <= i_500 /\ i_500 < (↑n_502 : Int) /\ n_501 + n_502 <= n4)) (.ob (decide (n_501 + i_500.toNat < n4)) (.ob (decide (0 <= i_510 /\ i_510 < (↑n4 : Int) /\ n4 <= n4)) (.ob (decide (i_510.toNat < n4)) (.next [some (some 0), some (some 1), some (some 2)] (S63.L4 (i64.wrap (i_500 + 1)) (n_501) (n_502) (i_503) (i_504) (i_505) (n_506) (i_507) (i_508) (i_509) (i64.wrap (i_510 + 1)) (fun i' => bif i'.beq i_510.toNat then [vi (iv (hdV (f_511 (n_501 + i_500.toNat)))), vi (iv (hdV (tlV (f_511 (n_501 + i_500.toNat)))))] else elV tp2 f_511 i')) [⟨2, tp2, n4, fun i' => bif i'.beq i_510.toNat then [vi (iv (hdV (f_511 (n_501 + i_500.toNat)))), vi (iv (hdV (tlV (f_511 (n_501 + i_500.toNat)))))] else elV tp2 f_511 i', vf_set rfl (vf_view rfl _ _) rfl⟩]))))) (.next [some (some 0), some (some 1), some (some 2)] (S63.L4 (i64.wrap (i_500 + 1)) (n_501) (n_502) (i_503) (i_504) (i_505) (n_506) (i_507) (i_508) (i_509) (i_510) (elV tp2 f_511)) [⟨2, tp2, n4, elV tp2 f_511, vf_view rfl _ _⟩])))))) (.ob (decide (0 <= i_510 /\ i_510 <= (↑n4 : Int))) (.ob (decide (0 < n4 - i_510.toNat /\ i_510.toNat + (n4 - i_510.toNat) <= n4)) (.ob (decide (0 <= i_510 /\ i_510 <= (↑n4 : Int))) (.asm (true = true -> n4 <= 9223372036854775807) (.br (decide ((↑i_510.toNat : Int) < (↑n4 : Int))) (.ret (vi 2)) (.obi (.obi (.asm ((x3 == 3) = true -> n4 <= 9223372036854775807) (.obi (.obi (.br (bif x3 == 3 then decide (2 < (↑n4 : Int)) else false) (.ret (vi 2)) (.ret (vi 0)))))))))))))
  | .L5 i_600 n_601 n_602 i_603 i_604 i_605 n_606 i_607 i_608 i_609 i_610 f_611 => .br (decide (i_600 < (↑n_602 : Int))) (.ob (decide (0 <= i_600 /\ i_600 < (↑n_602 : Int) /\ n_601 + n_602 <= n4)) (.ob (decide (n_601 + i_600.toNat < n4)) (.ob (decide (0 <= i64.wrap (i_600 - 1) /\ i64.wrap (i_600 - 1) < (↑n_602 : Int) /\ n_601 + n_602 <= n4)) (.ob (decide (n_601 + (i64.wrap (i_600 - 1)).toNat < n4)) (.br (!(iv (hdV (f_611 (n_601 + i_600.toNat))) == iv (hdV (f_611 (n_601 + (i64.wrap (i_600 - 1)).toNat))) && (iv (hdV (tlV (f_611 (n_601 + i_600.toNat)))) == iv (hdV (tlV (f_611 (n_601 + (i64.wrap (i_600 - 1)).toNat)))) && true))) (.ob (decide (0 <= i_600 /\ i_600 < (↑n_602 : Int) /\ n_601 + n_602 <= n4)) (.ob (decide (n_601 + i_600.toNat < n4)) (.ob (decide (0 <= i_610 /\ i_610 < (↑n4 : Int) /\ n4 <= n4)) (.ob (decide (i_610.toNat < n4)) (.next [some (some 0), some (some 1), some (some 2)] (S63.L5 (i64.wrap (i_600 + 1)) (n_601) (n_602) (i_603) (i_604) (i_605) (n_606) (i_607) (i_608) (i_609) (i64.wrap (i_610 + 1)) (fun i' => bif i'.beq i_610.toNat then [vi (iv (hdV (f_611 (n_601 + i_600.toNat)))), vi (iv (hdV (tlV (f_611 (n_601 + i_600.toNat)))))] else elV tp2 f_611 i')) [⟨2, tp2, n4, fun i' => bif i'.beq i_610.toNat then [vi (iv (hdV (f_611 (n_601 + i_600.toNat)))), vi (iv (hdV (tlV (f_611 (n_601 + i_600.toNat)))))] else elV tp2 f_611 i', vf_set rfl (vf_view rfl _ _) rfl⟩]))))) (.next [some (some 0), some (some 1), some (some 2)] (S63.L5 (i64.wrap (i_600 + 1)) (n_601) (n_602) (i_603) (i_604) (i_605) (n_606) (i_607) (i_608) (i_609) (i_610) (elV tp2 f_611)) [⟨2, tp2, n4, elV tp2 f_611, vf_view rfl _ _⟩])))))) (.ob (decide (0 <= i_610 /\ i_610 <= (↑n4 : Int))) (.ob (decide (0 < n4 - i_610.toNat /\ i_610.toNat + (n4 - i_610.toNat) <= n4)) (.ob (decide (0 <= i_610 /\ i_610 <= (↑n4 : Int))) (.br (decide ((↑i_610.toNat : Int) < (↑n4 : Int))) (.ret (vi 2)) (.obi (.obi (.asm ((x3 == 3) = true -> n4 <= 9223372036854775807) (.obi (.obi (.br (bif x3 == 3 then decide (2 < (↑n4 : Int)) else false) (.ret (vi 2)) (.ret (vi 0))))))))))))
  | .L6 i_700 n_701 n_702 i_703 i_704 i_705 n_706 i_707 i_708 i_709 i_710 f_711 => .br (decide (i_700 < (↑n_702 : Int))) (.ob (decide (0 <= i_700 /\ i_700 < (↑n_702 : Int) /\ n_701 + n_702 <= n4)) (.ob (decide (n_701 + i_700.toNat < n4)) (.ob (decide (0 <= i64.wrap (i_700 - 1) /\ i64.wrap (i_700 - 1) < (↑n_702 : Int) /\ n_701 + n_702 <= n4)) (.ob (decide (n_701 + (i64.wrap (i_700 - 1)).toNat < n4)) (.br (!(iv (hdV (f_711 (n_701 + i_700.toNat))) == iv (hdV (f_711 (n_701 + (i64.wrap (i_700 - 1)).toNat))) && (iv (hdV (tlV (f_711 (n_701 + i_700.toNat)))) == iv (hdV (tlV (f_711 (n_701 + (i64.wrap (i_700 - 1)).toNat)))) && true))) (.ob (decide (0 <= i_700 /\ i_700 < (↑n_702 : Int) /\ n_701 + n_702 <= n4)) (.ob (decide (n_701 + i_700.toNat < n4)) (.ob (decide (0 <= i_710 /\ i_710 < (↑n4 : Int) /\ n4 <= n4)) (.ob (decide (i_710.toNat < n4)) (.next [some (some 0), some (some 1), some (some 2)] (S63.L6 (i64.wrap (i_700 + 1)) (n_701) (n_702) (i_703) (i_704) (i_705) (n_706) (i_707) (i_708) (i_709) (i64.wrap (i_710 + 1)) (fun i' => bif i'.beq i_710.toNat then [vi (iv (hdV (f_711 (n_701 + i_700.toNat)))), vi (iv (hdV (tlV (f_711 (n_701 + i_700.toNat)))))] else elV tp2 f_711 i')) [⟨2, tp2, n4, fun i' => bif i'.beq i_710.toNat then [vi (iv (hdV (f_711 (n_701 + i_700.toNat)))), vi (iv (hdV (tlV (f_711 (n_701 + i_700.toNat)))))] else elV tp2 f_711 i', vf_set rfl (vf_view rfl _ _) rfl⟩]))))) (.next [some (some 0), some (some 1), some (some 2)] (S63.L6 (i64.wrap (i_700 + 1)) (n_701) (n_702) (i_703) (i_704) (i_705) (n_706) (i_707) (i_708) (i_709) (i_710) (elV tp2 f_711)) [⟨2, tp2, n4, elV tp2 f_711, vf_view rfl _ _⟩])))))) (.ob (decide (0 <= i_710 /\ i_710 <= (↑n4 : Int))) (.ob (decide (0 < n4 - i_710.toNat /\ i_710.toNat + (n4 - i_710.toNat) <= n4)) (.ob (decide (0 <= i_710 /\ i_710 <= (↑n4 : Int))) (.br (decide ((↑i_710.toNat : Int) < (↑n4 : Int))) (.ret (vi 2)) (.obi (.obi (.asm ((x3 == 3) = true -> n4 <= 9223372036854775807) (.obi (.obi (.br (bif x3 == 3 then decide (2 < (↑n4 : Int)) else false) (.ret (vi 2)) (.ret (vi 0))))))))))))
  | .L7 i_800 n_801 n_802 i_803 i_804 i_805 n_806 i_807 i_808 i_809 i_810 f_811 => .br (decide (i_800 < (↑n_802 : Int))) (.ob (decide (0 <= i_800 /\ i_800 < (↑n_802 : Int) /\ n_801 + n_802 <= n4)) (.ob (decide (n_801 + i_800.toNat < n4)) (.ob (decide (0 <= i64.wrap (i_800 - 1) /\ i64.wrap (i_800 - 1) < (↑n_802 : Int) /\ n_801 + n_802 <= n4)) (.ob (decide (n_801 + (i64.wrap (i_800 - 1)).toNat < n4)) (.br (!(iv (hdV (f_811 (n_801 + i_800.toNat))) == iv (hdV (f_811 (n_801 + (i64.wrap (i_800 - 1)).toNat))) && (iv (hdV (tlV (f_811 (n_801 + i_800.toNat)))) == iv (hdV (tlV (f_811 (n_801 + (i64.wrap (i_800 - 1)).toNat)))) && true))) (.ob (decide (0 <= i_800 /\ i_800 < (↑n_802 : Int) /\ n_801 + n_802 <= n4)) (.ob (decide (n_801 + i_800.toNat < n4)) (.ob (decide (0 <= i_810 /\ i_810 < (↑n4 : Int) /\ n4 <= n4)) (.ob (decide (i_810.toNat < n4)) (.next [some (some 0), some (some 1), some (some 2)] (S63.L7 (i64.wrap (i_800 + 1)) (n_801) (n_802) (i_803) (i_804) (i_805) (n_806) (i_807) (i_808) (i_809) (i64.wrap (i_810 + 1)) (fun i' => bif i'.beq i_810.toNat then [vi (iv (hdV (f_811 (n_801 + i_800.toNat)))), vi (iv (hdV (tlV (f_811 (n_801 + i_800.toNat)))))] else elV tp2 f_811 i')) [⟨2, tp2, n4, fun i' => bif i'.beq i_810.toNat then [vi (iv (hdV (f_811 (n_801 + i_800.toNat)))), vi (iv (hdV (tlV (f_811 (n_801 + i_800.toNat)))))] else elV tp2 f_811 i', vf_set rfl (vf_view rfl _ _) rfl⟩]))))) (.next [some (some 0), some (some 1), some (some 2)] (S63.L7 (i64.wrap (i_800 + 1)) (n_801) (n_802) (i_803) (i_804) (i_805) (n_806) (i_807) (i_808) (i_809) (i_810) (elV tp2 f_811)) [⟨2, tp2, n4, elV tp2 f_811, vf_view rfl _ _⟩])))))) (.ob (decide (0 <= i_810 /\ i_810 <= (↑n4 : Int))) (.ob (decide (0 < n4 - i_810.toNat /\ i_810.toNat + (n4 - i_810.toNat) <= n4)) (.ob (decide (0 <= i_810 /\ i_810 <= (↑n4 : Int))) (.br (decide ((↑i_810.toNat : Int) < (↑n4 : Int))) (.ret (vi 2)) (.obi (.obi (.asm ((x3 == 3) = true -> n4 <= 9223372036854775807) (.obi (.obi (.br (bif x3 == 3 then decide (2 < (↑n4 : Int)) else false) (.ret (vi 2)) (.ret (vi 0))))))))))))
def m63 (n0 : Nat) (f0 : FnV) (s2 : ByteArray) (x3 : Int) (n4 : Nat) (f4 : FnV) (x6 : Int) : RT S63 := .obp (s2.size <= (9223372036854775807 : Nat)) (.obt (.br (!F114_0 s2) (.ret (vi 6)) (.obc (.obt (.br (F90_0 n0 (elV tyR f0) s2) (.ret (vi 5)) (.obc (.obt (.br (F86_0 x3 0 3) (.ret (vi 2)) (.asm (true = true -> n4 <= 9223372036854775807) (.br (decide ((↑n4 : Int) < 2)) (.ret (vi 4)) (.asm (true = true -> n4 <= 9223372036854775807) (.br (decide (8 < (↑n4 : Int))) (.ret (vi 3)) (.obc (.obt (.obi (.br (!F115_0 n4 (elV tp2 f4)) (.ob (!F115_0 n4 (elV tp2 f4)) (.obc (.obt (.br (F86_0 x6 100 30000) (.ret (vi 7)) (.und (.und (.und (.asm (n4 = 0) (.und (.brt (.asm (true = true -> n4 <= 9223372036854775807) (.br (decide (0 < (↑n4 : Int))) (.ret (vi 2)) (.obi (.obi (.asm ((x3 == 3) = true -> n4 <= 9223372036854775807) (.obi (.obi (.br (bif x3 == 3 then decide (2 < (↑n4 : Int)) else false) (.ret (vi 2)) (.ret (vi 0))))))))))) (.asm (true = true -> n4 <= 9223372036854775807) (.brt (.br (decide (0 < (↑n4 : Int))) (.ret (vi 2)) (.obi (.obi (.asm ((x3 == 3) = true -> n4 <= 9223372036854775807) (.obi (.obi (.br (bif x3 == 3 then decide (2 < (↑n4 : Int)) else false) (.ret (vi 2)) (.ret (vi 0))))))))))))) (.obv (allB n4 fun i => okE 2 (elV tp2 f4 i)) (allB_el rfl _ _) (.ob (decide (n4 * 16 <= 140737488355328) && !Nat.beq 16 0) (.und (.br (decide ((↑n4 : Int) < 2)) (.asm (true = true -> n4 <= 9223372036854775807) (.br (decide ((↑n4 : Int) < (↑n4 : Int))) (.ret (vi 2)) (.obi (.obi (.asm ((x3 == 3) = true -> n4 <= 9223372036854775807) (.obi (.obi (.br (bif x3 == 3 then decide (2 < (↑n4 : Int)) else false) (.ret (vi 2)) (.ret (vi 0)))))))))) (.enter [some (some 0), some (some 1), some (some 2)] (S63.L0 (1) (elV tp2 f4)) [⟨2, tp2, n4, elV tp2 f4, vf_view rfl _ _⟩])) (.asm (true = true -> n4 <= 9223372036854775807) (.br (decide ((↑n4 : Int) < 2)) (.br (decide ((↑n4 : Int) < (↑n4 : Int))) (.ret (vi 2)) (.obi (.obi (.asm ((x3 == 3) = true -> n4 <= 9223372036854775807) (.obi (.obi (.br (bif x3 == 3 then decide (2 < (↑n4 : Int)) else false) (.ret (vi 2)) (.ret (vi 0))))))))) (.enter [some (some 0), some (some 1), some (some 2)] (S63.L1 (1) (elV tp2 f4)) [⟨2, tp2, n4, elV tp2 f4, vf_view rfl _ _⟩]))))))) (.asm (true = true -> n4 <= 9223372036854775807) (.und (.asm (n4 = 0) (.brt (.br (decide (0 < (↑n4 : Int))) (.ret (vi 2)) (.obi (.obi (.asm ((x3 == 3) = true -> n4 <= 9223372036854775807) (.obi (.obi (.br (bif x3 == 3 then decide (2 < (↑n4 : Int)) else false) (.ret (vi 2)) (.ret (vi 0))))))))))) (.obv (allB n4 fun i => okE 2 (elV tp2 f4 i)) (allB_el rfl _ _) (.ob (decide (n4 * 16 <= 140737488355328) && !Nat.beq 16 0) (.br (decide ((↑n4 : Int) < 2)) (.br (decide ((↑n4 : Int) < (↑n4 : Int))) (.ret (vi 2)) (.obi (.obi (.asm ((x3 == 3) = true -> n4 <= 9223372036854775807) (.obi (.obi (.br (bif x3 == 3 then decide (2 < (↑n4 : Int)) else false) (.ret (vi 2)) (.ret (vi 0))))))))) (.enter [some (some 0), some (some 1), some (some 2)] (S63.L2 (1) (elV tp2 f4)) [⟨2, tp2, n4, elV tp2 f4, vf_view rfl _ _⟩]))))))) (.asm (true = true -> n4 <= 9223372036854775807) (.und (.asm (n4 = 0) (.brt (.br (decide (0 < (↑n4 : Int))) (.ret (vi 2)) (.obi (.obi (.asm ((x3 == 3) = true -> n4 <= 9223372036854775807) (.obi (.obi (.br (bif x3 == 3 then decide (2 < (↑n4 : Int)) else false) (.ret (vi 2)) (.ret (vi 0))))))))))) (.obv (allB n4 fun i => okE 2 (elV tp2 f4 i)) (allB_el rfl _ _) (.ob (decide (n4 * 16 <= 140737488355328) && !Nat.beq 16 0) (.br (decide ((↑n4 : Int) < 2)) (.br (decide ((↑n4 : Int) < (↑n4 : Int))) (.ret (vi 2)) (.obi (.obi (.asm ((x3 == 3) = true -> n4 <= 9223372036854775807) (.obi (.obi (.br (bif x3 == 3 then decide (2 < (↑n4 : Int)) else false) (.ret (vi 2)) (.ret (vi 0))))))))) (.enter [some (some 0), some (some 1), some (some 2)] (S63.L3 (1) (elV tp2 f4)) [⟨2, tp2, n4, elV tp2 f4, vf_view rfl _ _⟩]))))))))))) (.ret (vi 7))))))))))))))))))
theorem run63 (n0 : Nat) (f0 : FnV) (s2 : ByteArray) (x3 : Int) (n4 : Nat) (f4 : FnV) (x6 : Int) : Fits ctB10 u0 (D63 n0 f0 s2 x3 n4 f4 x6) (rl63 n0 f0 s2 x3 n4 f4 x6) (m63 n0 f0 s2 x3 n4 f4 x6) (st63 n0 f0 s2 x3 n4 f4 x6) := ⟨⟨by kernel_rfl, by kernel_rfl⟩, fun s => match s with | .L0 i_100 f_101 => ⟨by kernel_rfl, by kernel_rfl⟩ | .L1 i_200 f_201 => ⟨by kernel_rfl, by kernel_rfl⟩ | .L2 i_300 f_301 => ⟨by kernel_rfl, by kernel_rfl⟩ | .L3 i_400 f_401 => ⟨by kernel_rfl, by kernel_rfl⟩ | .L4 i_500 n_501 n_502 i_503 i_504 i_505 n_506 i_507 i_508 i_509 i_510 f_511 => ⟨by kernel_rfl, by kernel_rfl⟩ | .L5 i_600 n_601 n_602 i_603 i_604 i_605 n_606 i_607 i_608 i_609 i_610 f_611 => ⟨by kernel_rfl, by kernel_rfl⟩ | .L6 i_700 n_701 n_702 i_703 i_704 i_705 n_706 i_707 i_708 i_709 i_710 f_711 => ⟨by kernel_rfl, by kernel_rfl⟩ | .L7 i_800 n_801 n_802 i_803 i_804 i_805 n_806 i_807 i_808 i_809 i_810 f_811 => ⟨by kernel_rfl, by kernel_rfl⟩⟩
def eqP (f : Nat -> List V) (i j : Nat) : Bool := iv (hdV (f i)) == iv (hdV (f j)) && (iv (hdV (tlV (f i))) == iv (hdV (tlV (f j))) && true)
def adjP (n : Nat) (f : Nat -> List V) : Bool := exB n fun i => decide (0 < i) && eqP f i (i - 1)
def tail63 (x3 : Int) (n4 : Nat) : Int := bif bif x3 == 3 then decide (2 < (n4 : Int)) else false then 2 else 0
def F63 (n0 : Nat) (f0 : FnV) (s2 : ByteArray) (x3 : Int) (n4 : Nat) (f4 : FnV) (x6 : Int) : Int := bif !F114_0 s2 then 6 else bif F90_0 n0 f0 s2 then 5 else bif F86_0 x3 0 3 then 2 else bif decide ((n4 : Int) < 2) then 4 else bif decide (8 < (n4 : Int)) then 3 else bif !!F115_0 n4 f4 then 7 else bif F86_0 x6 100 30000 then 7 else bif adjP n4 f4 then 2 else tail63 x3 n4
theorem tail63_ev {S : Type} {Nx : S -> V -> Prop} {x3 : Int} {n4 : Nat} {q : Prop} : evR Nx (.obi (.obi (.asm q (.obi (.obi (.br (bif x3 == 3 then decide (2 < (n4 : Int)) else false) (.ret (.int .i64 2)) (.ret (.int .i64 0)))))))) (.int .i64 (tail63 x3 n4)) := by
  refine evObi (evObi (evAsm fun _ => evObi (evObi (evBr (fun h => evRet ?_) (fun h => evRet ?_))))) <;> (unfold tail63; rw [h]; rfl)
theorem c63_4 (n0 : Nat) (f0 : FnV) (s2 : ByteArray) (x3 : Int) (n4 : Nat) (f4 : FnV) (x6 : Int) (h8 : n4 <= 8) (k0 : Nat) (hk : 1 <= k0) (hk' : k0 < n4) (t1 t2 t3 : Int) (t4 : Nat) (t5 t6 t7 : Int) : ∀ k2 : Nat, k2 <= n4 - k0 -> 1 <= k2 -> ∀ (k : Nat) (f : Nat -> List V), k + 1 <= k0 + k2 -> Ev (st63 n0 f0 s2 x3 n4 f4 x6) (.L4 k2 k0 (n4 - k0) t1 t2 t3 t4 t5 t6 t7 k f) (.int .i64 2) := by
  refine up_ind fun k2 hk2 ih h1 k f hkk => Ev.of rfl ?_
  have w1 : i64.wrap ((k2 : Int) - 1) = ((k2 - 1 : Nat) : Int) := by rw [wrapI (by omega) (by omega)]; omega
  have w2 : i64.wrap ((k2 : Int) + 1) = ((k2 + 1 : Nat) : Int) := by rw [wrapI (by omega) (by omega)]; omega
  have w3 : i64.wrap ((k : Int) + 1) = ((k + 1 : Nat) : Int) := by rw [wrapI (by omega) (by omega)]; omega
  refine evBr (fun h => ?_) (fun h => ?_)
  · have hlt : k2 < n4 - k0 := by have := of_decide_eq_true h; omega
    refine evOb (decide_eq_true (by omega)) (evOb (decide_eq_true (by omega)) (evOb (decide_eq_true (by rw [w1]; omega)) (evOb (decide_eq_true (by rw [w1]; omega)) (evBr (fun _ => ?_) (fun _ => ?_)))))
    · refine evOb (decide_eq_true (by omega)) (evOb (decide_eq_true (by omega)) (evOb (decide_eq_true (by omega)) (evOb (decide_eq_true (by omega)) (evNext ?_))))
      rw [w2, w3]
      exact ih hlt (by omega) (k + 1) _ (by omega)
    · refine evNext ?_
      rw [w2]
      exact ih hlt (by omega) k _ (by omega)
  · have hge : ¬ k2 < n4 - k0 := by have := of_decide_eq_false h; omega
    refine evOb (decide_eq_true (by omega)) (evOb (decide_eq_true (by omega)) (evOb (decide_eq_true (by omega)) ?_))
    try refine evAsm fun _ => ?_
    exact evBrT (decide_eq_true (by omega)) (evRet rfl)
theorem c63_0 (n0 : Nat) (f0 : FnV) (s2 : ByteArray) (x3 : Int) (n4 : Nat) (f4 : FnV) (x6 : Int) (h8 : n4 <= 8) (h2 : 2 <= n4) : ∀ i : Nat, i <= n4 -> 1 <= i -> (∀ j, j < i -> (decide (0 < j) && eqP f4 j (j - 1)) = false) -> ∀ f : Nat -> List V, (∀ i j, eqP f i j = eqP f4 i j) -> Ev (st63 n0 f0 s2 x3 n4 f4 x6) (.L0 i f) (.int .i64 (bif adjP n4 f4 then 2 else tail63 x3 n4)) := by
  refine up_ind fun i hi ih h1 hj f hf => Ev.of rfl ?_
  have w1 : i64.wrap ((i : Int) - 1) = ((i - 1 : Nat) : Int) := by rw [wrapI (by omega) (by omega)]; omega
  have w2 : i64.wrap ((i : Int) + 1) = ((i + 1 : Nat) : Int) := by rw [wrapI (by omega) (by omega)]; omega
  refine evBr (fun h => ?_) (fun h => ?_)
  · have hlt : i < n4 := by have := of_decide_eq_true h; omega
    refine evOb (decide_eq_true (by omega)) (evOb (decide_eq_true (by omega)) (evOb (decide_eq_true (by rw [w1]; omega)) (evOb (decide_eq_true (by rw [w1]; omega)) (evBr (fun hb => ?_) (fun hb => ?_)))))
    · have hb' : eqP f4 i (i - 1) = true := by
        rw [← hf]; rw [w1] at hb; simpa only [Int.toNat_natCast, eqP] using hb
      rw [show adjP n4 f4 = true from exB_true i hlt (by rw [hb']; simp; omega), cond_true]
      refine evOb (decide_eq_true (by omega)) (evEnter ?_)
      have := c63_4 n0 f0 s2 x3 n4 f4 x6 h8 i h1 hlt
      simp only [Int.toNat_natCast]
      exact this _ _ _ _ _ _ _ 1 (by omega) (by omega) i _ (by omega)
    · have hb' : eqP f4 i (i - 1) = false := by
        rw [← hf]; rw [w1] at hb; simpa only [Int.toNat_natCast, eqP] using hb
      refine evNext ?_
      rw [w2]
      refine ih hlt (by omega) (fun j h3 => ?_) _ (fun a b => hf a b)
      by_cases e : j = i
      · subst e; rw [hb', Bool.and_false]
      · exact hj j (by omega)
  · have : i = n4 := by have := of_decide_eq_false h; omega
    subst this
    rw [show adjP i f4 = false from exB_false hj, cond_false]
    try refine evAsm fun _ => ?_
    exact evBrGe tail63_ev
theorem c63_0' (n0 : Nat) (f0 : FnV) (s2 : ByteArray) (x3 : Int) (n4 : Nat) (f4 : FnV) (x6 : Int) (h8 : n4 <= 8) (h2 : 2 <= n4) (f : Nat -> List V) (hf : ∀ i j, eqP f i j = eqP f4 i j) : Ev (st63 n0 f0 s2 x3 n4 f4 x6) (.L0 1 f) (.int .i64 (bif adjP n4 f4 then 2 else tail63 x3 n4)) := c63_0 n0 f0 s2 x3 n4 f4 x6 h8 h2 1 (by omega) (Nat.le_refl _) (fun j hj => by
  have : j = 0 := by omega
  subst this; rfl) f hf
theorem c63_5 (n0 : Nat) (f0 : FnV) (s2 : ByteArray) (x3 : Int) (n4 : Nat) (f4 : FnV) (x6 : Int) (h8 : n4 <= 8) (k0 : Nat) (hk : 1 <= k0) (hk' : k0 < n4) (t1 t2 t3 : Int) (t4 : Nat) (t5 t6 t7 : Int) : ∀ k2 : Nat, k2 <= n4 - k0 -> 1 <= k2 -> ∀ (k : Nat) (f : Nat -> List V), k + 1 <= k0 + k2 -> Ev (st63 n0 f0 s2 x3 n4 f4 x6) (.L5 k2 k0 (n4 - k0) t1 t2 t3 t4 t5 t6 t7 k f) (.int .i64 2) := by
  refine up_ind fun k2 hk2 ih h1 k f hkk => Ev.of rfl ?_
  have w1 : i64.wrap ((k2 : Int) - 1) = ((k2 - 1 : Nat) : Int) := by rw [wrapI (by omega) (by omega)]; omega
  have w2 : i64.wrap ((k2 : Int) + 1) = ((k2 + 1 : Nat) : Int) := by rw [wrapI (by omega) (by omega)]; omega
  have w3 : i64.wrap ((k : Int) + 1) = ((k + 1 : Nat) : Int) := by rw [wrapI (by omega) (by omega)]; omega
  refine evBr (fun h => ?_) (fun h => ?_)
  · have hlt : k2 < n4 - k0 := by have := of_decide_eq_true h; omega
    refine evOb (decide_eq_true (by omega)) (evOb (decide_eq_true (by omega)) (evOb (decide_eq_true (by rw [w1]; omega)) (evOb (decide_eq_true (by rw [w1]; omega)) (evBr (fun _ => ?_) (fun _ => ?_)))))
    · refine evOb (decide_eq_true (by omega)) (evOb (decide_eq_true (by omega)) (evOb (decide_eq_true (by omega)) (evOb (decide_eq_true (by omega)) (evNext ?_))))
      rw [w2, w3]
      exact ih hlt (by omega) (k + 1) _ (by omega)
    · refine evNext ?_
      rw [w2]
      exact ih hlt (by omega) k _ (by omega)
  · have hge : ¬ k2 < n4 - k0 := by have := of_decide_eq_false h; omega
    refine evOb (decide_eq_true (by omega)) (evOb (decide_eq_true (by omega)) (evOb (decide_eq_true (by omega)) ?_))
    try refine evAsm fun _ => ?_
    exact evBrT (decide_eq_true (by omega)) (evRet rfl)
theorem c63_1 (n0 : Nat) (f0 : FnV) (s2 : ByteArray) (x3 : Int) (n4 : Nat) (f4 : FnV) (x6 : Int) (h8 : n4 <= 8) (h2 : 2 <= n4) : ∀ i : Nat, i <= n4 -> 1 <= i -> (∀ j, j < i -> (decide (0 < j) && eqP f4 j (j - 1)) = false) -> ∀ f : Nat -> List V, (∀ i j, eqP f i j = eqP f4 i j) -> Ev (st63 n0 f0 s2 x3 n4 f4 x6) (.L1 i f) (.int .i64 (bif adjP n4 f4 then 2 else tail63 x3 n4)) := by
  refine up_ind fun i hi ih h1 hj f hf => Ev.of rfl ?_
  have w1 : i64.wrap ((i : Int) - 1) = ((i - 1 : Nat) : Int) := by rw [wrapI (by omega) (by omega)]; omega
  have w2 : i64.wrap ((i : Int) + 1) = ((i + 1 : Nat) : Int) := by rw [wrapI (by omega) (by omega)]; omega
  refine evBr (fun h => ?_) (fun h => ?_)
  · have hlt : i < n4 := by have := of_decide_eq_true h; omega
    refine evOb (decide_eq_true (by omega)) (evOb (decide_eq_true (by omega)) (evOb (decide_eq_true (by rw [w1]; omega)) (evOb (decide_eq_true (by rw [w1]; omega)) (evBr (fun hb => ?_) (fun hb => ?_)))))
    · have hb' : eqP f4 i (i - 1) = true := by
        rw [← hf]; rw [w1] at hb; simpa only [Int.toNat_natCast, eqP] using hb
      rw [show adjP n4 f4 = true from exB_true i hlt (by rw [hb']; simp; omega), cond_true]
      refine evOb (decide_eq_true (by omega)) (evEnter ?_)
      have := c63_5 n0 f0 s2 x3 n4 f4 x6 h8 i h1 hlt
      simp only [Int.toNat_natCast]
      exact this _ _ _ _ _ _ _ 1 (by omega) (by omega) i _ (by omega)
    · have hb' : eqP f4 i (i - 1) = false := by
        rw [← hf]; rw [w1] at hb; simpa only [Int.toNat_natCast, eqP] using hb
      refine evNext ?_
      rw [w2]
      refine ih hlt (by omega) (fun j h3 => ?_) _ (fun a b => hf a b)
      by_cases e : j = i
      · subst e; rw [hb', Bool.and_false]
      · exact hj j (by omega)
  · have : i = n4 := by have := of_decide_eq_false h; omega
    subst this
    rw [show adjP i f4 = false from exB_false hj, cond_false]
    try refine evAsm fun _ => ?_
    exact evBrGe tail63_ev
theorem c63_1' (n0 : Nat) (f0 : FnV) (s2 : ByteArray) (x3 : Int) (n4 : Nat) (f4 : FnV) (x6 : Int) (h8 : n4 <= 8) (h2 : 2 <= n4) (f : Nat -> List V) (hf : ∀ i j, eqP f i j = eqP f4 i j) : Ev (st63 n0 f0 s2 x3 n4 f4 x6) (.L1 1 f) (.int .i64 (bif adjP n4 f4 then 2 else tail63 x3 n4)) := c63_1 n0 f0 s2 x3 n4 f4 x6 h8 h2 1 (by omega) (Nat.le_refl _) (fun j hj => by
  have : j = 0 := by omega
  subst this; rfl) f hf
theorem c63_6 (n0 : Nat) (f0 : FnV) (s2 : ByteArray) (x3 : Int) (n4 : Nat) (f4 : FnV) (x6 : Int) (h8 : n4 <= 8) (k0 : Nat) (hk : 1 <= k0) (hk' : k0 < n4) (t1 t2 t3 : Int) (t4 : Nat) (t5 t6 t7 : Int) : ∀ k2 : Nat, k2 <= n4 - k0 -> 1 <= k2 -> ∀ (k : Nat) (f : Nat -> List V), k + 1 <= k0 + k2 -> Ev (st63 n0 f0 s2 x3 n4 f4 x6) (.L6 k2 k0 (n4 - k0) t1 t2 t3 t4 t5 t6 t7 k f) (.int .i64 2) := by
  refine up_ind fun k2 hk2 ih h1 k f hkk => Ev.of rfl ?_
  have w1 : i64.wrap ((k2 : Int) - 1) = ((k2 - 1 : Nat) : Int) := by rw [wrapI (by omega) (by omega)]; omega
  have w2 : i64.wrap ((k2 : Int) + 1) = ((k2 + 1 : Nat) : Int) := by rw [wrapI (by omega) (by omega)]; omega
  have w3 : i64.wrap ((k : Int) + 1) = ((k + 1 : Nat) : Int) := by rw [wrapI (by omega) (by omega)]; omega
  refine evBr (fun h => ?_) (fun h => ?_)
  · have hlt : k2 < n4 - k0 := by have := of_decide_eq_true h; omega
    refine evOb (decide_eq_true (by omega)) (evOb (decide_eq_true (by omega)) (evOb (decide_eq_true (by rw [w1]; omega)) (evOb (decide_eq_true (by rw [w1]; omega)) (evBr (fun _ => ?_) (fun _ => ?_)))))
    · refine evOb (decide_eq_true (by omega)) (evOb (decide_eq_true (by omega)) (evOb (decide_eq_true (by omega)) (evOb (decide_eq_true (by omega)) (evNext ?_))))
      rw [w2, w3]
      exact ih hlt (by omega) (k + 1) _ (by omega)
    · refine evNext ?_
      rw [w2]
      exact ih hlt (by omega) k _ (by omega)
  · have hge : ¬ k2 < n4 - k0 := by have := of_decide_eq_false h; omega
    refine evOb (decide_eq_true (by omega)) (evOb (decide_eq_true (by omega)) (evOb (decide_eq_true (by omega)) ?_))
    try refine evAsm fun _ => ?_
    exact evBrT (decide_eq_true (by omega)) (evRet rfl)
theorem c63_2 (n0 : Nat) (f0 : FnV) (s2 : ByteArray) (x3 : Int) (n4 : Nat) (f4 : FnV) (x6 : Int) (h8 : n4 <= 8) (h2 : 2 <= n4) : ∀ i : Nat, i <= n4 -> 1 <= i -> (∀ j, j < i -> (decide (0 < j) && eqP f4 j (j - 1)) = false) -> ∀ f : Nat -> List V, (∀ i j, eqP f i j = eqP f4 i j) -> Ev (st63 n0 f0 s2 x3 n4 f4 x6) (.L2 i f) (.int .i64 (bif adjP n4 f4 then 2 else tail63 x3 n4)) := by
  refine up_ind fun i hi ih h1 hj f hf => Ev.of rfl ?_
  have w1 : i64.wrap ((i : Int) - 1) = ((i - 1 : Nat) : Int) := by rw [wrapI (by omega) (by omega)]; omega
  have w2 : i64.wrap ((i : Int) + 1) = ((i + 1 : Nat) : Int) := by rw [wrapI (by omega) (by omega)]; omega
  refine evBr (fun h => ?_) (fun h => ?_)
  · have hlt : i < n4 := by have := of_decide_eq_true h; omega
    refine evOb (decide_eq_true (by omega)) (evOb (decide_eq_true (by omega)) (evOb (decide_eq_true (by rw [w1]; omega)) (evOb (decide_eq_true (by rw [w1]; omega)) (evBr (fun hb => ?_) (fun hb => ?_)))))
    · have hb' : eqP f4 i (i - 1) = true := by
        rw [← hf]; rw [w1] at hb; simpa only [Int.toNat_natCast, eqP] using hb
      rw [show adjP n4 f4 = true from exB_true i hlt (by rw [hb']; simp; omega), cond_true]
      refine evOb (decide_eq_true (by omega)) (evEnter ?_)
      have := c63_6 n0 f0 s2 x3 n4 f4 x6 h8 i h1 hlt
      simp only [Int.toNat_natCast]
      exact this _ _ _ _ _ _ _ 1 (by omega) (by omega) i _ (by omega)
    · have hb' : eqP f4 i (i - 1) = false := by
        rw [← hf]; rw [w1] at hb; simpa only [Int.toNat_natCast, eqP] using hb
      refine evNext ?_
      rw [w2]
      refine ih hlt (by omega) (fun j h3 => ?_) _ (fun a b => hf a b)
      by_cases e : j = i
      · subst e; rw [hb', Bool.and_false]
      · exact hj j (by omega)
  · have : i = n4 := by have := of_decide_eq_false h; omega
    subst this
    rw [show adjP i f4 = false from exB_false hj, cond_false]
    try refine evAsm fun _ => ?_
    exact evBrGe tail63_ev
theorem c63_2' (n0 : Nat) (f0 : FnV) (s2 : ByteArray) (x3 : Int) (n4 : Nat) (f4 : FnV) (x6 : Int) (h8 : n4 <= 8) (h2 : 2 <= n4) (f : Nat -> List V) (hf : ∀ i j, eqP f i j = eqP f4 i j) : Ev (st63 n0 f0 s2 x3 n4 f4 x6) (.L2 1 f) (.int .i64 (bif adjP n4 f4 then 2 else tail63 x3 n4)) := c63_2 n0 f0 s2 x3 n4 f4 x6 h8 h2 1 (by omega) (Nat.le_refl _) (fun j hj => by
  have : j = 0 := by omega
  subst this; rfl) f hf
theorem c63_7 (n0 : Nat) (f0 : FnV) (s2 : ByteArray) (x3 : Int) (n4 : Nat) (f4 : FnV) (x6 : Int) (h8 : n4 <= 8) (k0 : Nat) (hk : 1 <= k0) (hk' : k0 < n4) (t1 t2 t3 : Int) (t4 : Nat) (t5 t6 t7 : Int) : ∀ k2 : Nat, k2 <= n4 - k0 -> 1 <= k2 -> ∀ (k : Nat) (f : Nat -> List V), k + 1 <= k0 + k2 -> Ev (st63 n0 f0 s2 x3 n4 f4 x6) (.L7 k2 k0 (n4 - k0) t1 t2 t3 t4 t5 t6 t7 k f) (.int .i64 2) := by
  refine up_ind fun k2 hk2 ih h1 k f hkk => Ev.of rfl ?_
  have w1 : i64.wrap ((k2 : Int) - 1) = ((k2 - 1 : Nat) : Int) := by rw [wrapI (by omega) (by omega)]; omega
  have w2 : i64.wrap ((k2 : Int) + 1) = ((k2 + 1 : Nat) : Int) := by rw [wrapI (by omega) (by omega)]; omega
  have w3 : i64.wrap ((k : Int) + 1) = ((k + 1 : Nat) : Int) := by rw [wrapI (by omega) (by omega)]; omega
  refine evBr (fun h => ?_) (fun h => ?_)
  · have hlt : k2 < n4 - k0 := by have := of_decide_eq_true h; omega
    refine evOb (decide_eq_true (by omega)) (evOb (decide_eq_true (by omega)) (evOb (decide_eq_true (by rw [w1]; omega)) (evOb (decide_eq_true (by rw [w1]; omega)) (evBr (fun _ => ?_) (fun _ => ?_)))))
    · refine evOb (decide_eq_true (by omega)) (evOb (decide_eq_true (by omega)) (evOb (decide_eq_true (by omega)) (evOb (decide_eq_true (by omega)) (evNext ?_))))
      rw [w2, w3]
      exact ih hlt (by omega) (k + 1) _ (by omega)
    · refine evNext ?_
      rw [w2]
      exact ih hlt (by omega) k _ (by omega)
  · have hge : ¬ k2 < n4 - k0 := by have := of_decide_eq_false h; omega
    refine evOb (decide_eq_true (by omega)) (evOb (decide_eq_true (by omega)) (evOb (decide_eq_true (by omega)) ?_))
    try refine evAsm fun _ => ?_
    exact evBrT (decide_eq_true (by omega)) (evRet rfl)
theorem c63_3 (n0 : Nat) (f0 : FnV) (s2 : ByteArray) (x3 : Int) (n4 : Nat) (f4 : FnV) (x6 : Int) (h8 : n4 <= 8) (h2 : 2 <= n4) : ∀ i : Nat, i <= n4 -> 1 <= i -> (∀ j, j < i -> (decide (0 < j) && eqP f4 j (j - 1)) = false) -> ∀ f : Nat -> List V, (∀ i j, eqP f i j = eqP f4 i j) -> Ev (st63 n0 f0 s2 x3 n4 f4 x6) (.L3 i f) (.int .i64 (bif adjP n4 f4 then 2 else tail63 x3 n4)) := by
  refine up_ind fun i hi ih h1 hj f hf => Ev.of rfl ?_
  have w1 : i64.wrap ((i : Int) - 1) = ((i - 1 : Nat) : Int) := by rw [wrapI (by omega) (by omega)]; omega
  have w2 : i64.wrap ((i : Int) + 1) = ((i + 1 : Nat) : Int) := by rw [wrapI (by omega) (by omega)]; omega
  refine evBr (fun h => ?_) (fun h => ?_)
  · have hlt : i < n4 := by have := of_decide_eq_true h; omega
    refine evOb (decide_eq_true (by omega)) (evOb (decide_eq_true (by omega)) (evOb (decide_eq_true (by rw [w1]; omega)) (evOb (decide_eq_true (by rw [w1]; omega)) (evBr (fun hb => ?_) (fun hb => ?_)))))
    · have hb' : eqP f4 i (i - 1) = true := by
        rw [← hf]; rw [w1] at hb; simpa only [Int.toNat_natCast, eqP] using hb
      rw [show adjP n4 f4 = true from exB_true i hlt (by rw [hb']; simp; omega), cond_true]
      refine evOb (decide_eq_true (by omega)) (evEnter ?_)
      have := c63_7 n0 f0 s2 x3 n4 f4 x6 h8 i h1 hlt
      simp only [Int.toNat_natCast]
      exact this _ _ _ _ _ _ _ 1 (by omega) (by omega) i _ (by omega)
    · have hb' : eqP f4 i (i - 1) = false := by
        rw [← hf]; rw [w1] at hb; simpa only [Int.toNat_natCast, eqP] using hb
      refine evNext ?_
      rw [w2]
      refine ih hlt (by omega) (fun j h3 => ?_) _ (fun a b => hf a b)
      by_cases e : j = i
      · subst e; rw [hb', Bool.and_false]
      · exact hj j (by omega)
  · have : i = n4 := by have := of_decide_eq_false h; omega
    subst this
    rw [show adjP i f4 = false from exB_false hj, cond_false]
    try refine evAsm fun _ => ?_
    exact evBrGe tail63_ev
theorem c63_3' (n0 : Nat) (f0 : FnV) (s2 : ByteArray) (x3 : Int) (n4 : Nat) (f4 : FnV) (x6 : Int) (h8 : n4 <= 8) (h2 : 2 <= n4) (f : Nat -> List V) (hf : ∀ i j, eqP f i j = eqP f4 i j) : Ev (st63 n0 f0 s2 x3 n4 f4 x6) (.L3 1 f) (.int .i64 (bif adjP n4 f4 then 2 else tail63 x3 n4)) := c63_3 n0 f0 s2 x3 n4 f4 x6 h8 h2 1 (by omega) (Nat.le_refl _) (fun j hj => by
  have : j = 0 := by omega
  subst this; rfl) f hf
theorem ev63_0 (n0 : Nat) (f0 : FnV) (s2 : ByteArray) (x3 : Int) (n4 : Nat) (f4 : FnV) (x6 : Int) (hp : s2.size <= 9223372036854775807) : evR (Ev (st63 n0 f0 s2 x3 n4 f4 x6)) (m63 n0 f0 s2 x3 n4 f4 x6) (.int .i64 (F63 n0 f0 s2 x3 n4 f4 x6)) := by
  unfold F63
  refine evObp hp (evObt ?_)
  refine evBr (fun h => evRet (by rw [h]; rfl)) (fun h => ?_)
  rw [h, cond_false]
  refine evObc (evObt (evBr (fun h => evRet (by rw [show F90_0 n0 f0 s2 = true from h]; rfl)) (fun h => ?_)))
  rw [show F90_0 n0 f0 s2 = false from h, cond_false]
  refine evObc (evObt (evBr (fun h => evRet (by rw [h]; rfl)) (fun h => ?_)))
  rw [h, cond_false]
  refine evAsm1 fun hn => evBr (fun h => evRet (by rw [h]; rfl)) (fun h2 => ?_)
  rw [h2, cond_false]
  refine evAsm1 fun hn => evBr (fun h => evRet (by rw [h]; rfl)) (fun h8 => ?_)
  rw [h8, cond_false]
  have h2 : 2 <= n4 := by have := of_decide_eq_false h2; omega
  have h8 : n4 <= 8 := by have := of_decide_eq_false h8; omega
  have e2 : decide ((n4 : Int) < 2) = false := decide_eq_false (by omega)
  refine evObc (evObt (evObi (evBr (fun h => ?_) (fun h => evRet (by rw [show (!!F115_0 n4 f4) = true from by rw [show (!F115_0 n4 f4) = false from h]; rfl]; rfl)))))
  rw [show (!!F115_0 n4 f4) = false from by rw [show (!F115_0 n4 f4) = true from h]; rfl, cond_false]
  refine evOb h (evObc (evObt (evBr (fun h => evRet (by rw [h]; rfl)) (fun h => ?_))))
  rw [h, cond_false]
  have h16 : (decide (n4 * 16 <= 140737488355328) && !Nat.beq 16 0) = true := by rw [decide_eq_true (show n4 * 16 <= 140737488355328 by omega)]; rfl
  have hne : n4 = 0 -> False := by omega
  have hi : ∀ i j, eqP (elV tp2 f4) i j = eqP f4 i j := fun _ _ => rfl
  repeat' (first
    | exact evAsm (fun h0 => (hne h0).elim)
    | exact evEnter (c63_0' _ _ _ _ _ _ _ h8 h2 _ hi)
    | exact evEnter (c63_1' _ _ _ _ _ _ _ h8 h2 _ hi)
    | exact evEnter (c63_2' _ _ _ _ _ _ _ h8 h2 _ hi)
    | exact evEnter (c63_3' _ _ _ _ _ _ _ h8 h2 _ hi)
    | refine evUnd ?_ ?_
    | refine evAsm (fun _ => ?_)
    | refine evObv ?_
    | refine evOb h16 ?_
    | refine evBrF e2 ?_
    | refine evBrF rfl ?_
    | refine evBrT rfl ?_)
theorem ev63 (n0 : Nat) (f0 : FnV) (s2 : ByteArray) (x3 : Int) (n4 : Nat) (f4 : FnV) (x6 : Int) (hp : s2.size <= 9223372036854775807) : evR (Ev (st63 n0 f0 s2 x3 n4 f4 x6)) (m63 n0 f0 s2 x3 n4 f4 x6) (.int .i64 (F63 n0 (elV tyR f0) s2 x3 n4 (elV tp2 f4) x6)) := ev63_0 n0 f0 s2 x3 n4 f4 x6 hp
def C63 : PCon := mkC [.sl tyR, .agg tyR] (fun
  | [.sl n0 f0, .agg [.str s2, .int _ x3, .sl n4 f4, .int _ x6]] => s2.size <= 9223372036854775807
  | _ => False) fun
  | [.sl n0 f0, .agg [.str s2, .int _ x3, .sl n4 f4, .int _ x6]] => .int .i64 (F63 n0 f0 s2 x3 n4 f4 x6)
  | _ => .any
theorem ok63 : (vP C63).Ok Tryz.prog 63 := mkE tabB10 Tryz.func63 (by kernel_rfl) fun ds hp => rfs (run63 ..) (ev63 _ _ _ _ _ _ _ hp)
def m69 (n0 : Nat) (f0 : FnV) (s2 : ByteArray) (x3 x4 x5 x6 x7 : Int) : RT Empty := .obp (s2.size <= (9223372036854775807 : Nat)) (.obt (.br (!F114_0 s2) (.ret (vi 6)) (.obc (.obt (.br (F121_0 n0 (elV tyC f0) s2) (.ret (vi 5)) (.obc (.obt (.obi (.br (!F45_0 2 (elV tp1 (secF [vi x3, vi x4] 0 ((1 + 1 - 0) / 2)))) (.ob (!F45_0 2 (elV tp1 (secF [vi x3, vi x4] 0 ((1 + 1 - 0) / 2)))) (.obc (.obt (.obi (.br (!F86_0 x5 1 200) (.ob (!F86_0 x5 1 200) (.obc (.obt (.obi (.br (!F86_0 x6 (-1000) 1000) (.ob (!F86_0 x6 (-1000) 1000) (.obc (.obt (.br (F86_0 x7 (-1000) 1000) (.ret (vi 7)) (.obi (.obi (.obi (.br (bif x6 == 0 then x7 == 0 else false) (.ret (vi 2)) (.ret (vi 0)))))))))) (.ret (vi 7))))))) (.ret (vi 7))))))) (.ret (vi 7)))))))))))
theorem run69 (n0 : Nat) (f0 : FnV) (s2 : ByteArray) (x3 x4 x5 x6 x7 : Int) : Fit noD (runL JJ ctB10 u0 s69 [V.sl n0 (elV tyC f0), V.agg [V.str s2, vi x3, vi x4, vi x5, vi x6, vi x7]]) (m69 n0 f0 s2 x3 x4 x5 x6 x7) := ⟨by kernel_rfl, by kernel_rfl⟩
def F69_0 (n0 : Nat) (f0 : FnV) (s2 : ByteArray) (x3 x4 x5 x6 x7 : Int) : Int := bif !F114_0 s2 then 6 else bif F121_0 n0 (elV tyC f0) s2 then 5 else bif !F45_0 2 (elV tp1 (secF [vi x3, vi x4] 0 ((1 + 1 - 0) / 2))) then bif !F86_0 x5 1 200 then bif !F86_0 x6 (-1000) 1000 then bif F86_0 x7 (-1000) 1000 then 7 else bif bif x6 == 0 then x7 == 0 else false then 2 else 0 else 7 else 7 else 7
def R69 (n0 : Nat) (f0 : FnV) (s2 : ByteArray) (x3 x4 x5 x6 x7 : Int) : V := .int i64 (F69_0 n0 f0 s2 x3 x4 x5 x6 x7)
theorem ev69 (n0 : Nat) (f0 : FnV) (s2 : ByteArray) (x3 x4 x5 x6 x7 : Int) (hp : s2.size <= 9223372036854775807) : evR noE (m69 n0 f0 s2 x3 x4 x5 x6 x7) (R69 n0 f0 s2 x3 x4 x5 x6 x7) := evObp (by first | assumption | (exact hp)) (evObt (evBr (fun h0 => evRet (by unfold R69 F69_0; try rw [h0]; rfl)) (fun h0 => evObc (evObt (evBr (fun h1 => evRet (by unfold R69 F69_0; try rw [h0]; try rw [h1]; rfl)) (fun h1 => evObc (evObt (evObi (evBr (fun h2 => evOb (by first | assumption | (fail)) (evObc (evObt (evObi (evBr (fun h3 => evOb (by first | assumption | (fail)) (evObc (evObt (evObi (evBr (fun h4 => evOb (by first | assumption | (fail)) (evObc (evObt (evBr (fun h5 => evRet (by unfold R69 F69_0; try rw [h0]; try rw [h1]; try rw [h2]; try rw [h3]; try rw [h4]; try rw [h5]; rfl)) (fun h5 => evObi (evObi (evObi (evBr (fun h6 => evRet (by unfold R69 F69_0; try rw [h0]; try rw [h1]; try rw [h2]; try rw [h3]; try rw [h4]; try rw [h5]; try rw [h6]; rfl)) (fun h6 => evRet (by unfold R69 F69_0; try rw [h0]; try rw [h1]; try rw [h2]; try rw [h3]; try rw [h4]; try rw [h5]; try rw [h6]; rfl)))))))))) (fun h4 => evRet (by unfold R69 F69_0; try rw [h0]; try rw [h1]; try rw [h2]; try rw [h3]; try rw [h4]; rfl))))))) (fun h3 => evRet (by unfold R69 F69_0; try rw [h0]; try rw [h1]; try rw [h2]; try rw [h3]; rfl))))))) (fun h2 => evRet (by unfold R69 F69_0; try rw [h0]; try rw [h1]; try rw [h2]; rfl)))))))))))
def C69 : PCon := mkC [.sl tyC, .agg tyC] (fun
  | [.sl n0 f0, .agg [.str s2, .int _ x3, .int _ x4, .int _ x5, .int _ x6, .int _ x7]] => s2.size <= 9223372036854775807
  | _ => False) fun
  | [.sl n0 f0, .agg [.str s2, .int _ x3, .int _ x4, .int _ x5, .int _ x6, .int _ x7]] => R69 n0 f0 s2 x3 x4 x5 x6 x7
  | _ => .any
theorem ok69 : (vP C69).Ok Tryz.prog 69 := mkE tabB10 Tryz.func69 (by kernel_rfl) fun ds hp => rf0 (run69 ..) (ev69 _ _ _ _ _ _ _ _ hp)
end Go.Dx
namespace Go.Dx
open Go.IntKind (i64 u64 u8)
open Go.Sx Go.Proofs
set_option maxRecDepth 100000
set_option linter.unusedVariables false
set_option linter.unusedSimpArgs false
noncomputable section
def ctB11 : CTab := (63, .con C63) :: (69, .con C69) :: ctB10
theorem tabB11 : TabOk Tryz.prog eqs its ctB11 := .con ok63 (.con ok69 (tabB10))
inductive S70 where
  | L0 (i_100 : Int)
  | L1 (i_200 i_201 : Int)
  | L2 (i_300 i_301 i_302 : Int)
def inv70 (n0 : Nat) (f0 : FnV) (n2 : Nat) (f2 : FnV) (n4 : Nat) (f4 : FnV) (n6 : Nat) (f6 : FnV) (x8 : Int) : S70 -> Env × List O × Option Ex
  | .L0 i_100 => ([(6, vi i_100), (17, V.kb false), (16, V.bool (F122 (sv (hdV (f0 x8.toNat))))), (15, V.str (sv (hdV (f0 x8.toNat)))), (14, V.pl 0 0), (5, V.pl 0 0), (13, V.agg [V.str (sv (hdV (f0 x8.toNat))), vi (iv (hdV (tlV (f0 x8.toNat)))), V.sl (lenV (hdV (tlV (tlV (f0 x8.toNat))))) fun i => views tp2 (atV (hdV (tlV (tlV (f0 x8.toNat)))) i), vi (iv (hdV (tlV (tlV (tlV (f0 x8.toNat))))))]), (12, V.pd [V.str (sv (hdV (f0 x8.toNat))), vi (iv (hdV (tlV (f0 x8.toNat)))), V.sl (lenV (hdV (tlV (tlV (f0 x8.toNat))))) fun i => views tp2 (atV (hdV (tlV (tlV (f0 x8.toNat)))) i), vi (iv (hdV (tlV (tlV (tlV (f0 x8.toNat))))))]), (11, vi x8), (10, V.sl n0 (elV tyR f0)), (9, V.pl 1 0), (4, vi 0), (2, V.pl 1 0), (0, scV n0 f0 n2 f2 n4 f4 n6 f6), (1, vi x8)], [O.cells [V.str (sv (hdV (f0 x8.toNat))), vi (iv (hdV (tlV (f0 x8.toNat)))), V.sl (lenV (hdV (tlV (tlV (f0 x8.toNat))))) fun i => views tp2 (atV (hdV (tlV (tlV (f0 x8.toNat)))) i), vi (iv (hdV (tlV (tlV (tlV (f0 x8.toNat))))))] 54, O.cells [V.sl n0 (elV tyR f0), V.sl n2 (elV tyT f2), V.sl n4 (elV tyF f4), V.sl n6 (elV tyC f6)] 27], none)
  | .L1 i_200 i_201 => ([(7, vi i_200), (43, V.kb false), (42, vi (↑(lenV (hdV (tlV (tlV (f0 x8.toNat))))) : Int)), (41, V.sl (lenV (hdV (tlV (tlV (f0 x8.toNat))))) fun i => views tp2 (atV (hdV (tlV (tlV (f0 x8.toNat)))) i)), (40, V.pl 0 2), (39, V.kb false), (38, vi (↑(lenV (hdV (tlV (tlV (f0 x8.toNat))))) : Int)), (37, V.sl (lenV (hdV (tlV (tlV (f0 x8.toNat))))) fun i => views tp2 (atV (hdV (tlV (tlV (f0 x8.toNat)))) i)), (36, V.pl 0 2), (35, V.kb false), (34, V.bool (F71_0 (iv (hdV (tlV (f0 x8.toNat)))) 0 3)), (33, vi (iv (hdV (tlV (f0 x8.toNat))))), (32, V.pl 0 1), (20, V.kb false), (19, vi x8), (18, vi i_201), (6, vi i_201), (17, V.kb false), (16, V.bool (F122 (sv (hdV (f0 x8.toNat))))), (15, V.str (sv (hdV (f0 x8.toNat)))), (14, V.pl 0 0), (5, V.pl 0 0), (13, V.agg [V.str (sv (hdV (f0 x8.toNat))), vi (iv (hdV (tlV (f0 x8.toNat)))), V.sl (lenV (hdV (tlV (tlV (f0 x8.toNat))))) fun i => views tp2 (atV (hdV (tlV (tlV (f0 x8.toNat)))) i), vi (iv (hdV (tlV (tlV (tlV (f0 x8.toNat))))))]), (12, V.pd [V.str (sv (hdV (f0 x8.toNat))), vi (iv (hdV (tlV (f0 x8.toNat)))), V.sl (lenV (hdV (tlV (tlV (f0 x8.toNat))))) fun i => views tp2 (atV (hdV (tlV (tlV (f0 x8.toNat)))) i), vi (iv (hdV (tlV (tlV (tlV (f0 x8.toNat))))))]), (11, vi x8), (10, V.sl n0 (elV tyR f0)), (9, V.pl 1 0), (4, vi 0), (2, V.pl 1 0), (0, scV n0 f0 n2 f2 n4 f4 n6 f6), (1, vi x8)], [O.cells [V.str (sv (hdV (f0 x8.toNat))), vi (iv (hdV (tlV (f0 x8.toNat)))), V.sl (lenV (hdV (tlV (tlV (f0 x8.toNat))))) fun i => views tp2 (atV (hdV (tlV (tlV (f0 x8.toNat)))) i), vi (iv (hdV (tlV (tlV (tlV (f0 x8.toNat))))))] 54, O.cells [V.sl n0 (elV tyR f0), V.sl n2 (elV tyT f2), V.sl n4 (elV tyF f4), V.sl n6 (elV tyC f6)] 27], none)
  | .L2 i_300 i_301 i_302 => ([(8, vi i_300), (69, V.kb false), (68, V.bool (F71_0 (iv (hdV (tlV (tlV (tlV (f0 x8.toNat)))))) 100 30000)), (67, vi (iv (hdV (tlV (tlV (tlV (f0 x8.toNat))))))), (66, V.pl 0 3), (48, V.kb false), (47, vi (↑(lenV (hdV (tlV (tlV (f0 x8.toNat))))) : Int)), (46, V.sl (lenV (hdV (tlV (tlV (f0 x8.toNat))))) fun i => views tp2 (atV (hdV (tlV (tlV (f0 x8.toNat)))) i)), (45, V.pl 0 2), (44, vi i_301), (7, vi i_301), (43, V.kb false), (42, vi (↑(lenV (hdV (tlV (tlV (f0 x8.toNat))))) : Int)), (41, V.sl (lenV (hdV (tlV (tlV (f0 x8.toNat))))) fun i => views tp2 (atV (hdV (tlV (tlV (f0 x8.toNat)))) i)), (40, V.pl 0 2), (39, V.kb false), (38, vi (↑(lenV (hdV (tlV (tlV (f0 x8.toNat))))) : Int)), (37, V.sl (lenV (hdV (tlV (tlV (f0 x8.toNat))))) fun i => views tp2 (atV (hdV (tlV (tlV (f0 x8.toNat)))) i)), (36, V.pl 0 2), (35, V.kb false), (34, V.bool (F71_0 (iv (hdV (tlV (f0 x8.toNat)))) 0 3)), (33, vi (iv (hdV (tlV (f0 x8.toNat))))), (32, V.pl 0 1), (20, V.kb false), (19, vi x8), (18, vi i_302), (6, vi i_302), (17, V.kb false), (16, V.bool (F122 (sv (hdV (f0 x8.toNat))))), (15, V.str (sv (hdV (f0 x8.toNat)))), (14, V.pl 0 0), (5, V.pl 0 0), (13, V.agg [V.str (sv (hdV (f0 x8.toNat))), vi (iv (hdV (tlV (f0 x8.toNat)))), V.sl (lenV (hdV (tlV (tlV (f0 x8.toNat))))) fun i => views tp2 (atV (hdV (tlV (tlV (f0 x8.toNat)))) i), vi (iv (hdV (tlV (tlV (tlV (f0 x8.toNat))))))]), (12, V.pd [V.str (sv (hdV (f0 x8.toNat))), vi (iv (hdV (tlV (f0 x8.toNat)))), V.sl (lenV (hdV (tlV (tlV (f0 x8.toNat))))) fun i => views tp2 (atV (hdV (tlV (tlV (f0 x8.toNat)))) i), vi (iv (hdV (tlV (tlV (tlV (f0 x8.toNat))))))]), (11, vi x8), (10, V.sl n0 (elV tyR f0)), (9, V.pl 1 0), (4, vi 0), (2, V.pl 1 0), (0, scV n0 f0 n2 f2 n4 f4 n6 f6), (1, vi x8)], [O.cells [V.str (sv (hdV (f0 x8.toNat))), vi (iv (hdV (tlV (f0 x8.toNat)))), V.sl (lenV (hdV (tlV (tlV (f0 x8.toNat))))) fun i => views tp2 (atV (hdV (tlV (tlV (f0 x8.toNat)))) i), vi (iv (hdV (tlV (tlV (tlV (f0 x8.toNat))))))] 54, O.cells [V.sl n0 (elV tyR f0), V.sl n2 (elV tyT f2), V.sl n4 (elV tyF f4), V.sl n6 (elV tyC f6)] 27], none)
def id70 : S70 -> JJ
  | .L0 i_100 => (0, [])
  | .L1 i_200 i_201 => (1, [])
  | .L2 i_300 i_301 i_302 => (2, [])
def rl70 (n0 : Nat) (f0 : FnV) (n2 : Nat) (f2 : FnV) (n4 : Nat) (f4 : FnV) (n6 : Nat) (f6 : FnV) (x8 : Int) : T (Leaf JJ) := runL JJ ctB11 u0 s70 [scV n0 f0 n2 f2 n4 f4 n6 f6, vi x8]
def lp70_0 (n0 : Nat) (f0 : FnV) (n2 : Nat) (f2 : FnV) (n4 : Nat) (f4 : FnV) (n6 : Nat) (f6 : FnV) (x8 : Int) (cx : List Cx) : Lp JJ := lpT (atT (rl70 n0 f0 n2 f2 n4 f4 n6 f6 x8) [false])
def lp70_1 (n0 : Nat) (f0 : FnV) (n2 : Nat) (f2 : FnV) (n4 : Nat) (f4 : FnV) (n6 : Nat) (f6 : FnV) (x8 : Int) (cx : List Cx) : Lp JJ := lpT (atT (rdT ctB11 u0 (0, []) (lp70_0 n0 f0 n2 f2 n4 f4 n6 f6 x8 []) (inv70 n0 f0 n2 f2 n4 f4 n6 f6 x8 (.L0 (0 : Int))).1 (inv70 n0 f0 n2 f2 n4 f4 n6 f6 x8 (.L0 (0 : Int))).2.1 (inv70 n0 f0 n2 f2 n4 f4 n6 f6 x8 (.L0 (0 : Int))).2.2) [false, false, false, false])
def lp70_2 (n0 : Nat) (f0 : FnV) (n2 : Nat) (f2 : FnV) (n4 : Nat) (f4 : FnV) (n6 : Nat) (f6 : FnV) (x8 : Int) (cx : List Cx) : Lp JJ := lpT (atT (rdT ctB11 u0 (1, []) (lp70_1 n0 f0 n2 f2 n4 f4 n6 f6 x8 []) (inv70 n0 f0 n2 f2 n4 f4 n6 f6 x8 (.L1 (0 : Int) (0 : Int))).1 (inv70 n0 f0 n2 f2 n4 f4 n6 f6 x8 (.L1 (0 : Int) (0 : Int))).2.1 (inv70 n0 f0 n2 f2 n4 f4 n6 f6 x8 (.L1 (0 : Int) (0 : Int))).2.2) [false, false])
def lp70 (n0 : Nat) (f0 : FnV) (n2 : Nat) (f2 : FnV) (n4 : Nat) (f4 : FnV) (n6 : Nat) (f6 : FnV) (x8 : Int) : JJ -> Lp JJ
  | (0, cx) => lp70_0 n0 f0 n2 f2 n4 f4 n6 f6 x8 cx
  | (1, cx) => lp70_1 n0 f0 n2 f2 n4 f4 n6 f6 x8 cx
  | (2, cx) => lp70_2 n0 f0 n2 f2 n4 f4 n6 f6 x8 cx
  | (_, cx) => lp70_0 n0 f0 n2 f2 n4 f4 n6 f6 x8 cx
def D70 (n0 : Nat) (f0 : FnV) (n2 : Nat) (f2 : FnV) (n4 : Nat) (f4 : FnV) (n6 : Nat) (f6 : FnV) (x8 : Int) : LD JJ S70 := ⟨id70, lp70 n0 f0 n2 f2 n4 f4 n6 f6 x8, inv70 n0 f0 n2 f2 n4 f4 n6 f6 x8⟩
def st70 (n0 : Nat) (f0 : FnV) (n2 : Nat) (f2 : FnV) (n4 : Nat) (f4 : FnV) (n6 : Nat) (f6 : FnV) (x8 : Int) : S70 -> RT S70
  | .L0 i_100 => .br (decide (i_100 < x8)) (.ob (decide (0 <= i_100 /\ i_100 < (↑n0 : Int))) (.br ((sv (hdV (f0 i_100.toNat))).toList == (sv (hdV (f0 x8.toNat))).toList) (.ret (vi 5)) (.next [some (some 0), some (some 1)] (S70.L0 (i64.wrap (i_100 + 1))) []))) (.obc (.obt (.br (!F71_0 (iv (hdV (tlV (f0 x8.toNat)))) 0 3) (.ret (vi 2)) (.asm (true = true -> lenV (hdV (tlV (tlV (f0 x8.toNat)))) <= 9223372036854775807) (.br (decide ((↑(lenV (hdV (tlV (tlV (f0 x8.toNat))))) : Int) < 2)) (.ret (vi 4)) (.asm (true = true -> lenV (hdV (tlV (tlV (f0 x8.toNat)))) <= 9223372036854775807) (.br (decide (8 < (↑(lenV (hdV (tlV (tlV (f0 x8.toNat))))) : Int))) (.ret (vi 3)) (.enter [some (some 0), some (some 1)] (S70.L1 (0) (i_100)) []))))))))
  | .L1 i_200 i_201 => .asm (true = true -> lenV (hdV (tlV (tlV (f0 x8.toNat)))) <= 9223372036854775807) (.br (decide (i_200 < (↑(lenV (hdV (tlV (tlV (f0 x8.toNat))))) : Int))) (.ob (decide (0 <= i_200 /\ i_200 < (↑(lenV (hdV (tlV (tlV (f0 x8.toNat))))) : Int))) (.obt (.ob (decide (0 <= i_200 /\ i_200 < (↑(lenV (hdV (tlV (tlV (f0 x8.toNat))))) : Int))) (.obt (.obc (.obt (.br (!F51 2 (elV tp1 (secF [vi (iv (hdV (atV (hdV (tlV (tlV (f0 x8.toNat)))) i_200.toNat))), vi (iv (hdV (tlV (atV (hdV (tlV (tlV (f0 x8.toNat)))) i_200.toNat))))] 0 ((1 + 1 - 0) / 2)))) (.ret (vi 7)) (.next [some (some 0), some (some 1)] (S70.L1 (i64.wrap (i_200 + 1)) (i_201)) [])))))))) (.obc (.obt (.br (!F71_0 (iv (hdV (tlV (tlV (tlV (f0 x8.toNat)))))) 100 30000) (.ret (vi 7)) (.enter [some (some 0), some (some 1)] (S70.L2 (1) (i_200) (i_201)) [])))))
  | .L2 i_300 i_301 i_302 => .asm (true = true -> lenV (hdV (tlV (tlV (f0 x8.toNat)))) <= 9223372036854775807) (.br (decide (i_300 < (↑(lenV (hdV (tlV (tlV (f0 x8.toNat))))) : Int))) (.ob (decide (0 <= i_300 /\ i_300 < (↑(lenV (hdV (tlV (tlV (f0 x8.toNat))))) : Int))) (.ob (decide (0 <= i64.wrap (i_300 - 1) /\ i64.wrap (i_300 - 1) < (↑(lenV (hdV (tlV (tlV (f0 x8.toNat))))) : Int))) (.br (iv (hdV (atV (hdV (tlV (tlV (f0 x8.toNat)))) i_300.toNat)) == iv (hdV (atV (hdV (tlV (tlV (f0 x8.toNat)))) (i64.wrap (i_300 - 1)).toNat)) && (iv (hdV (tlV (atV (hdV (tlV (tlV (f0 x8.toNat)))) i_300.toNat))) == iv (hdV (tlV (atV (hdV (tlV (tlV (f0 x8.toNat)))) (i64.wrap (i_300 - 1)).toNat))) && true)) (.ret (vi 2)) (.next [some (some 0), some (some 1)] (S70.L2 (i64.wrap (i_300 + 1)) (i_301) (i_302)) [])))) (.obi (.obi (.asm ((iv (hdV (tlV (f0 x8.toNat))) == 3) = true -> lenV (hdV (tlV (tlV (f0 x8.toNat)))) <= 9223372036854775807) (.obi (.obi (.br (bif iv (hdV (tlV (f0 x8.toNat))) == 3 then decide (2 < (↑(lenV (hdV (tlV (tlV (f0 x8.toNat))))) : Int)) else false) (.ret (vi 2)) (.ret (vi 0)))))))))
def m70 (n0 : Nat) (f0 : FnV) (n2 : Nat) (f2 : FnV) (n4 : Nat) (f4 : FnV) (n6 : Nat) (f6 : FnV) (x8 : Int) : RT S70 := .ob (decide (0 <= x8 /\ x8 < (↑n0 : Int))) (.obp ((sv (hdV (f0 x8.toNat))).size <= (9223372036854775807 : Nat)) (.obt (.br (!F122 (sv (hdV (f0 x8.toNat)))) (.ret (vi 6)) (.enter [some (some 1), some (some 0)] (S70.L0 (0)) []))))
theorem run70 (n0 : Nat) (f0 : FnV) (n2 : Nat) (f2 : FnV) (n4 : Nat) (f4 : FnV) (n6 : Nat) (f6 : FnV) (x8 : Int) : Fits ctB11 u0 (D70 n0 f0 n2 f2 n4 f4 n6 f6 x8) (rl70 n0 f0 n2 f2 n4 f4 n6 f6 x8) (m70 n0 f0 n2 f2 n4 f4 n6 f6 x8) (st70 n0 f0 n2 f2 n4 f4 n6 f6 x8) := ⟨⟨by kernel_rfl, by kernel_rfl⟩, fun s => match s with | .L0 i_100 => ⟨by kernel_rfl, by kernel_rfl⟩ | .L1 i_200 i_201 => ⟨by kernel_rfl, by kernel_rfl⟩ | .L2 i_300 i_301 i_302 => ⟨by kernel_rfl, by kernel_rfl⟩⟩
def ptOk (x y : Int) : Bool := F51 2 (elV tp1 (secF [V.int .i64 x, V.int .i64 y] 0 ((1 + 1 - 0) / 2)))
def roadE (k : Int) (n : Nat) (f : Nat -> List V) (h : Int) : Int := bif !F71_0 k 0 3 then 2 else bif decide ((n : Int) < 2) then 4 else bif decide (8 < (n : Int)) then 3 else bif exB n (fun i => !ptOk (iv (hdV (f i))) (iv (hdV (tlV (f i))))) then 7 else bif !F71_0 h 100 30000 then 7 else bif adjP n f then 2 else tail63 k n
def F70 (n0 : Nat) (f0 : FnV) (x8 : Int) : Int := bif !F122 (sv (hdV (f0 x8.toNat))) then 6 else bif exB x8.toNat (fun k => (sv (hdV (f0 k))).toList == (sv (hdV (f0 x8.toNat))).toList) then 5 else roadE (iv (hdV (tlV (f0 x8.toNat)))) (lenV (hdV (tlV (tlV (f0 x8.toNat))))) (atV (hdV (tlV (tlV (f0 x8.toNat))))) (iv (hdV (tlV (tlV (tlV (f0 x8.toNat))))))
theorem c70_2 (n0 : Nat) (f0 : FnV) (n2 : Nat) (f2 : FnV) (n4 : Nat) (f4 : FnV) (n6 : Nat) (f6 : FnV) (k : Nat) (h8 : (lenV (hdV (tlV (tlV (f0 k))))) <= 8) (h2 : 2 <= (lenV (hdV (tlV (tlV (f0 k)))))) (i1 i2 : Int) : ∀ i : Nat, i <= (lenV (hdV (tlV (tlV (f0 k))))) -> 1 <= i -> (∀ j, j < i -> (decide (0 < j) && eqP (atV (hdV (tlV (tlV (f0 k))))) j (j - 1)) = false) -> Ev (st70 n0 f0 n2 f2 n4 f4 n6 f6 (k : Int)) (.L2 i i1 i2) (.int .i64 (bif adjP (lenV (hdV (tlV (tlV (f0 k))))) (atV (hdV (tlV (tlV (f0 k))))) then 2 else tail63 (iv (hdV (tlV (f0 k)))) (lenV (hdV (tlV (tlV (f0 k))))))) := by
  refine up_ind fun i hi ih h1 hj => Ev.of rfl ?_
  have w1 : i64.wrap ((i : Int) - 1) = ((i - 1 : Nat) : Int) := by rw [wrapI (by omega) (by omega)]; omega
  have w2 : i64.wrap ((i : Int) + 1) = ((i + 1 : Nat) : Int) := by rw [wrapI (by omega) (by omega)]; omega
  refine evAsm fun _ => evBr (fun h => ?_) (fun h => ?_)
  · have hlt : i < (lenV (hdV (tlV (tlV (f0 k))))) := by have : (i : Int) < ((lenV (hdV (tlV (tlV (f0 k))))) : Int) := of_decide_eq_true h; omega
    refine evOb (decide_eq_true (show 0 <= (i : Int) /\ (i : Int) < ((lenV (hdV (tlV (tlV (f0 k))))) : Int) by omega)) (evOb (decide_eq_true (show 0 <= i64.wrap ((i : Int) - 1) /\ i64.wrap ((i : Int) - 1) < ((lenV (hdV (tlV (tlV (f0 k))))) : Int) by rw [w1]; omega)) (evBr (fun hb => ?_) (fun hb => ?_)))
    · have hb' : eqP (atV (hdV (tlV (tlV (f0 k))))) i (i - 1) = true := by
        rw [w1] at hb; simpa only [Int.toNat_natCast, eqP] using hb
      rw [show adjP (lenV (hdV (tlV (tlV (f0 k))))) (atV (hdV (tlV (tlV (f0 k))))) = true from exB_true i hlt (by rw [hb']; simp; omega), cond_true]
      exact evRet rfl
    · have hb' : eqP (atV (hdV (tlV (tlV (f0 k))))) i (i - 1) = false := by
        rw [w1] at hb; simpa only [Int.toNat_natCast, eqP] using hb
      refine evNext ?_
      rw [w2]
      refine ih hlt (by omega) (fun j h3 => ?_)
      by_cases e : j = i
      · subst e; rw [hb', Bool.and_false]
      · exact hj j (by omega)
  · have e : i = (lenV (hdV (tlV (tlV (f0 k))))) := by have : ¬ (i : Int) < ((lenV (hdV (tlV (tlV (f0 k))))) : Int) := of_decide_eq_false h; omega
    rw [show adjP (lenV (hdV (tlV (tlV (f0 k))))) (atV (hdV (tlV (tlV (f0 k))))) = false from exB_false fun j h => hj j (by omega), cond_false]
    exact tail63_ev
theorem c70_1 (n0 : Nat) (f0 : FnV) (n2 : Nat) (f2 : FnV) (n4 : Nat) (f4 : FnV) (n6 : Nat) (f6 : FnV) (k : Nat) (h8 : (lenV (hdV (tlV (tlV (f0 k))))) <= 8) (h2 : 2 <= (lenV (hdV (tlV (tlV (f0 k)))))) (i1 : Int) : ∀ i : Nat, i <= (lenV (hdV (tlV (tlV (f0 k))))) -> (∀ j, j < i -> (!ptOk (iv (hdV ((atV (hdV (tlV (tlV (f0 k))))) j))) (iv (hdV (tlV ((atV (hdV (tlV (tlV (f0 k))))) j))))) = false) -> Ev (st70 n0 f0 n2 f2 n4 f4 n6 f6 (k : Int)) (.L1 i i1) (.int .i64 (bif exB (lenV (hdV (tlV (tlV (f0 k))))) (fun i => !ptOk (iv (hdV ((atV (hdV (tlV (tlV (f0 k))))) i))) (iv (hdV (tlV ((atV (hdV (tlV (tlV (f0 k))))) i))))) then 7 else bif !F71_0 (iv (hdV (tlV (tlV (tlV (f0 k)))))) 100 30000 then 7 else bif adjP (lenV (hdV (tlV (tlV (f0 k))))) (atV (hdV (tlV (tlV (f0 k))))) then 2 else tail63 (iv (hdV (tlV (f0 k)))) (lenV (hdV (tlV (tlV (f0 k))))))) := by
  refine up_ind fun i hi ih hj => Ev.of rfl ?_
  have w2 : i64.wrap ((i : Int) + 1) = ((i + 1 : Nat) : Int) := by rw [wrapI (by omega) (by omega)]; omega
  refine evAsm fun _ => evBr (fun h => ?_) (fun h => ?_)
  · have hlt : i < (lenV (hdV (tlV (tlV (f0 k))))) := by have : (i : Int) < ((lenV (hdV (tlV (tlV (f0 k))))) : Int) := of_decide_eq_true h; omega
    refine evOb (decide_eq_true (show 0 <= (i : Int) /\ (i : Int) < ((lenV (hdV (tlV (tlV (f0 k))))) : Int) by omega)) (evObt (evOb (decide_eq_true (show 0 <= (i : Int) /\ (i : Int) < ((lenV (hdV (tlV (tlV (f0 k))))) : Int) by omega)) (evObt (evObc (evObt (evBr (fun hb => evRet ?_) (fun hb => evNext ?_)))))))
    · rw [exB_true (p := fun i => !ptOk (iv (hdV ((atV (hdV (tlV (tlV (f0 k))))) i))) (iv (hdV (tlV ((atV (hdV (tlV (tlV (f0 k))))) i))))) i hlt hb]; rfl
    · rw [w2]
      refine ih hlt (fun j h3 => ?_)
      by_cases e : j = i
      · subst e; exact hb
      · exact hj j (by omega)
  · have e : i = (lenV (hdV (tlV (tlV (f0 k))))) := by have : ¬ (i : Int) < ((lenV (hdV (tlV (tlV (f0 k))))) : Int) := of_decide_eq_false h; omega
    rw [show exB (lenV (hdV (tlV (tlV (f0 k))))) (fun i => !ptOk (iv (hdV ((atV (hdV (tlV (tlV (f0 k))))) i))) (iv (hdV (tlV ((atV (hdV (tlV (tlV (f0 k))))) i))))) = false from exB_false fun j h => hj j (by omega), cond_false]
    refine evObc (evObt (evBr (fun h => evRet (by rw [show (!F71_0 (iv (hdV (tlV (tlV (tlV (f0 k)))))) 100 30000) = true from h]; rfl)) (fun h => ?_)))
    rw [show (!F71_0 (iv (hdV (tlV (tlV (tlV (f0 k)))))) 100 30000) = false from h, cond_false]
    refine evEnter (c70_2 n0 f0 n2 f2 n4 f4 n6 f6 k h8 h2 _ _ 1 (by omega) (by omega) (fun j h => ?_))
    have : j = 0 := by omega
    subst this; rfl
theorem ev70_0 (n0 : Nat) (f0 : FnV) (n2 : Nat) (f2 : FnV) (n4 : Nat) (f4 : FnV) (n6 : Nat) (f6 : FnV) (x8 : Int) (hp : 0 <= x8 /\ x8 < n0 /\ n0 <= 9223372036854775807 /\ SzOk n0 f0) : evR (Ev (st70 n0 f0 n2 f2 n4 f4 n6 f6 x8)) (m70 n0 f0 n2 f2 n4 f4 n6 f6 x8) (.int .i64 (F70 n0 f0 x8)) := by
  obtain ⟨h0, h1, h2, h3⟩ := hp
  obtain ⟨k, rfl⟩ : ∃ k : Nat, x8 = (k : Int) := ⟨x8.toNat, by omega⟩
  have hk : k < n0 := by omega
  refine evObLt hk (evObp (h3 k hk) (evObt ?_))
  unfold F70
  simp only [Int.toNat_natCast]
  refine evBr (fun h => evRet (by rw [show (!F122 (sv (hdV (f0 k)))) = true from h]; rfl)) (fun h => ?_)
  rw [show (!F122 (sv (hdV (f0 k)))) = false from h, cond_false]
  refine evEnter (scan (n := k) (by omega) (fun i => (sv (hdV (f0 i))).toList == (sv (hdV (f0 k))).toList) (P := fun i => Ev (st70 n0 f0 n2 f2 n4 f4 n6 f6 (k : Int)) (.L0 i) _) (fun i hlt hj next => Ev.of rfl (evBrLt hlt (evObLt (by omega) (evBr (fun hb => evRet ?_) (fun hb => evNext (next hb))))))
    (fun hj => Ev.of rfl (evBrGe ?_)))
  · rw [exB_true i hlt hb]; rfl
  · rw [exB_false hj, cond_false]
    unfold roadE
    refine evObc (evObt (evBr (fun h => evRet (by rw [show (!F71_0 (iv (hdV (tlV (f0 k)))) 0 3) = true from h]; rfl)) (fun h => ?_)))
    rw [show (!F71_0 (iv (hdV (tlV (f0 k)))) 0 3) = false from h, cond_false]
    refine evAsm1 fun hn => evBr (fun h => evRet (by rw [show decide (((lenV (hdV (tlV (tlV (f0 k))))) : Int) < 2) = true from h]; rfl)) (fun h2 => ?_)
    rw [show decide (((lenV (hdV (tlV (tlV (f0 k))))) : Int) < 2) = false from h2, cond_false]
    refine evAsm1 fun hn => evBr (fun h => evRet (by rw [show decide (8 < ((lenV (hdV (tlV (tlV (f0 k))))) : Int)) = true from h]; rfl)) (fun h8 => ?_)
    rw [show decide (8 < ((lenV (hdV (tlV (tlV (f0 k))))) : Int)) = false from h8, cond_false]
    have h2 : 2 <= (lenV (hdV (tlV (tlV (f0 k))))) := by have : ¬ (((lenV (hdV (tlV (tlV (f0 k))))) : Int) < 2) := of_decide_eq_false h2; omega
    have h8 : (lenV (hdV (tlV (tlV (f0 k))))) <= 8 := by have : ¬ (8 < ((lenV (hdV (tlV (tlV (f0 k))))) : Int)) := of_decide_eq_false h8; omega
    exact evEnter (c70_1 n0 f0 n2 f2 n4 f4 n6 f6 k h8 h2 _ 0 (by omega) (fun j h => by omega))
theorem ev70 (n0 : Nat) (f0 : FnV) (n2 : Nat) (f2 : FnV) (n4 : Nat) (f4 : FnV) (n6 : Nat) (f6 : FnV) (x8 : Int) (hp : 0 <= x8 /\ x8 < n0 /\ n0 <= 9223372036854775807 /\ SzOk n0 (elV tyR f0)) : evR (Ev (st70 n0 f0 n2 f2 n4 f4 n6 f6 x8)) (m70 n0 f0 n2 f2 n4 f4 n6 f6 x8) (.int .i64 (F70 n0 (elV tyR f0) x8)) := ev70_0 n0 f0 n2 f2 n4 f4 n6 f6 x8 hp
def C70 : PCon := mkC [.agg [.sl tyR, .sl tyT, .sl tyF, .sl tyC], .int .i64] (fun
  | [.agg [.sl n0 f0, .sl n2 f2, .sl n4 f4, .sl n6 f6], .int _ x8] => 0 <= x8 /\ x8 < n0 /\ n0 <= 9223372036854775807 /\ SzOk n0 f0
  | _ => False) fun
  | [.agg [.sl n0 f0, .sl n2 f2, .sl n4 f4, .sl n6 f6], .int _ x8] => .int .i64 (F70 n0 f0 x8)
  | _ => .any
theorem ok70 : (vP C70).Ok Tryz.prog 70 := mkE tabB11 Tryz.func70 (by kernel_rfl) fun ds hp => rfs (run70 ..) (ev70 _ _ _ _ _ _ _ _ _ hp)
inductive S62 where
  | L0 (i_100 : Int)
def inv62 (n0 : Nat) (f0 : FnV) : S62 -> Env × List O × Option Ex
  | .L0 i_100 => ([(11, vi i_100), (10, vi (↑n0 : Int)), (9, V.sl n0 (elV tyR f0)), (5, vi 0), (4, vi 0), (0, V.sl n0 (elV tyR f0)), (1, V.fn 63 [] [])], [], none)
def id62 : S62 -> JJ
  | .L0 i_100 => (0, [])
def rl62 (n0 : Nat) (f0 : FnV) : T (Leaf JJ) := runL JJ ctB11 u0 s62 [V.sl n0 (elV tyR f0), V.fn 63 [] []]
def lp62_0 (n0 : Nat) (f0 : FnV) (cx : List Cx) : Lp JJ := lpT (atT (rl62 n0 f0) [])
def lp62 (n0 : Nat) (f0 : FnV) : JJ -> Lp JJ
  | (0, cx) => lp62_0 n0 f0 cx
  | (_, cx) => lp62_0 n0 f0 cx
def D62 (n0 : Nat) (f0 : FnV) : LD JJ S62 := ⟨id62, lp62 n0 f0, inv62 n0 f0⟩
def st62 (n0 : Nat) (f0 : FnV) : S62 -> RT S62
  | .L0 i_100 => .br (decide (i_100 < (↑n0 : Int))) (.ob (decide (0 <= i_100 /\ i_100 < (↑n0 : Int))) (.ob (decide (0 <= i_100 /\ i_100 <= (↑n0 : Int))) (.obp ((sv (hdV (f0 i_100.toNat))).size <= (9223372036854775807 : Nat)) (.obt (.br (F63 (i_100.toNat - 0) (fun i => elV tyR f0 (0 + i)) (sv (hdV (f0 i_100.toNat))) (iv (hdV (tlV (f0 i_100.toNat)))) (lenV (hdV (tlV (tlV (f0 i_100.toNat))))) (fun i => views tp2 (atV (hdV (tlV (tlV (f0 i_100.toNat)))) i)) (iv (hdV (tlV (tlV (tlV (f0 i_100.toNat)))))) != 0) (.ret (V.tup [vi i_100, vi (F63 (i_100.toNat - 0) (fun i => elV tyR f0 (0 + i)) (sv (hdV (f0 i_100.toNat))) (iv (hdV (tlV (f0 i_100.toNat)))) (lenV (hdV (tlV (tlV (f0 i_100.toNat))))) (fun i => views tp2 (atV (hdV (tlV (tlV (f0 i_100.toNat)))) i)) (iv (hdV (tlV (tlV (tlV (f0 i_100.toNat)))))))])) (.next [] (S62.L0 (i64.wrap (i_100 + 1))) [])))))) (.ret (V.tup [vi 0, vi 0]))
def m62 (n0 : Nat) (f0 : FnV) : RT S62 := .asm (true = true -> n0 <= 9223372036854775807) (.enter [] (S62.L0 (0)) [])
theorem run62 (n0 : Nat) (f0 : FnV) : Fits ctB11 u0 (D62 n0 f0) (rl62 n0 f0) (m62 n0 f0) (st62 n0 f0) := ⟨⟨by kernel_rfl, by kernel_rfl⟩, fun s => match s with | .L0 i_100 => ⟨by kernel_rfl, by kernel_rfl⟩⟩
def c62 (n0 : Nat) (f0 : FnV) (ii : Nat) : Int := (F63 (ii - 0) (fun i => elV tyR f0 (0 + i)) (sv (hdV (f0 ii))) (iv (hdV (tlV (f0 ii)))) (lenV (hdV (tlV (tlV (f0 ii))))) (fun i => views tp2 (atV (hdV (tlV (tlV (f0 ii)))) i)) (iv (hdV (tlV (tlV (tlV (f0 ii)))))))
def F62_0 (n0 : Nat) (f0 : FnV) : Int := firstI n0 (c62 n0 f0)
def F62_1 (n0 : Nat) (f0 : FnV) : Int := firstE n0 (c62 n0 f0)
theorem ev62_0 (n0 : Nat) (f0 : FnV) (hp : SzOk n0 f0) : evR (Ev (st62 n0 f0)) (m62 n0 f0) (.tup [.int .i64 (F62_0 n0 f0), .int .i64 (F62_1 n0 f0)]) := evAsm1 fun hn => evEnter (first_ev (Q := fun i => (sv (hdV (f0 i))).size <= 9223372036854775807) (fun i x => .obp ((sv (hdV (f0 i))).size <= 9223372036854775807) (.obt x)) (fun i x r h hx => evObp h (evObt hx)) (fun _ _ => rfl) hn hp fun i => rfl)
theorem ev62 (n0 : Nat) (f0 : FnV) (hp : SzOk n0 (elV tyR f0)) : evR (Ev (st62 n0 f0)) (m62 n0 f0) (.tup [.int .i64 (F62_0 n0 (elV tyR f0)), .int .i64 (F62_1 n0 (elV tyR f0))]) := ev62_0 n0 f0 hp
def C62 : PCon := mkC [.sl tyR, .fn 63 [] []] (fun
  | [.sl n0 f0, .fn _ [] []] => SzOk n0 f0
  | _ => False) fun
  | [.sl n0 f0, .fn _ [] []] => .tup [.int .i64 (F62_0 n0 f0), .int .i64 (F62_1 n0 f0)]
  | _ => .any
theorem ok62 : (vP C62).Ok Tryz.prog 62 := mkE tabB11 Tryz.func62 (by kernel_rfl) fun ds hp => rfs (run62 ..) (ev62 _ _ hp)
inductive S68 where
  | L0 (i_100 : Int)
def inv68 (n0 : Nat) (f0 : FnV) : S68 -> Env × List O × Option Ex
  | .L0 i_100 => ([(11, vi i_100), (10, vi (↑n0 : Int)), (9, V.sl n0 (elV tyC f0)), (5, vi 0), (4, vi 0), (0, V.sl n0 (elV tyC f0)), (1, V.fn 69 [] [])], [], none)
def id68 : S68 -> JJ
  | .L0 i_100 => (0, [])
def rl68 (n0 : Nat) (f0 : FnV) : T (Leaf JJ) := runL JJ ctB11 u0 s68 [V.sl n0 (elV tyC f0), V.fn 69 [] []]
def lp68_0 (n0 : Nat) (f0 : FnV) (cx : List Cx) : Lp JJ := lpT (atT (rl68 n0 f0) [])
def lp68 (n0 : Nat) (f0 : FnV) : JJ -> Lp JJ
  | (0, cx) => lp68_0 n0 f0 cx
  | (_, cx) => lp68_0 n0 f0 cx
def D68 (n0 : Nat) (f0 : FnV) : LD JJ S68 := ⟨id68, lp68 n0 f0, inv68 n0 f0⟩
def st68 (n0 : Nat) (f0 : FnV) : S68 -> RT S68
  | .L0 i_100 => .br (decide (i_100 < (↑n0 : Int))) (.ob (decide (0 <= i_100 /\ i_100 < (↑n0 : Int))) (.ob (decide (0 <= i_100 /\ i_100 <= (↑n0 : Int))) (.obp ((sv (hdV (f0 i_100.toNat))).size <= (9223372036854775807 : Nat)) (.obt (.br (F69_0 (i_100.toNat - 0) (fun i => elV tyC f0 (0 + i)) (sv (hdV (f0 i_100.toNat))) (iv (hdV (tlV (f0 i_100.toNat)))) (iv (hdV (tlV (tlV (f0 i_100.toNat))))) (iv (hdV (tlV (tlV (tlV (f0 i_100.toNat)))))) (iv (hdV (tlV (tlV (tlV (tlV (f0 i_100.toNat))))))) (iv (hdV (tlV (tlV (tlV (tlV (tlV (f0 i_100.toNat)))))))) != 0) (.ret (V.tup [vi i_100, vi (F69_0 (i_100.toNat - 0) (fun i => elV tyC f0 (0 + i)) (sv (hdV (f0 i_100.toNat))) (iv (hdV (tlV (f0 i_100.toNat)))) (iv (hdV (tlV (tlV (f0 i_100.toNat))))) (iv (hdV (tlV (tlV (tlV (f0 i_100.toNat)))))) (iv (hdV (tlV (tlV (tlV (tlV (f0 i_100.toNat))))))) (iv (hdV (tlV (tlV (tlV (tlV (tlV (f0 i_100.toNat)))))))))])) (.next [] (S68.L0 (i64.wrap (i_100 + 1))) [])))))) (.ret (V.tup [vi 0, vi 0]))
def m68 (n0 : Nat) (f0 : FnV) : RT S68 := .asm (true = true -> n0 <= 9223372036854775807) (.enter [] (S68.L0 (0)) [])
theorem run68 (n0 : Nat) (f0 : FnV) : Fits ctB11 u0 (D68 n0 f0) (rl68 n0 f0) (m68 n0 f0) (st68 n0 f0) := ⟨⟨by kernel_rfl, by kernel_rfl⟩, fun s => match s with | .L0 i_100 => ⟨by kernel_rfl, by kernel_rfl⟩⟩
def c68 (n0 : Nat) (f0 : FnV) (ii : Nat) : Int := (F69_0 (ii - 0) (fun i => elV tyC f0 (0 + i)) (sv (hdV (f0 ii))) (iv (hdV (tlV (f0 ii)))) (iv (hdV (tlV (tlV (f0 ii))))) (iv (hdV (tlV (tlV (tlV (f0 ii)))))) (iv (hdV (tlV (tlV (tlV (tlV (f0 ii))))))) (iv (hdV (tlV (tlV (tlV (tlV (tlV (f0 ii)))))))))
def F68_0 (n0 : Nat) (f0 : FnV) : Int := firstI n0 (c68 n0 f0)
def F68_1 (n0 : Nat) (f0 : FnV) : Int := firstE n0 (c68 n0 f0)
theorem ev68_0 (n0 : Nat) (f0 : FnV) (hp : SzOk n0 f0) : evR (Ev (st68 n0 f0)) (m68 n0 f0) (.tup [.int .i64 (F68_0 n0 f0), .int .i64 (F68_1 n0 f0)]) := evAsm1 fun hn => evEnter (first_ev (Q := fun i => (sv (hdV (f0 i))).size <= 9223372036854775807) (fun i x => .obp ((sv (hdV (f0 i))).size <= 9223372036854775807) (.obt x)) (fun i x r h hx => evObp h (evObt hx)) (fun _ _ => rfl) hn hp fun i => rfl)
theorem ev68 (n0 : Nat) (f0 : FnV) (hp : SzOk n0 (elV tyC f0)) : evR (Ev (st68 n0 f0)) (m68 n0 f0) (.tup [.int .i64 (F68_0 n0 (elV tyC f0)), .int .i64 (F68_1 n0 (elV tyC f0))]) := ev68_0 n0 f0 hp
def C68 : PCon := mkC [.sl tyC, .fn 69 [] []] (fun
  | [.sl n0 f0, .fn _ [] []] => SzOk n0 f0
  | _ => False) fun
  | [.sl n0 f0, .fn _ [] []] => .tup [.int .i64 (F68_0 n0 f0), .int .i64 (F68_1 n0 f0)]
  | _ => .any
theorem ok68 : (vP C68).Ok Tryz.prog 68 := mkE tabB11 Tryz.func68 (by kernel_rfl) fun ds hp => rfs (run68 ..) (ev68 _ _ hp)
end
end Go.Dx
namespace Go.Dx
open Go.IntKind (i64 u64 u8)
open Go.Sx Go.Proofs
set_option maxRecDepth 100000
set_option linter.unusedVariables false
set_option linter.unusedSimpArgs false
noncomputable section
def ctB12 : CTab := (70, .con C70) :: (62, .con C62) :: (68, .con C68) :: ctB11
theorem tabB12 : TabOk Tryz.prog eqs its ctB12 := .con ok70 (.con ok62 (.con ok68 (tabB11)))
inductive S24 where
  | L0 (i_100 : Int)
  | L1 (i_200 i_201 : Int)
  | L2 (i_300 i_301 i_302 : Int)
  | L3 (i_400 i_401 i_402 i_403 : Int)
def inv24 (n0 : Nat) (f0 : FnV) (n2 : Nat) (f2 : FnV) (n4 : Nat) (f4 : FnV) (n6 : Nat) (f6 : FnV) : S24 -> Env × List O × Option Ex
  | .L0 i_100 => ([(5, vi i_100), (34, V.kb false), (29, V.bool (bif bif decide (8 < (↑n0 : Int)) then true else decide (12 < (↑n2 : Int)) then true else decide (8 < (↑n4 : Int)))), (28, V.bool (bif bif decide (8 < (↑n0 : Int)) then true else decide (12 < (↑n2 : Int)) then true else decide (8 < (↑n4 : Int)))), (23, V.bool (bif decide (8 < (↑n0 : Int)) then true else decide (12 < (↑n2 : Int)))), (22, V.bool (bif decide (8 < (↑n0 : Int)) then true else decide (12 < (↑n2 : Int)))), (17, V.bool (decide (8 < (↑n0 : Int)))), (16, V.bool (decide (8 < (↑n0 : Int)))), (15, vi (↑n0 : Int)), (14, V.sl n0 (elV tyR f0)), (13, V.pl 0 0), (4, vi 0), (3, vi 0), (2, vi 0), (1, V.pl 0 0), (0, scV n0 f0 n2 f2 n4 f4 n6 f6)], [O.cells [V.sl n0 (elV tyR f0), V.sl n2 (elV tyT f2), V.sl n4 (elV tyF f4), V.sl n6 (elV tyC f6)] 27], none)
  | .L1 i_200 i_201 => ([(7, vi i_200), (39, V.kb false), (38, vi (↑n0 : Int)), (37, V.sl n0 (elV tyR f0)), (36, V.pl 0 0), (35, vi i_201), (5, vi i_201), (34, V.kb false), (29, V.bool (bif bif decide (8 < (↑n0 : Int)) then true else decide (12 < (↑n2 : Int)) then true else decide (8 < (↑n4 : Int)))), (28, V.bool (bif bif decide (8 < (↑n0 : Int)) then true else decide (12 < (↑n2 : Int)) then true else decide (8 < (↑n4 : Int)))), (23, V.bool (bif decide (8 < (↑n0 : Int)) then true else decide (12 < (↑n2 : Int)))), (22, V.bool (bif decide (8 < (↑n0 : Int)) then true else decide (12 < (↑n2 : Int)))), (17, V.bool (decide (8 < (↑n0 : Int)))), (16, V.bool (decide (8 < (↑n0 : Int)))), (15, vi (↑n0 : Int)), (14, V.sl n0 (elV tyR f0)), (13, V.pl 0 0), (4, vi 0), (3, vi 0), (2, vi 0), (1, V.pl 0 0), (0, scV n0 f0 n2 f2 n4 f4 n6 f6)], [O.cells [V.sl n0 (elV tyR f0), V.sl n2 (elV tyT f2), V.sl n4 (elV tyF f4), V.sl n6 (elV tyC f6)] 27], none)
  | .L2 i_300 i_301 i_302 => ([(9, vi i_300), (53, V.kb false), (52, vi (↑n2 : Int)), (51, V.sl n2 (elV tyT f2)), (50, V.pl 0 1), (49, vi i_301), (7, vi i_301), (39, V.kb false), (38, vi (↑n0 : Int)), (37, V.sl n0 (elV tyR f0)), (36, V.pl 0 0), (35, vi i_302), (5, vi i_302), (34, V.kb false), (29, V.bool (bif bif decide (8 < (↑n0 : Int)) then true else decide (12 < (↑n2 : Int)) then true else decide (8 < (↑n4 : Int)))), (28, V.bool (bif bif decide (8 < (↑n0 : Int)) then true else decide (12 < (↑n2 : Int)) then true else decide (8 < (↑n4 : Int)))), (23, V.bool (bif decide (8 < (↑n0 : Int)) then true else decide (12 < (↑n2 : Int)))), (22, V.bool (bif decide (8 < (↑n0 : Int)) then true else decide (12 < (↑n2 : Int)))), (17, V.bool (decide (8 < (↑n0 : Int)))), (16, V.bool (decide (8 < (↑n0 : Int)))), (15, vi (↑n0 : Int)), (14, V.sl n0 (elV tyR f0)), (13, V.pl 0 0), (4, vi 0), (3, vi 0), (2, vi 0), (1, V.pl 0 0), (0, scV n0 f0 n2 f2 n4 f4 n6 f6)], [O.cells [V.sl n0 (elV tyR f0), V.sl n2 (elV tyT f2), V.sl n4 (elV tyF f4), V.sl n6 (elV tyC f6)] 27], none)
  | .L3 i_400 i_401 i_402 i_403 => ([(11, vi i_400), (96, V.kb false), (95, vi (↑n4 : Int)), (94, V.sl n4 (elV tyF f4)), (93, V.pl 0 2), (92, vi i_401), (9, vi i_401), (53, V.kb false), (52, vi (↑n2 : Int)), (51, V.sl n2 (elV tyT f2)), (50, V.pl 0 1), (49, vi i_402), (7, vi i_402), (39, V.kb false), (38, vi (↑n0 : Int)), (37, V.sl n0 (elV tyR f0)), (36, V.pl 0 0), (35, vi i_403), (5, vi i_403), (34, V.kb false), (29, V.bool (bif bif decide (8 < (↑n0 : Int)) then true else decide (12 < (↑n2 : Int)) then true else decide (8 < (↑n4 : Int)))), (28, V.bool (bif bif decide (8 < (↑n0 : Int)) then true else decide (12 < (↑n2 : Int)) then true else decide (8 < (↑n4 : Int)))), (23, V.bool (bif decide (8 < (↑n0 : Int)) then true else decide (12 < (↑n2 : Int)))), (22, V.bool (bif decide (8 < (↑n0 : Int)) then true else decide (12 < (↑n2 : Int)))), (17, V.bool (decide (8 < (↑n0 : Int)))), (16, V.bool (decide (8 < (↑n0 : Int)))), (15, vi (↑n0 : Int)), (14, V.sl n0 (elV tyR f0)), (13, V.pl 0 0), (4, vi 0), (3, vi 0), (2, vi 0), (1, V.pl 0 0), (0, scV n0 f0 n2 f2 n4 f4 n6 f6)], [O.cells [V.sl n0 (elV tyR f0), V.sl n2 (elV tyT f2), V.sl n4 (elV tyF f4), V.sl n6 (elV tyC f6)] 27], none)
def id24 : S24 -> JJ
  | .L0 i_100 => (0, [])
  | .L1 i_200 i_201 => (1, [])
  | .L2 i_300 i_301 i_302 => (2, [])
  | .L3 i_400 i_401 i_402 i_403 => (3, [])
def rl24 (n0 : Nat) (f0 : FnV) (n2 : Nat) (f2 : FnV) (n4 : Nat) (f4 : FnV) (n6 : Nat) (f6 : FnV) : T (Leaf JJ) := runL JJ ctB12 u0 s24 [scV n0 f0 n2 f2 n4 f4 n6 f6]
def lp24_0 (n0 : Nat) (f0 : FnV) (n2 : Nat) (f2 : FnV) (n4 : Nat) (f4 : FnV) (n6 : Nat) (f6 : FnV) (cx : List Cx) : Lp JJ := lpT (atT (rl24 n0 f0 n2 f2 n4 f4 n6 f6) [false])
def lp24_1 (n0 : Nat) (f0 : FnV) (n2 : Nat) (f2 : FnV) (n4 : Nat) (f4 : FnV) (n6 : Nat) (f6 : FnV) (cx : List Cx) : Lp JJ := lpT (atT (rdT ctB12 u0 (0, []) (lp24_0 n0 f0 n2 f2 n4 f4 n6 f6 []) (inv24 n0 f0 n2 f2 n4 f4 n6 f6 (.L0 (0 : Int))).1 (inv24 n0 f0 n2 f2 n4 f4 n6 f6 (.L0 (0 : Int))).2.1 (inv24 n0 f0 n2 f2 n4 f4 n6 f6 (.L0 (0 : Int))).2.2) [false])
def lp24_2 (n0 : Nat) (f0 : FnV) (n2 : Nat) (f2 : FnV) (n4 : Nat) (f4 : FnV) (n6 : Nat) (f6 : FnV) (cx : List Cx) : Lp JJ := lpT (atT (rdT ctB12 u0 (1, []) (lp24_1 n0 f0 n2 f2 n4 f4 n6 f6 []) (inv24 n0 f0 n2 f2 n4 f4 n6 f6 (.L1 (0 : Int) (0 : Int))).1 (inv24 n0 f0 n2 f2 n4 f4 n6 f6 (.L1 (0 : Int) (0 : Int))).2.1 (inv24 n0 f0 n2 f2 n4 f4 n6 f6 (.L1 (0 : Int) (0 : Int))).2.2) [false])
def lp24_3 (n0 : Nat) (f0 : FnV) (n2 : Nat) (f2 : FnV) (n4 : Nat) (f4 : FnV) (n6 : Nat) (f6 : FnV) (cx : List Cx) : Lp JJ := lpT (atT (rdT ctB12 u0 (2, []) (lp24_2 n0 f0 n2 f2 n4 f4 n6 f6 []) (inv24 n0 f0 n2 f2 n4 f4 n6 f6 (.L2 (0 : Int) (0 : Int) (0 : Int))).1 (inv24 n0 f0 n2 f2 n4 f4 n6 f6 (.L2 (0 : Int) (0 : Int) (0 : Int))).2.1 (inv24 n0 f0 n2 f2 n4 f4 n6 f6 (.L2 (0 : Int) (0 : Int) (0 : Int))).2.2) [false])
def lp24 (n0 : Nat) (f0 : FnV) (n2 : Nat) (f2 : FnV) (n4 : Nat) (f4 : FnV) (n6 : Nat) (f6 : FnV) : JJ -> Lp JJ
  | (0, cx) => lp24_0 n0 f0 n2 f2 n4 f4 n6 f6 cx
  | (1, cx) => lp24_1 n0 f0 n2 f2 n4 f4 n6 f6 cx
  | (2, cx) => lp24_2 n0 f0 n2 f2 n4 f4 n6 f6 cx
  | (3, cx) => lp24_3 n0 f0 n2 f2 n4 f4 n6 f6 cx
  | (_, cx) => lp24_0 n0 f0 n2 f2 n4 f4 n6 f6 cx
def D24 (n0 : Nat) (f0 : FnV) (n2 : Nat) (f2 : FnV) (n4 : Nat) (f4 : FnV) (n6 : Nat) (f6 : FnV) : LD JJ S24 := ⟨id24, lp24 n0 f0 n2 f2 n4 f4 n6 f6, inv24 n0 f0 n2 f2 n4 f4 n6 f6⟩
def st24 (n0 : Nat) (f0 : FnV) (n2 : Nat) (f2 : FnV) (n4 : Nat) (f4 : FnV) (n6 : Nat) (f6 : FnV) : S24 -> RT S24
  | .L0 i_100 => .asm (true = true -> n0 <= 9223372036854775807) (.br (decide (i_100 < (↑n0 : Int))) (.obp ((0 : Int) <= i_100 /\ i_100 < (↑n0 : Int) /\ n0 <= (9223372036854775807 : Nat) /\ ∀ (i : Nat), i < n0 -> (sv (hdV (f0 i))).size <= (9223372036854775807 : Nat)) (.obt (.br (F70 n0 (elV tyR f0) i_100 != 0) (.ret (V.tup [vi 1, vi i_100, vi (F70 n0 (elV tyR f0) i_100)])) (.next [some (some 0)] (S24.L0 (i64.wrap (i_100 + 1))) [])))) (.enter [some (some 0)] (S24.L1 (0) (i_100)) []))
  | .L1 i_200 i_201 => .asm (true = true -> n2 <= 9223372036854775807) (.br (decide (i_200 < (↑n2 : Int))) (.ob (decide (0 <= i_200 /\ i_200 < (↑n2 : Int))) (.obc (.obt (.obi (.br (!!F51 2 (elV tp1 (secF [vi (iv (hdV (f2 i_200.toNat))), vi (iv (hdV (tlV (f2 i_200.toNat))))] 0 ((1 + 1 - 0) / 2)))) (.ob (!!F51 2 (elV tp1 (secF [vi (iv (hdV (f2 i_200.toNat))), vi (iv (hdV (tlV (f2 i_200.toNat))))] 0 ((1 + 1 - 0) / 2)))) (.obc (.obt (.obi (.obi (.obi (.obi (.obi (.obi (.obi (.obi (.obi (.obi (.obi (.br (bif bif bif !F71_0 (iv (hdV (tlV (tlV (f2 i_200.toNat))))) 1 20000 then true else decide (iv (hdV (tlV (tlV (tlV (f2 i_200.toNat))))) < 0) then true else decide (iv (hdV (tlV (tlV (tlV (tlV (f2 i_200.toNat)))))) <= iv (hdV (tlV (tlV (tlV (f2 i_200.toNat)))))) then true else decide (1000 < iv (hdV (tlV (tlV (tlV (tlV (f2 i_200.toNat)))))))) (.ret (V.tup [vi 2, vi i_200, vi 7])) (.next [some (some 0)] (S24.L1 (i64.wrap (i_200 + 1)) (i_201)) [])))))))))))))))) (.ret (V.tup [vi 2, vi i_200, vi 7]))))))) (.enter [some (some 0)] (S24.L2 (0) (i_200) (i_201)) []))
  | .L2 i_300 i_301 i_302 => .asm (true = true -> n4 <= 9223372036854775807) (.br (decide (i_300 < (↑n4 : Int))) (.ob (decide (0 <= i_300 /\ i_300 < (↑n4 : Int))) (.obc (.obt (.br ((F72 (iv (hdV (f4 i_300.toNat))) (iv (hdV (tlV (f4 i_300.toNat)))) (iv (hdV (tlV (tlV (f4 i_300.toNat))))) (iv (hdV (tlV (tlV (tlV (f4 i_300.toNat)))))) (lenV (hdV (tlV (tlV (tlV (tlV (f4 i_300.toNat))))))) fun i => views tp4 (atV (hdV (tlV (tlV (tlV (tlV (f4 i_300.toNat)))))) i)) != 0) (.ret (V.tup [vi 3, vi i_300, vi (F72 (iv (hdV (f4 i_300.toNat))) (iv (hdV (tlV (f4 i_300.toNat)))) (iv (hdV (tlV (tlV (f4 i_300.toNat))))) (iv (hdV (tlV (tlV (tlV (f4 i_300.toNat)))))) (lenV (hdV (tlV (tlV (tlV (tlV (f4 i_300.toNat))))))) fun i => views tp4 (atV (hdV (tlV (tlV (tlV (tlV (f4 i_300.toNat)))))) i))])) (.next [some (some 0)] (S24.L2 (i64.wrap (i_300 + 1)) (i_301) (i_302)) []))))) (.enter [some (some 0)] (S24.L3 (0) (i_300) (i_301) (i_302)) []))
  | .L3 i_400 i_401 i_402 i_403 => .asm (true = true -> n6 <= 9223372036854775807) (.br (decide (i_400 < (↑n6 : Int))) (.obp ((0 : Int) <= i_400 /\ i_400 < (↑n6 : Int) /\ n6 <= (9223372036854775807 : Nat) /\ ∀ (i : Nat), i < n6 -> (sv (hdV (f6 i))).size <= (9223372036854775807 : Nat)) (.obt (.br (F73 n6 (elV tyC f6) i_400 != 0) (.ret (V.tup [vi 4, vi i_400, vi (F73 n6 (elV tyC f6) i_400)])) (.next [some (some 0)] (S24.L3 (i64.wrap (i_400 + 1)) (i_401) (i_402) (i_403)) [])))) (.ret (V.tup [vi 0, vi 0, vi 0])))
def m24 (n0 : Nat) (f0 : FnV) (n2 : Nat) (f2 : FnV) (n4 : Nat) (f4 : FnV) (n6 : Nat) (f6 : FnV) : RT S24 := .asm (true = true -> n0 <= 9223372036854775807) (.obi (.obi (.asm ((!decide (8 < (↑n0 : Int))) = true -> n2 <= 9223372036854775807) (.obi (.obi (.obi (.obi (.asm ((!bif decide (8 < (↑n0 : Int)) then true else decide (12 < (↑n2 : Int))) = true -> n4 <= 9223372036854775807) (.obi (.obi (.obi (.obi (.asm ((!bif bif decide (8 < (↑n0 : Int)) then true else decide (12 < (↑n2 : Int)) then true else decide (8 < (↑n4 : Int))) = true -> n6 <= 9223372036854775807) (.obi (.obi (.br (bif bif bif decide (8 < (↑n0 : Int)) then true else decide (12 < (↑n2 : Int)) then true else decide (8 < (↑n4 : Int)) then true else decide (24 < (↑n6 : Int))) (.ret (V.tup [vi 0, vi 0, vi 3])) (.enter [some (some 0)] (S24.L0 (0)) [])))))))))))))))))
theorem run24 (n0 : Nat) (f0 : FnV) (n2 : Nat) (f2 : FnV) (n4 : Nat) (f4 : FnV) (n6 : Nat) (f6 : FnV) : Fits ctB12 u0 (D24 n0 f0 n2 f2 n4 f4 n6 f6) (rl24 n0 f0 n2 f2 n4 f4 n6 f6) (m24 n0 f0 n2 f2 n4 f4 n6 f6) (st24 n0 f0 n2 f2 n4 f4 n6 f6) := ⟨⟨by kernel_rfl, by kernel_rfl⟩, fun s => match s with | .L0 i_100 => ⟨by kernel_rfl, by kernel_rfl⟩ | .L1 i_200 i_201 => ⟨by kernel_rfl, by kernel_rfl⟩ | .L2 i_300 i_301 i_302 => ⟨by kernel_rfl, by kernel_rfl⟩ | .L3 i_400 i_401 i_402 i_403 => ⟨by kernel_rfl, by kernel_rfl⟩⟩
def tri (t : Int × Int × Int) : V := .tup [.int .i64 t.1, .int .i64 t.2.1, .int .i64 t.2.2]
def treeE (x y a z w : Int) : Int := bif !!ptOk x y then (bif (bif bif bif !F71_0 a 1 20000 then true else decide (z < 0) then true else decide (w <= z) then true else decide (1000 < w)) then 7 else 0) else 7
def r24 (n : Nat) (c : Nat -> Int) (k : Int) (z : Int × Int × Int) : Int × Int × Int := bif firstE n c != 0 then (k, firstI n c, firstE n c) else z
def cR (n0 : Nat) (f0 : FnV) (i : Nat) : Int := F70 n0 (elV tyR f0) (i : Int)
def cT (f2 : FnV) (i : Nat) : Int := treeE (iv (hdV (f2 i))) (iv (hdV (tlV (f2 i)))) (iv (hdV (tlV (tlV (f2 i))))) (iv (hdV (tlV (tlV (tlV (f2 i)))))) (iv (hdV (tlV (tlV (tlV (tlV (f2 i)))))))
def cF (f4 : FnV) (i : Nat) : Int := F72 (iv (hdV (f4 i))) (iv (hdV (tlV (f4 i)))) (iv (hdV (tlV (tlV (f4 i))))) (iv (hdV (tlV (tlV (tlV (f4 i)))))) (lenV (hdV (tlV (tlV (tlV (tlV (f4 i))))))) fun j => views tp4 (atV (hdV (tlV (tlV (tlV (tlV (f4 i)))))) j)
def cC (n6 : Nat) (f6 : FnV) (i : Nat) : Int := F73 n6 (elV tyC f6) (i : Int)
def z3 (n6 : Nat) (f6 : FnV) : Int × Int × Int := r24 n6 (cC n6 f6) 4 (0, 0, 0)
def z2 (n4 : Nat) (f4 : FnV) (n6 : Nat) (f6 : FnV) : Int × Int × Int := r24 n4 (cF f4) 3 (z3 n6 f6)
def z1 (n2 : Nat) (f2 : FnV) (n4 : Nat) (f4 : FnV) (n6 : Nat) (f6 : FnV) : Int × Int × Int := r24 n2 (cT f2) 2 (z2 n4 f4 n6 f6)
def long (n0 : Nat) (f0 : FnV) (n2 : Nat) (f2 : FnV) (n4 : Nat) (f4 : FnV) (n6 : Nat) (f6 : FnV) : Bool := bif bif bif decide (8 < (n0 : Int)) then true else decide (12 < (n2 : Int)) then true else decide (8 < (n4 : Int)) then true else decide (24 < (n6 : Int))
def F24 (n0 : Nat) (f0 : FnV) (n2 : Nat) (f2 : FnV) (n4 : Nat) (f4 : FnV) (n6 : Nat) (f6 : FnV) : Int × Int × Int := bif long n0 f0 n2 f2 n4 f4 n6 f6 then (0, 0, 3) else r24 n0 (cR n0 f0) 1 (z1 n2 f2 n4 f4 n6 f6)
def F24_0 (n0 : Nat) (f0 : FnV) (n2 : Nat) (f2 : FnV) (n4 : Nat) (f4 : FnV) (n6 : Nat) (f6 : FnV) : Int := (F24 n0 f0 n2 f2 n4 f4 n6 f6).1
def F24_1 (n0 : Nat) (f0 : FnV) (n2 : Nat) (f2 : FnV) (n4 : Nat) (f4 : FnV) (n6 : Nat) (f6 : FnV) : Int := (F24 n0 f0 n2 f2 n4 f4 n6 f6).2.1
def F24_2 (n0 : Nat) (f0 : FnV) (n2 : Nat) (f2 : FnV) (n4 : Nat) (f4 : FnV) (n6 : Nat) (f6 : FnV) : Int := (F24 n0 f0 n2 f2 n4 f4 n6 f6).2.2
theorem r24_hit {n : Nat} {c : Nat -> Int} {i : Nat} (k : Int) (z : Int × Int × Int) (hi : i < n) (hc : (c i != 0) = true) (h : ∀ j, j < i -> (c j != 0) = false) : r24 n c k z = (k, (i : Int), c i) := by
  unfold r24
  obtain ⟨e1, e2⟩ := first_some hi hc h
  rw [e1, e2, hc]; rfl
theorem r24_end {n : Nat} {c : Nat -> Int} (k : Int) (z : Int × Int × Int) (h : ∀ j, j < n -> (c j != 0) = false) : r24 n c k z = z := by
  unfold r24
  obtain ⟨e1, e2⟩ := first_none h
  rw [e1, e2]; rfl
theorem c24_3 (n0 : Nat) (f0 : FnV) (n2 : Nat) (f2 : FnV) (n4 : Nat) (f4 : FnV) (n6 : Nat) (f6 : FnV) (hs : SzOk n6 f6) (i1 i2 i3 : Int) : Ev (st24 n0 f0 n2 f2 n4 f4 n6 f6) (.L3 0 i1 i2 i3) (tri (z3 n6 f6)) := by
  by_cases hn : n6 <= 9223372036854775807
  · refine scan (n := n6) hn (fun i => cC n6 f6 i != 0) (P := fun i => Ev (st24 n0 f0 n2 f2 n4 f4 n6 f6) (.L3 i i1 i2 i3) _) (fun i hlt hj next => Ev.of rfl (evAsm fun _ => evBrLt hlt (evObp ⟨by omega, by omega, hn, hs⟩ (evObt (evBr (fun hb => evRet ?_) (fun hb => evNext (next hb))))))) (fun hj => Ev.of rfl (evAsm fun _ => evBrGe (evRet ?_)))
    · unfold z3; rw [r24_hit 4 _ hlt hb hj]; rfl
    · unfold z3; rw [r24_end 4 _ hj]; rfl
  · exact Ev.of rfl (evAsm fun h => absurd (h rfl) hn)
theorem c24_2 (n0 : Nat) (f0 : FnV) (n2 : Nat) (f2 : FnV) (n4 : Nat) (f4 : FnV) (n6 : Nat) (f6 : FnV) (hs : SzOk n6 f6) (i1 i2 : Int) : Ev (st24 n0 f0 n2 f2 n4 f4 n6 f6) (.L2 0 i1 i2) (tri (z2 n4 f4 n6 f6)) := by
  by_cases hn : n4 <= 9223372036854775807
  · refine scan (n := n4) hn (fun i => cF f4 i != 0) (P := fun i => Ev (st24 n0 f0 n2 f2 n4 f4 n6 f6) (.L2 i i1 i2) _) (fun i hlt hj next => Ev.of rfl (evAsm fun _ => evBrLt hlt (evObLt hlt (evObc (evObt (evBr (fun hb => evRet ?_) (fun hb => evNext (next hb)))))))) (fun hj => Ev.of rfl (evAsm fun _ => evBrGe (evEnter ?_)))
    · unfold z2; rw [r24_hit 3 _ hlt hb hj]; rfl
    · unfold z2; rw [r24_end 3 _ hj]; exact c24_3 n0 f0 n2 f2 n4 f4 n6 f6 hs _ _ _
  · exact Ev.of rfl (evAsm fun h => absurd (h rfl) hn)
theorem c24_1 (n0 : Nat) (f0 : FnV) (n2 : Nat) (f2 : FnV) (n4 : Nat) (f4 : FnV) (n6 : Nat) (f6 : FnV) (hs : SzOk n6 f6) (i1 : Int) : Ev (st24 n0 f0 n2 f2 n4 f4 n6 f6) (.L1 0 i1) (tri (z1 n2 f2 n4 f4 n6 f6)) := by
  by_cases hn : n2 <= 9223372036854775807
  · refine scan (n := n2) hn (fun i => cT f2 i != 0) (P := fun i => Ev (st24 n0 f0 n2 f2 n4 f4 n6 f6) (.L1 i i1) _) (fun i hlt hj next => Ev.of rfl (evAsm fun _ => evBrLt hlt (evObLt hlt (evObc (evObt (evObi (evBr (fun h => evOb h (evObc (evObt ?_))) (fun h => evRet ?_)))))))) (fun hj => Ev.of rfl (evAsm fun _ => evBrGe (evEnter ?_)))
    · repeat refine evObi ?_
      refine evBr (fun hb => evRet ?_) (fun hb => evNext (next ?_))
      · have e : cT f2 i = 7 := by
          unfold cT treeE
          rw [show (!!ptOk (iv (hdV (f2 i))) (iv (hdV (tlV (f2 i))))) = true from h]
          exact (congrArg (fun c => bif c then (7 : Int) else 0) hb).trans rfl
        unfold z1; rw [r24_hit 2 _ hlt (by rw [e]; rfl) hj, e]; rfl
      · have e : cT f2 i = 0 := by
          unfold cT treeE
          rw [show (!!ptOk (iv (hdV (f2 i))) (iv (hdV (tlV (f2 i))))) = true from h]
          exact (congrArg (fun c => bif c then (7 : Int) else 0) hb).trans rfl
        rw [e]; rfl
    · have e : cT f2 i = 7 := by
        unfold cT treeE
        rw [show (!!ptOk (iv (hdV (f2 i))) (iv (hdV (tlV (f2 i))))) = false from h]; rfl
      unfold z1; rw [r24_hit 2 _ hlt (by rw [e]; rfl) hj, e]; rfl
    · unfold z1; rw [r24_end 2 _ hj]; exact c24_2 n0 f0 n2 f2 n4 f4 n6 f6 hs _ _
  · exact Ev.of rfl (evAsm fun h => absurd (h rfl) hn)
theorem c24_0 (n0 : Nat) (f0 : FnV) (n2 : Nat) (f2 : FnV) (n4 : Nat) (f4 : FnV) (n6 : Nat) (f6 : FnV) (hr : SzOk n0 f0) (hs : SzOk n6 f6) : Ev (st24 n0 f0 n2 f2 n4 f4 n6 f6) (.L0 0) (tri (r24 n0 (cR n0 f0) 1 (z1 n2 f2 n4 f4 n6 f6))) := by
  by_cases hn : n0 <= 9223372036854775807
  · refine scan (n := n0) hn (fun i => cR n0 f0 i != 0) (P := fun i => Ev (st24 n0 f0 n2 f2 n4 f4 n6 f6) (.L0 i) _) (fun i hlt hj next => Ev.of rfl (evAsm fun _ => evBrLt hlt (evObp ⟨by omega, by omega, hn, hr⟩ (evObt (evBr (fun hb => evRet ?_) (fun hb => evNext (next hb))))))) (fun hj => Ev.of rfl (evAsm fun _ => evBrGe (evEnter ?_)))
    · rw [r24_hit 1 _ hlt hb hj]; rfl
    · rw [r24_end 1 _ hj]; exact c24_1 n0 f0 n2 f2 n4 f4 n6 f6 hs _
  · exact Ev.of rfl (evAsm fun h => absurd (h rfl) hn)
theorem ev24_0 (n0 : Nat) (f0 : FnV) (n2 : Nat) (f2 : FnV) (n4 : Nat) (f4 : FnV) (n6 : Nat) (f6 : FnV) (hp : SzOk n0 f0 /\ SzOk n6 f6) : evR (Ev (st24 n0 f0 n2 f2 n4 f4 n6 f6)) (m24 n0 f0 n2 f2 n4 f4 n6 f6) (.tup [.int .i64 (F24_0 n0 f0 n2 f2 n4 f4 n6 f6), .int .i64 (F24_1 n0 f0 n2 f2 n4 f4 n6 f6), .int .i64 (F24_2 n0 f0 n2 f2 n4 f4 n6 f6)]) := by
  show evR _ _ (tri (F24 n0 f0 n2 f2 n4 f4 n6 f6))
  unfold F24
  repeat (first | refine evObi ?_ | refine evAsm fun _ => ?_)
  refine evBr (fun h => evRet ?_) (fun h => evEnter ?_)
  · rw [show long n0 f0 n2 f2 n4 f4 n6 f6 = true from h]; rfl
  · rw [show long n0 f0 n2 f2 n4 f4 n6 f6 = false from h]; exact c24_0 n0 f0 n2 f2 n4 f4 n6 f6 hp.1 hp.2
theorem ev24 (n0 : Nat) (f0 : FnV) (n2 : Nat) (f2 : FnV) (n4 : Nat) (f4 : FnV) (n6 : Nat) (f6 : FnV) (hp : SzOk n0 (elV tyR f0) /\ SzOk n6 (elV tyC f6)) : evR (Ev (st24 n0 f0 n2 f2 n4 f4 n6 f6)) (m24 n0 f0 n2 f2 n4 f4 n6 f6) (.tup [.int .i64 (F24_0 n0 (elV tyR f0) n2 (elV tyT f2) n4 (elV tyF f4) n6 (elV tyC f6)), .int .i64 (F24_1 n0 (elV tyR f0) n2 (elV tyT f2) n4 (elV tyF f4) n6 (elV tyC f6)), .int .i64 (F24_2 n0 (elV tyR f0) n2 (elV tyT f2) n4 (elV tyF f4) n6 (elV tyC f6))]) := ev24_0 n0 f0 n2 f2 n4 f4 n6 f6 hp
def C24 : PCon := mkC [.agg [.sl tyR, .sl tyT, .sl tyF, .sl tyC]] (fun
  | [.agg [.sl n0 f0, .sl n2 f2, .sl n4 f4, .sl n6 f6]] => SzOk n0 f0 /\ SzOk n6 f6
  | _ => False) fun
  | [.agg [.sl n0 f0, .sl n2 f2, .sl n4 f4, .sl n6 f6]] => .tup [.int .i64 (F24_0 n0 f0 n2 f2 n4 f4 n6 f6), .int .i64 (F24_1 n0 f0 n2 f2 n4 f4 n6 f6), .int .i64 (F24_2 n0 f0 n2 f2 n4 f4 n6 f6)]
  | _ => .any
theorem ok24 : (vP C24).Ok Tryz.prog 24 := mkE tabB12 Tryz.func24 (by kernel_rfl) fun ds hp => rfs (run24 ..) (ev24 _ _ _ _ _ _ _ _ hp)
def m23 (n0 : Nat) (f0 : FnV) (n2 : Nat) (f2 : FnV) (n4 : Nat) (f4 : FnV) (n6 : Nat) (f6 : FnV) : RT Empty := .asm (true = true -> n0 <= 9223372036854775807) (.obi (.obi (.asm ((!decide (8 < (↑n0 : Int))) = true -> n2 <= 9223372036854775807) (.obi (.obi (.obi (.obi (.asm ((!bif decide (8 < (↑n0 : Int)) then true else decide (12 < (↑n2 : Int))) = true -> n4 <= 9223372036854775807) (.obi (.obi (.obi (.obi (.asm ((!bif bif decide (8 < (↑n0 : Int)) then true else decide (12 < (↑n2 : Int)) then true else decide (8 < (↑n4 : Int))) = true -> n6 <= 9223372036854775807) (.obi (.obi (.br (bif bif bif decide (8 < (↑n0 : Int)) then true else decide (12 < (↑n2 : Int)) then true else decide (8 < (↑n4 : Int)) then true else decide (24 < (↑n6 : Int))) (.ret (V.tup [vi 0, vi 0, vi 3])) (.obp (∀ (i : Nat), i < n0 -> (sv (hdV (f0 i))).size <= (9223372036854775807 : Nat)) (.obt (.br (F62_1 n0 (elV tyR f0) != 0) (.ret (V.tup [vi 1, vi (F62_0 n0 (elV tyR f0)), vi (F62_1 n0 (elV tyR f0))])) (.obc (.obt (.br (F64_1 n2 (elV tyT f2) != 0) (.ret (V.tup [vi 2, vi (F64_0 n2 (elV tyT f2)), vi (F64_1 n2 (elV tyT f2))])) (.obc (.obt (.br (F66_1 n4 (elV tyF f4) != 0) (.ret (V.tup [vi 3, vi (F66_0 n4 (elV tyF f4)), vi (F66_1 n4 (elV tyF f4))])) (.obp (∀ (i : Nat), i < n6 -> (sv (hdV (f6 i))).size <= (9223372036854775807 : Nat)) (.obt (.br (F68_1 n6 (elV tyC f6) != 0) (.ret (V.tup [vi 4, vi (F68_0 n6 (elV tyC f6)), vi (F68_1 n6 (elV tyC f6))])) (.ret (V.tup [vi 0, vi 0, vi 0]))))))))))))))))))))))))))))))
theorem run23 (n0 : Nat) (f0 : FnV) (n2 : Nat) (f2 : FnV) (n4 : Nat) (f4 : FnV) (n6 : Nat) (f6 : FnV) : Fit noD (runL JJ ctB12 u0 s23 [scV n0 f0 n2 f2 n4 f4 n6 f6]) (m23 n0 f0 n2 f2 n4 f4 n6 f6) := ⟨by kernel_rfl, by kernel_rfl⟩
def F23_0 (n0 : Nat) (f0 : FnV) (n2 : Nat) (f2 : FnV) (n4 : Nat) (f4 : FnV) (n6 : Nat) (f6 : FnV) : Int := bif bif bif bif decide (8 < (↑n0 : Int)) then true else decide (12 < (↑n2 : Int)) then true else decide (8 < (↑n4 : Int)) then true else decide (24 < (↑n6 : Int)) then 0 else bif F62_1 n0 (elV tyR f0) != 0 then 1 else bif F64_1 n2 (elV tyT f2) != 0 then 2 else bif F66_1 n4 (elV tyF f4) != 0 then 3 else bif F68_1 n6 (elV tyC f6) != 0 then 4 else 0
def F23_1 (n0 : Nat) (f0 : FnV) (n2 : Nat) (f2 : FnV) (n4 : Nat) (f4 : FnV) (n6 : Nat) (f6 : FnV) : Int := bif bif bif bif decide (8 < (↑n0 : Int)) then true else decide (12 < (↑n2 : Int)) then true else decide (8 < (↑n4 : Int)) then true else decide (24 < (↑n6 : Int)) then 0 else bif F62_1 n0 (elV tyR f0) != 0 then F62_0 n0 (elV tyR f0) else bif F64_1 n2 (elV tyT f2) != 0 then F64_0 n2 (elV tyT f2) else bif F66_1 n4 (elV tyF f4) != 0 then F66_0 n4 (elV tyF f4) else bif F68_1 n6 (elV tyC f6) != 0 then F68_0 n6 (elV tyC f6) else 0
def F23_2 (n0 : Nat) (f0 : FnV) (n2 : Nat) (f2 : FnV) (n4 : Nat) (f4 : FnV) (n6 : Nat) (f6 : FnV) : Int := bif bif bif bif decide (8 < (↑n0 : Int)) then true else decide (12 < (↑n2 : Int)) then true else decide (8 < (↑n4 : Int)) then true else decide (24 < (↑n6 : Int)) then 3 else bif F62_1 n0 (elV tyR f0) != 0 then F62_1 n0 (elV tyR f0) else bif F64_1 n2 (elV tyT f2) != 0 then F64_1 n2 (elV tyT f2) else bif F66_1 n4 (elV tyF f4) != 0 then F66_1 n4 (elV tyF f4) else bif F68_1 n6 (elV tyC f6) != 0 then F68_1 n6 (elV tyC f6) else 0
def R23 (n0 : Nat) (f0 : FnV) (n2 : Nat) (f2 : FnV) (n4 : Nat) (f4 : FnV) (n6 : Nat) (f6 : FnV) : V := .tup [.int i64 (F23_0 n0 f0 n2 f2 n4 f4 n6 f6), .int i64 (F23_1 n0 f0 n2 f2 n4 f4 n6 f6), .int i64 (F23_2 n0 f0 n2 f2 n4 f4 n6 f6)]
theorem ev23 (n0 : Nat) (f0 : FnV) (n2 : Nat) (f2 : FnV) (n4 : Nat) (f4 : FnV) (n6 : Nat) (f6 : FnV) (hp : SzOk n0 f0 /\ SzOk n6 f6) : evR noE (m23 n0 f0 n2 f2 n4 f4 n6 f6) (R23 n0 f0 n2 f2 n4 f4 n6 f6) := evAsm (fun a0 => evObi (evObi (evAsm (fun a0 => evObi (evObi (evObi (evObi (evAsm (fun a0 => evObi (evObi (evObi (evObi (evAsm (fun a0 => evObi (evObi (evBr (fun h0 => evRet (by unfold R23 F23_0 F23_1 F23_2; try rw [h0]; rfl)) (fun h0 => evObp (by first | assumption | ((first | exact hp.1 | exact hp.2))) (evObt (evBr (fun h1 => evRet (by unfold R23 F23_0 F23_1 F23_2; try rw [h0]; try rw [h1]; rfl)) (fun h1 => evObc (evObt (evBr (fun h2 => evRet (by unfold R23 F23_0 F23_1 F23_2; try rw [h0]; try rw [h1]; try rw [h2]; rfl)) (fun h2 => evObc (evObt (evBr (fun h3 => evRet (by unfold R23 F23_0 F23_1 F23_2; try rw [h0]; try rw [h1]; try rw [h2]; try rw [h3]; rfl)) (fun h3 => evObp (by first | assumption | ((first | exact hp.1 | exact hp.2))) (evObt (evBr (fun h4 => evRet (by unfold R23 F23_0 F23_1 F23_2; try rw [h0]; try rw [h1]; try rw [h2]; try rw [h3]; try rw [h4]; rfl)) (fun h4 => evRet (by unfold R23 F23_0 F23_1 F23_2; try rw [h0]; try rw [h1]; try rw [h2]; try rw [h3]; try rw [h4]; rfl))))))))))))))))))))))))))))))
def C23 : PCon := mkC [.agg [.sl tyR, .sl tyT, .sl tyF, .sl tyC]] (fun
  | [.agg [.sl n0 f0, .sl n2 f2, .sl n4 f4, .sl n6 f6]] => SzOk n0 f0 /\ SzOk n6 f6
  | _ => False) fun
  | [.agg [.sl n0 f0, .sl n2 f2, .sl n4 f4, .sl n6 f6]] => R23 n0 f0 n2 f2 n4 f4 n6 f6
  | _ => .any
theorem ok23 : (vP C23).Ok Tryz.prog 23 := mkE tabB12 Tryz.func23 (by kernel_rfl) fun ds hp => rf0 (run23 ..) (ev23 _ _ _ _ _ _ _ _ hp)
end
end Go.Dx
namespace Go.Dx
open Go.IntKind (i64 u64 u8)
open Go.Sx Go.Proofs
set_option maxRecDepth 100000
set_option linter.unusedVariables false
set_option linter.unusedSimpArgs false
noncomputable section
def ctB13 : CTab := (24, .con C24) :: (23, .con C23) :: ctB12
theorem tabB13 : TabOk Tryz.prog eqs its ctB13 := .con ok24 (.con ok23 (tabB12))
inductive S44 where
  | L0 (i_100 i_101 : Int)
def inv44 (n0 : Nat) (f0 : FnV) (n2 : Nat) (f2 : FnV) (n4 : Nat) (f4 : FnV) (n6 : Nat) (f6 : FnV) (n8 : Nat) (f8 : FnV) : S44 -> Env × List O × Option Ex
  | .L0 i_100 i_101 => ([(8, vi i_100), (7, vi i_101), (6, vi (F23_1 n0 (elV tyR f0) n2 (elV tyT f2) n4 (elV tyF f4) n6 (elV tyC f6))), (5, vi (F23_0 n0 (elV tyR f0) n2 (elV tyT f2) n4 (elV tyF f4) n6 (elV tyC f6))), (14, vi (F23_2 n0 (elV tyR f0) n2 (elV tyT f2) n4 (elV tyF f4) n6 (elV tyC f6))), (13, vi (F23_1 n0 (elV tyR f0) n2 (elV tyT f2) n4 (elV tyF f4) n6 (elV tyC f6))), (12, vi (F23_0 n0 (elV tyR f0) n2 (elV tyT f2) n4 (elV tyF f4) n6 (elV tyC f6))), (9, V.tup [vi (F23_0 n0 (elV tyR f0) n2 (elV tyT f2) n4 (elV tyF f4) n6 (elV tyC f6)), vi (F23_1 n0 (elV tyR f0) n2 (elV tyT f2) n4 (elV tyF f4) n6 (elV tyC f6)), vi (F23_2 n0 (elV tyR f0) n2 (elV tyT f2) n4 (elV tyF f4) n6 (elV tyC f6))]), (11, V.tup [vi (F23_0 n0 (elV tyR f0) n2 (elV tyT f2) n4 (elV tyF f4) n6 (elV tyC f6)), vi (F23_1 n0 (elV tyR f0) n2 (elV tyT f2) n4 (elV tyF f4) n6 (elV tyC f6)), vi (F23_2 n0 (elV tyR f0) n2 (elV tyT f2) n4 (elV tyF f4) n6 (elV tyC f6))]), (10, scV n0 f0 n2 f2 n4 f4 n6 f6), (4, vi 0), (2, V.pl 0 0), (0, scV n0 f0 n2 f2 n4 f4 n6 f6), (1, V.sl n8 (elV tp1 f8))], [O.cells [V.sl n0 (elV tyR f0), V.sl n2 (elV tyT f2), V.sl n4 (elV tyF f4), V.sl n6 (elV tyC f6)] 27], none)
def id44 : S44 -> JJ
  | .L0 i_100 i_101 => (0, [])
def rl44 (n0 : Nat) (f0 : FnV) (n2 : Nat) (f2 : FnV) (n4 : Nat) (f4 : FnV) (n6 : Nat) (f6 : FnV) (n8 : Nat) (f8 : FnV) : T (Leaf JJ) := runL JJ ctB13 u0 s44 [scV n0 f0 n2 f2 n4 f4 n6 f6, V.sl n8 (elV tp1 f8)]
def lp44_0 (n0 : Nat) (f0 : FnV) (n2 : Nat) (f2 : FnV) (n4 : Nat) (f4 : FnV) (n6 : Nat) (f6 : FnV) (n8 : Nat) (f8 : FnV) (cx : List Cx) : Lp JJ := lpT (atT (rl44 n0 f0 n2 f2 n4 f4 n6 f6 n8 f8) [])
def lp44 (n0 : Nat) (f0 : FnV) (n2 : Nat) (f2 : FnV) (n4 : Nat) (f4 : FnV) (n6 : Nat) (f6 : FnV) (n8 : Nat) (f8 : FnV) : JJ -> Lp JJ
  | (0, cx) => lp44_0 n0 f0 n2 f2 n4 f4 n6 f6 n8 f8 cx
  | (_, cx) => lp44_0 n0 f0 n2 f2 n4 f4 n6 f6 n8 f8 cx
def D44 (n0 : Nat) (f0 : FnV) (n2 : Nat) (f2 : FnV) (n4 : Nat) (f4 : FnV) (n6 : Nat) (f6 : FnV) (n8 : Nat) (f8 : FnV) : LD JJ S44 := ⟨id44, lp44 n0 f0 n2 f2 n4 f4 n6 f6 n8 f8, inv44 n0 f0 n2 f2 n4 f4 n6 f6 n8 f8⟩
def st44 (n0 : Nat) (f0 : FnV) (n2 : Nat) (f2 : FnV) (n4 : Nat) (f4 : FnV) (n6 : Nat) (f6 : FnV) (n8 : Nat) (f8 : FnV) : S44 -> RT S44
  | .L0 i_100 i_101 => .asm (true = true -> n8 <= 9223372036854775807) (.obi (.obi (.br (bif decide (i_100 < (↑n8 : Int)) then i_101 == 0 else false) (.ob (decide (0 <= i_100 /\ i_100 < (↑n8 : Int))) (.ob (decide (0 <= i64.wrap (i_100 + 1) /\ i64.wrap (i_100 + 1) < (↑n8 : Int))) (.obc (.obt (.br (F86_0 (iv (hdV (f8 i_100.toNat))) 0 (i64.wrap (iv (hdV (f8 (i64.wrap (i_100 + 1)).toNat)) - 1))) (.next [some (some 0)] (S44.L0 (i64.wrap (i_100 + 2)) (4)) []) (.next [some (some 0)] (S44.L0 (i64.wrap (i_100 + 2)) (i_101)) [])))))) (.ret (vi i_101)))))
def m44 (n0 : Nat) (f0 : FnV) (n2 : Nat) (f2 : FnV) (n4 : Nat) (f4 : FnV) (n6 : Nat) (f6 : FnV) (n8 : Nat) (f8 : FnV) : RT S44 := .obp ((∀ (i : Nat), i < n0 -> (sv (hdV (f0 i))).size <= (9223372036854775807 : Nat)) /\ ∀ (i : Nat), i < n6 -> (sv (hdV (f6 i))).size <= (9223372036854775807 : Nat)) (.obt (.enter [some (some 0)] (S44.L0 (0) (F23_2 n0 (elV tyR f0) n2 (elV tyT f2) n4 (elV tyF f4) n6 (elV tyC f6))) []))
theorem run44 (n0 : Nat) (f0 : FnV) (n2 : Nat) (f2 : FnV) (n4 : Nat) (f4 : FnV) (n6 : Nat) (f6 : FnV) (n8 : Nat) (f8 : FnV) : Fits ctB13 u0 (D44 n0 f0 n2 f2 n4 f4 n6 f6 n8 f8) (rl44 n0 f0 n2 f2 n4 f4 n6 f6 n8 f8) (m44 n0 f0 n2 f2 n4 f4 n6 f6 n8 f8) (st44 n0 f0 n2 f2 n4 f4 n6 f6 n8 f8) := ⟨⟨by kernel_rfl, by kernel_rfl⟩, fun s => match s with | .L0 i_100 i_101 => ⟨by kernel_rfl, by kernel_rfl⟩⟩
def outI (f8 : FnV) (k : Nat) : Bool := F86_0 (iv (hdV (f8 (2 * k)))) 0 (i64.wrap (iv (hdV (f8 (2 * k + 1))) - 1))
def outs (n8 : Nat) (f8 : FnV) (e : Int) : Int := bif e == 0 then (bif exB (n8 / 2) (outI f8) then 4 else 0) else e
def F44 (n0 : Nat) (f0 : FnV) (n2 : Nat) (f2 : FnV) (n4 : Nat) (f4 : FnV) (n6 : Nat) (f6 : FnV) (n8 : Nat) (f8 : FnV) : Int := outs n8 f8 (F23_2 n0 (elV tyR f0) n2 (elV tyT f2) n4 (elV tyF f4) n6 (elV tyC f6))
theorem c44_1 (n0 : Nat) (f0 : FnV) (n2 : Nat) (f2 : FnV) (n4 : Nat) (f4 : FnV) (n6 : Nat) (f6 : FnV) (n8 : Nat) (f8 : FnV) (i e : Int) (he : (e == 0) = false) : Ev (st44 n0 f0 n2 f2 n4 f4 n6 f6 n8 f8) (.L0 i e) (.int .i64 e) := Ev.of rfl (evAsm fun _ => evObi (evObi (evBrF (by rw [he]; cases decide (i < (n8 : Int)) <;> rfl) (evRet rfl))))
theorem c44_0 (n0 : Nat) (f0 : FnV) (n2 : Nat) (f2 : FnV) (n4 : Nat) (f4 : FnV) (n6 : Nat) (f6 : FnV) (n8 : Nat) (f8 : FnV) (hm : n8 % 2 = 0) (hn : n8 <= 100) : ∀ k : Nat, k <= n8 / 2 -> (∀ j, j < k -> outI f8 j = false) -> Ev (st44 n0 f0 n2 f2 n4 f4 n6 f6 n8 f8) (.L0 ((2 * k : Nat) : Int) 0) (.int .i64 (bif exB (n8 / 2) (outI f8) then 4 else 0)) := by
  refine up_ind fun k hk ih hj => Ev.of rfl (evAsm fun _ => evObi (evObi (evBr (fun h => ?_) (fun h => ?_))))
  · have hlt : 2 * k < n8 := by
      by_cases hh : ((2 * k : Nat) : Int) < (n8 : Int)
      · omega
      · rw [decide_eq_false hh] at h; cases h
    have w1 : i64.wrap (((2 * k : Nat) : Int) + 1) = ((2 * k + 1 : Nat) : Int) := by rw [wrapI (by omega) (by omega)]; omega
    have w2 : i64.wrap (((2 * k : Nat) : Int) + 2) = ((2 * (k + 1) : Nat) : Int) := by rw [wrapI (by omega) (by omega)]; omega
    refine evOb (decide_eq_true (by omega)) (evOb (decide_eq_true (by rw [w1]; omega)) (evObc (evObt (evBr (fun hb => evNext ?_) (fun hb => evNext ?_)))))
    · rw [w1] at hb
      simp only [Int.toNat_natCast] at hb
      rw [exB_true (p := outI f8) k (by omega) hb, cond_true]
      exact c44_1 n0 f0 n2 f2 n4 f4 n6 f6 n8 f8 _ 4 rfl
    · rw [w1] at hb
      simp only [Int.toNat_natCast] at hb
      rw [w2]
      refine ih (by omega) (fun j h3 => ?_)
      by_cases e : j = k
      · subst e; exact hb
      · exact hj j (by omega)
  · have e : k = n8 / 2 := by
      by_cases hh : ((2 * k : Nat) : Int) < (n8 : Int)
      · rw [decide_eq_true hh] at h; cases h
      · omega
    rw [show exB (n8 / 2) (outI f8) = false from exB_false fun j h => hj j (by omega)]
    exact evRet rfl
theorem c44_2 (n0 : Nat) (f0 : FnV) (n2 : Nat) (f2 : FnV) (n4 : Nat) (f4 : FnV) (n6 : Nat) (f6 : FnV) (n8 : Nat) (f8 : FnV) (hm : n8 % 2 = 0) (hn : n8 <= 100) (e : Int) : Ev (st44 n0 f0 n2 f2 n4 f4 n6 f6 n8 f8) (.L0 0 e) (.int .i64 (outs n8 f8 e)) := by
  unfold outs
  cases he : e == 0 with
  | false => exact c44_1 n0 f0 n2 f2 n4 f4 n6 f6 n8 f8 0 e he
  | true =>
    have : e = 0 := eq_of_beq he
    subst this
    exact c44_0 n0 f0 n2 f2 n4 f4 n6 f6 n8 f8 hm hn 0 (by omega) (fun j h => by omega)
theorem ev44_0 (n0 : Nat) (f0 : FnV) (n2 : Nat) (f2 : FnV) (n4 : Nat) (f4 : FnV) (n6 : Nat) (f6 : FnV) (n8 : Nat) (f8 : FnV) (hp : (SzOk n0 f0 /\ SzOk n6 f6) /\ n8 % 2 = 0 /\ n8 <= 100) : evR (Ev (st44 n0 f0 n2 f2 n4 f4 n6 f6 n8 f8)) (m44 n0 f0 n2 f2 n4 f4 n6 f6 n8 f8) (.int .i64 (F44 n0 f0 n2 f2 n4 f4 n6 f6 n8 f8)) := evObp hp.1 (evObt (evEnter (c44_2 n0 f0 n2 f2 n4 f4 n6 f6 n8 f8 hp.2.1 hp.2.2 _)))
theorem ev44 (n0 : Nat) (f0 : FnV) (n2 : Nat) (f2 : FnV) (n4 : Nat) (f4 : FnV) (n6 : Nat) (f6 : FnV) (n8 : Nat) (f8 : FnV) (hp : (SzOk n0 (elV tyR f0) /\ SzOk n6 (elV tyC f6)) /\ n8 % 2 = 0 /\ n8 <= 100) : evR (Ev (st44 n0 f0 n2 f2 n4 f4 n6 f6 n8 f8)) (m44 n0 f0 n2 f2 n4 f4 n6 f6 n8 f8) (.int .i64 (F44 n0 (elV tyR f0) n2 (elV tyT f2) n4 (elV tyF f4) n6 (elV tyC f6) n8 (elV tp1 f8))) := ev44_0 n0 f0 n2 f2 n4 f4 n6 f6 n8 f8 hp
def C44 : PCon := mkC [.agg [.sl tyR, .sl tyT, .sl tyF, .sl tyC], .sl tp1] (fun
  | [.agg [.sl n0 f0, .sl n2 f2, .sl n4 f4, .sl n6 f6], .sl n8 f8] => (SzOk n0 f0 /\ SzOk n6 f6) /\ n8 % 2 = 0 /\ n8 <= 100
  | _ => False) fun
  | [.agg [.sl n0 f0, .sl n2 f2, .sl n4 f4, .sl n6 f6], .sl n8 f8] => .int .i64 (F44 n0 f0 n2 f2 n4 f4 n6 f6 n8 f8)
  | _ => .any
theorem ok44 : (vP C44).Ok Tryz.prog 44 := mkE tabB13 Tryz.func44 (by kernel_rfl) fun ds hp => rfs (run44 ..) (ev44 _ _ _ _ _ _ _ _ _ _ hp)
def m91 (n0 : Nat) (f0 : FnV) (n2 : Nat) (f2 : FnV) (n4 : Nat) (f4 : FnV) (n6 : Nat) (f6 : FnV) : RT Empty := .obp ((∀ (i : Nat), i < n0 -> (sv (hdV (f0 i))).size <= (9223372036854775807 : Nat)) /\ ∀ (i : Nat), i < n6 -> (sv (hdV (f6 i))).size <= (9223372036854775807 : Nat)) (.obt (.ret (vi (F24_2 n0 (elV tyR f0) n2 (elV tyT f2) n4 (elV tyF f4) n6 (elV tyC f6)))))
theorem run91 (n0 : Nat) (f0 : FnV) (n2 : Nat) (f2 : FnV) (n4 : Nat) (f4 : FnV) (n6 : Nat) (f6 : FnV) : Fit noD (runL JJ ctB13 u0 s91 [scV n0 f0 n2 f2 n4 f4 n6 f6]) (m91 n0 f0 n2 f2 n4 f4 n6 f6) := ⟨by kernel_rfl, by kernel_rfl⟩
def F91_0 (n0 : Nat) (f0 : FnV) (n2 : Nat) (f2 : FnV) (n4 : Nat) (f4 : FnV) (n6 : Nat) (f6 : FnV) : Int := F24_2 n0 (elV tyR f0) n2 (elV tyT f2) n4 (elV tyF f4) n6 (elV tyC f6)
def R91 (n0 : Nat) (f0 : FnV) (n2 : Nat) (f2 : FnV) (n4 : Nat) (f4 : FnV) (n6 : Nat) (f6 : FnV) : V := .int i64 (F91_0 n0 f0 n2 f2 n4 f4 n6 f6)
theorem ev91 (n0 : Nat) (f0 : FnV) (n2 : Nat) (f2 : FnV) (n4 : Nat) (f4 : FnV) (n6 : Nat) (f6 : FnV) (hp : SzOk n0 f0 /\ SzOk n6 f6) : evR noE (m91 n0 f0 n2 f2 n4 f4 n6 f6) (R91 n0 f0 n2 f2 n4 f4 n6 f6) := evObp (by first | assumption | (exact hp)) (evObt (evRet (by unfold R91 F91_0; rfl)))
def C91 : PCon := mkC [.agg [.sl tyR, .sl tyT, .sl tyF, .sl tyC]] (fun
  | [.agg [.sl n0 f0, .sl n2 f2, .sl n4 f4, .sl n6 f6]] => SzOk n0 f0 /\ SzOk n6 f6
  | _ => False) fun
  | [.agg [.sl n0 f0, .sl n2 f2, .sl n4 f4, .sl n6 f6]] => R91 n0 f0 n2 f2 n4 f4 n6 f6
  | _ => .any
theorem ok91 : (vP C91).Ok Tryz.prog 91 := mkE tabB13 Tryz.func91 (by kernel_rfl) fun ds hp => rf0 (run91 ..) (ev91 _ _ _ _ _ _ _ _ hp)
end
end Go.Dx
namespace Go.Dx
open Go.IntKind (i64 u64 u8)
open Go.Sx Go.Proofs
set_option maxRecDepth 100000
set_option linter.unusedVariables false
set_option linter.unusedSimpArgs false
noncomputable section
def ctB14 : CTab := (44, .con C44) :: (91, .con C91) :: ctB13
theorem tabB14 : TabOk Tryz.prog eqs its ctB14 := .con ok44 (.con ok91 (tabB13))
def m50 (n0 : Nat) (f0 : FnV) (n2 : Nat) (f2 : FnV) (n4 : Nat) (f4 : FnV) (n6 : Nat) (f6 : FnV) (x8 x9 : Int) : RT Empty := .obp ((∀ (i : Nat), i < n0 -> (sv (hdV (f0 i))).size <= (9223372036854775807 : Nat)) /\ ∀ (i : Nat), i < n6 -> (sv (hdV (f6 i))).size <= (9223372036854775807 : Nat)) (.obt (.obi (.obi (.obi (.obi (.obi (.obi (.obi (.br (bif F91_0 n0 (elV tyR f0) n2 (elV tyT f2) n4 (elV tyF f4) n6 (elV tyC f6) == 0 then bif decide (x8 < 0) then true else decide (x9 <= x8) else false) (.ret (vi 4)) (.ret (vi (F91_0 n0 (elV tyR f0) n2 (elV tyT f2) n4 (elV tyF f4) n6 (elV tyC f6)))))))))))))
theorem run50 (n0 : Nat) (f0 : FnV) (n2 : Nat) (f2 : FnV) (n4 : Nat) (f4 : FnV) (n6 : Nat) (f6 : FnV) (x8 x9 : Int) : Fit noD (runL JJ ctB14 u0 s50 [scV n0 f0 n2 f2 n4 f4 n6 f6, vi x8, vi x9]) (m50 n0 f0 n2 f2 n4 f4 n6 f6 x8 x9) := ⟨by kernel_rfl, by kernel_rfl⟩
def F50_0 (n0 : Nat) (f0 : FnV) (n2 : Nat) (f2 : FnV) (n4 : Nat) (f4 : FnV) (n6 : Nat) (f6 : FnV) (x8 x9 : Int) : Int := bif bif F91_0 n0 (elV tyR f0) n2 (elV tyT f2) n4 (elV tyF f4) n6 (elV tyC f6) == 0 then bif decide (x8 < 0) then true else decide (x9 <= x8) else false then 4 else F91_0 n0 (elV tyR f0) n2 (elV tyT f2) n4 (elV tyF f4) n6 (elV tyC f6)
def R50 (n0 : Nat) (f0 : FnV) (n2 : Nat) (f2 : FnV) (n4 : Nat) (f4 : FnV) (n6 : Nat) (f6 : FnV) (x8 x9 : Int) : V := .int i64 (F50_0 n0 f0 n2 f2 n4 f4 n6 f6 x8 x9)
theorem ev50 (n0 : Nat) (f0 : FnV) (n2 : Nat) (f2 : FnV) (n4 : Nat) (f4 : FnV) (n6 : Nat) (f6 : FnV) (x8 x9 : Int) (hp : SzOk n0 f0 /\ SzOk n6 f6) : evR noE (m50 n0 f0 n2 f2 n4 f4 n6 f6 x8 x9) (R50 n0 f0 n2 f2 n4 f4 n6 f6 x8 x9) := evObp (by first | assumption | (exact hp)) (evObt (evObi (evObi (evObi (evObi (evObi (evObi (evObi (evBr (fun h0 => evRet (by unfold R50 F50_0; try rw [h0]; rfl)) (fun h0 => evRet (by unfold R50 F50_0; try rw [h0]; rfl)))))))))))
def C50 : PCon := mkC [.agg [.sl tyR, .sl tyT, .sl tyF, .sl tyC], .int .i64, .int .i64] (fun
  | [.agg [.sl n0 f0, .sl n2 f2, .sl n4 f4, .sl n6 f6], .int _ x8, .int _ x9] => SzOk n0 f0 /\ SzOk n6 f6
  | _ => False) fun
  | [.agg [.sl n0 f0, .sl n2 f2, .sl n4 f4, .sl n6 f6], .int _ x8, .int _ x9] => R50 n0 f0 n2 f2 n4 f4 n6 f6 x8 x9
  | _ => .any
theorem ok50 : (vP C50).Ok Tryz.prog 50 := mkE tabB14 Tryz.func50 (by kernel_rfl) fun ds hp => rf0 (run50 ..) (ev50 _ _ _ _ _ _ _ _ _ _ hp)
end
end Go.Dx
namespace Go.Dx
open Go.IntKind (i64 u64 u8)
open Go.Sx
noncomputable section
theorem outI_in {i : Int} {m : Nat} {f8 : Nat -> List V} {k : Nat} (hm : m <= 9223372036854775807) (h1 : iv (hdV (f8 (2 * k))) = i) (h2 : iv (hdV (f8 (2 * k + 1))) = (m : Int)) (h : outI f8 k = false) : 0 <= i /\ i < m := by
  unfold outI F86_0 at h
  rw [h1, h2, wrapI (by omega) (by omega)] at h
  cases hb : decide (i < 0) with
  | true => rw [hb] at h; cases h
  | false =>
    rw [hb, cond_false] at h
    have a := of_decide_eq_false hb
    have b := of_decide_eq_false h
    omega
theorem outs_in {n8 : Nat} {f8 : Nat -> List V} {e : Int} (h : outs n8 f8 e = 0) : e = 0 /\ ∀ k, k < n8 / 2 -> outI f8 k = false := by
  unfold outs at h
  cases he : e == 0 with
  | false =>
    rw [he, cond_false] at h
    subst h; cases he
  | true =>
    rw [he, cond_true] at h
    refine ⟨eq_of_beq he, fun k hk => ?_⟩
    cases ho : outI f8 k with
    | false => rfl
    | true => rw [exB_true k hk ho] at h; cases h
section
variable {n0 : Nat} {f0 : Nat -> List V} {n2 : Nat} {f2 : Nat -> List V} {n4 : Nat} {f4 : Nat -> List V} {n6 : Nat} {f6 : Nat -> List V} {i j : Int} {m l : Nat}
theorem k44_2 (hm : m <= 9223372036854775807) (h : F44 n0 f0 n2 f2 n4 f4 n6 f6 2 (elV tp1 (secF [vi i, vi m] 0 1)) = 0) : 0 <= i /\ i < m :=
  outI_in (k := 0) hm rfl rfl ((outs_in h).2 0 (by omega))
theorem k44_4 (hm : m <= 9223372036854775807) (hl : l <= 9223372036854775807) (h : F44 n0 f0 n2 f2 n4 f4 n6 f6 4 (elV tp1 (secF [vi i, vi m, vi j, vi l] 0 1)) = 0) : (0 <= i /\ i < m) /\ (0 <= j /\ j < l) :=
  ⟨outI_in (k := 0) hm rfl rfl ((outs_in h).2 0 (by omega)), outI_in (k := 1) hl rfl rfl ((outs_in h).2 1 (by omega))⟩
theorem k50 (h : F50_0 n0 f0 n2 f2 n4 f4 n6 f6 i j = 0) : 0 <= i /\ i < j := by
  unfold F50_0 at h
  generalize F91_0 _ _ _ _ _ _ _ _ = e at h
  cases he : e == 0 with
  | false => rw [he] at h; simp only [cond_false] at h; subst h; cases he
  | true =>
    rw [he, cond_true] at h
    cases hb : decide (i < 0) with
    | true => rw [hb] at h; cases h
    | false =>
      rw [hb, cond_false] at h
      cases hc : decide (j <= i) with
      | true => rw [hc] at h; cases h
      | false => have := of_decide_eq_false hb; have := of_decide_eq_false hc; omega
end
end
end Go.Dx
namespace Go.Dx
open Go.IntKind (i64 u64 u8)
open Go.Sx Go.Proofs
set_option maxRecDepth 100000
set_option linter.unusedVariables false
set_option linter.unusedSimpArgs false
noncomputable section
def ctB15 : CTab := (50, .con C50) :: ctB14
theorem tabB15 : TabOk Tryz.prog eqs its ctB15 := .con ok50 (tabB14)
attribute [local irreducible] F44 F50_0 F91_0
end
end Go.Dx
namespace Go.Dx
open Go.IntKind (i64 u64 u8)
open Go.Sx Go.Proofs
set_option maxRecDepth 100000
set_option linter.unusedVariables false
set_option linter.unusedSimpArgs false
noncomputable section
def ctB16 : CTab := ctB15
theorem tabB16 : TabOk Tryz.prog eqs its ctB16 := tabB15
def m140 (x0 x1 x2 x3 : Int) : RT Empty := .br (x0 != x2) (.ret (vi (i64.wrap (x0 - x2)))) (.ret (vi (i64.wrap (x1 - x3))))
theorem run140 (x0 x1 x2 x3 : Int) : Fit noD (runL JJ ctB16 u0 s140 [V.agg [vi x0, vi x1], V.agg [vi x2, vi x3]]) (m140 x0 x1 x2 x3) := ⟨by kernel_rfl, by kernel_rfl⟩
def F140_0 (x0 x1 x2 x3 : Int) : Int := bif x0 != x2 then i64.wrap (x0 - x2) else i64.wrap (x1 - x3)
def R140 (x0 x1 x2 x3 : Int) : V := .int i64 (F140_0 x0 x1 x2 x3)
theorem ev140 (x0 x1 x2 x3 : Int) : evR noE (m140 x0 x1 x2 x3) (R140 x0 x1 x2 x3) := evBr (fun h0 => evRet (by unfold R140 F140_0; try rw [h0]; rfl)) (fun h0 => evRet (by unfold R140 F140_0; try rw [h0]; rfl))
def C140 : PCon := mkC [.agg tp2, .agg tp2] (fun _ => True) fun
  | [.agg [.int _ x0, .int _ x1], .agg [.int _ x2, .int _ x3]] => R140 x0 x1 x2 x3
  | _ => .any
theorem ok140 : (vP C140).Ok Tryz.prog 140 := mkE tabB16 Tryz.func140 (by kernel_rfl) fun ds hp => rf0 (run140 ..) (ev140 _ _ _ _)
def m49 (x0 x1 x2 x3 x4 x5 x6 x7 : Int) (b8 : Bool) (x9 x10 : Int) : RT Empty := .obi (.br (!b8) (.ob (!b8) (.ob (!b8) (.ob (!b8) (.obc (.obt (.obc (.obt (.obc (.obt (.ret (V.bool (F103_0 (F102_0 x0 x2 x9 x3) (F102_1 x1 x2 x10 x3) (F102_0 x0 x2 x9 x4) (F102_1 x1 x2 x10 x4) x5 x6 x7)))))))))))) (.ret (V.kb false)))
theorem run49 (x0 x1 x2 x3 x4 x5 x6 x7 : Int) (b8 : Bool) (x9 x10 : Int) : Fit noD (runL JJ ctB16 u0 s49 [V.agg [vi x0, vi x1, vi x2, vi x3, vi x4, vi x5, vi x6, vi x7, V.bool b8], V.agg [vi x9, vi x10]]) (m49 x0 x1 x2 x3 x4 x5 x6 x7 b8 x9 x10) := ⟨by kernel_rfl, by kernel_rfl⟩
def F49_0 (x0 x1 x2 x3 x4 x5 x6 x7 : Int) (b8 : Bool) (x9 x10 : Int) : Bool := bif !b8 then F103_0 (F102_0 x0 x2 x9 x3) (F102_1 x1 x2 x10 x3) (F102_0 x0 x2 x9 x4) (F102_1 x1 x2 x10 x4) x5 x6 x7 else false
def R49 (x0 x1 x2 x3 x4 x5 x6 x7 : Int) (b8 : Bool) (x9 x10 : Int) : V := .bool (F49_0 x0 x1 x2 x3 x4 x5 x6 x7 b8 x9 x10)
theorem ev49 (x0 x1 x2 x3 x4 x5 x6 x7 : Int) (b8 : Bool) (x9 x10 : Int) : evR noE (m49 x0 x1 x2 x3 x4 x5 x6 x7 b8 x9 x10) (R49 x0 x1 x2 x3 x4 x5 x6 x7 b8 x9 x10) := evObi (evBr (fun h0 => evOb (by first | assumption | (fail)) (evOb (by first | assumption | (fail)) (evOb (by first | assumption | (fail)) (evObc (evObt (evObc (evObt (evObc (evObt (evRet (by unfold R49 F49_0; try rw [h0]; rfl))))))))))) (fun h0 => evRet (by unfold R49 F49_0; try rw [h0]; rfl)))
def C49 : PCon := mkC [.agg [.int .i64, .int .i64, .int .i64, .int .i64, .int .i64, .int .i64, .int .i64, .int .i64, .bool], .agg tp2] (fun _ => True) fun
  | [.agg [.int _ x0, .int _ x1, .int _ x2, .int _ x3, .int _ x4, .int _ x5, .int _ x6, .int _ x7, .bool b8], .agg [.int _ x9, .int _ x10]] => R49 x0 x1 x2 x3 x4 x5 x6 x7 b8 x9 x10
  | _ => .any
theorem ok49 : (vP C49).Ok Tryz.prog 49 := mkE tabB16 Tryz.func49 (by kernel_rfl) fun ds hp => rf0 (run49 ..) (ev49 _ _ _ _ _ _ _ _ _ _ _)
def m123 (x0 x1 x2 x3 x4 x5 x6 : Int) : RT Empty := .obc (.obt (.ret (V.bool (F103_0 x0 x1 x2 x3 (i64.wrap (2 * x5)) (i64.wrap (2 * x6)) x4))))
theorem run123 (x0 x1 x2 x3 x4 x5 x6 : Int) : Fit noD (runL JJ ctB16 u0 s123 [V.agg [vi x0, vi x1, vi x2, vi x3, vi x4], vi x5, vi x6]) (m123 x0 x1 x2 x3 x4 x5 x6) := ⟨by kernel_rfl, by kernel_rfl⟩
def F123_0 (x0 x1 x2 x3 x4 x5 x6 : Int) : Bool := F103_0 x0 x1 x2 x3 (i64.wrap (2 * x5)) (i64.wrap (2 * x6)) x4
def R123 (x0 x1 x2 x3 x4 x5 x6 : Int) : V := .bool (F123_0 x0 x1 x2 x3 x4 x5 x6)
theorem ev123 (x0 x1 x2 x3 x4 x5 x6 : Int) : evR noE (m123 x0 x1 x2 x3 x4 x5 x6) (R123 x0 x1 x2 x3 x4 x5 x6) := evObc (evObt (evRet (by unfold R123 F123_0; rfl)))
def C123 : PCon := mkC [.agg tyT, .int .i64, .int .i64] (fun _ => True) fun
  | [.agg [.int _ x0, .int _ x1, .int _ x2, .int _ x3, .int _ x4], .int _ x5, .int _ x6] => R123 x0 x1 x2 x3 x4 x5 x6
  | _ => .any
theorem ok123 : (vP C123).Ok Tryz.prog 123 := mkE tabB16 Tryz.func123 (by kernel_rfl) fun ds hp => rf0 (run123 ..) (ev123 _ _ _ _ _ _ _)
def m124 (s0 : ByteArray) (x1 : Int) (n2 : Nat) (f2 : FnV) (x4 x5 x6 x7 : Int) : RT Empty := .obp ((0 : Int) <= x5 /\ i64.wrap (x5 + (1 : Int)) = x5 + (1 : Int) /\ x5 + (1 : Int) < (↑n2 : Int)) (.obt (.obc (.obt (.ret (V.bool (F106_0 x6 x7 (F150_0 (elV tp2 f2) x5) (F150_1 (elV tp2 f2) x5) (F150_2 (elV tp2 f2) x5) (F150_3 (elV tp2 f2) x5) x4))))))
theorem run124 (s0 : ByteArray) (x1 : Int) (n2 : Nat) (f2 : FnV) (x4 x5 x6 x7 : Int) : Fit noD (runL JJ ctB16 u0 s124 [V.agg [V.str s0, vi x1, V.sl n2 (elV tp2 f2), vi x4], vi x5, V.agg [vi x6, vi x7]]) (m124 s0 x1 n2 f2 x4 x5 x6 x7) := ⟨by kernel_rfl, by kernel_rfl⟩
def F124_0 (f2 : FnV) (x4 x5 x6 x7 : Int) : Bool := F106_0 x6 x7 (F150_0 (elV tp2 f2) x5) (F150_1 (elV tp2 f2) x5) (F150_2 (elV tp2 f2) x5) (F150_3 (elV tp2 f2) x5) x4
def R124 (s0 : ByteArray) (x1 : Int) (n2 : Nat) (f2 : FnV) (x4 x5 x6 x7 : Int) : V := .bool (F124_0 f2 x4 x5 x6 x7)
theorem ev124 (s0 : ByteArray) (x1 : Int) (n2 : Nat) (f2 : FnV) (x4 x5 x6 x7 : Int) (hp : 0 <= x5 /\ i64.wrap (x5 + 1) = x5 + 1 /\ x5 + 1 < (n2 : Int)) : evR noE (m124 s0 x1 n2 f2 x4 x5 x6 x7) (R124 s0 x1 n2 f2 x4 x5 x6 x7) := evObp (by first | assumption | (first | exact hp | (intro h; cases h))) (evObt (evObc (evObt (evRet (by unfold R124 F124_0; rfl)))))
def C124 : PCon := mkC [.agg tyR, .int .i64, .agg tp2] (fun
  | [.agg [.str s0, .int _ x1, .sl n2 f2, .int _ x4], .int _ x5, .agg [.int _ x6, .int _ x7]] => 0 <= x5 /\ i64.wrap (x5 + 1) = x5 + 1 /\ x5 + 1 < (n2 : Int)
  | _ => False) fun
  | [.agg [.str s0, .int _ x1, .sl n2 f2, .int _ x4], .int _ x5, .agg [.int _ x6, .int _ x7]] => R124 s0 x1 n2 f2 x4 x5 x6 x7
  | _ => .any
theorem ok124 : (vP C124).Ok Tryz.prog 124 := mkE tabB16 Tryz.func124 (by kernel_rfl) fun ds hp => rf0 (run124 ..) (ev124 _ _ _ _ _ _ _ _ hp)
end
end Go.Dx
namespace Go.Dx
open Go.IntKind (i64 u64 u8)
open Go.Sx Go.Proofs
set_option maxRecDepth 100000
set_option linter.unusedVariables false
set_option linter.unusedSimpArgs false
noncomputable section
def ctB16a : CTab := (140, .con C140) :: (49, .con C49) :: (123, .con C123) :: (124, .con C124) :: ctB16
theorem tabB16a : TabOk Tryz.prog eqs its ctB16a := .con ok140 (.con ok49 (.con ok123 (.con ok124 (tabB16))))
def u5 : Unr := fun _ => 5
def m145 (x0 x1 x2 x3 x4 x5 x6 x7 x8 : Int) : RT Empty := .obi (.obi (.obi (.obi (.obi (.obi (.obi (.obi (.obi (.obi (.obi (.obi (.obi (.obi (.obi (.obi (.obi (.obi (.obi (.obi (.obi (.obi (.obi (.obi (.obi (.obi (.obi (.obi (.obi (.obi (.obi (.obi (.obi (.obi (.obi (.obi (.obi (.obi (.obi (.br (bif bif bif decide (max x0 x2 < i64.wrap (2 * x5)) then true else decide (i64.wrap (2 * x7) < min x0 x2) then true else decide (max x1 x3 < i64.wrap (2 * x6)) then true else decide (i64.wrap (2 * x8) < min x1 x3)) (.ret (V.kb false)) (.obc (.obt (.brt (.obt (.obc (.obt (.obc (.obt (.brt (.obt (.obc (.obt (.obc (.obt (.obi (.obi (.obi (.obi (.brt (.obt (.obc (.obt (.obc (.obt (.obi (.obi (.obi (.obi (.brt (.obt (.obc (.obt (.obc (.obt (.obi (.obi (.obi (.obi (.brf (.obi (.ret (V.bool (bif bif bif bif decide (0 <= F78_0 x0 x1 x2 x3 (F101_0 x5 2) (F101_1 x6 2)) then true else decide (0 <= F78_0 x0 x1 x2 x3 (F101_0 x7 2) (F101_1 x6 2)) then true else decide (0 <= F78_0 x0 x1 x2 x3 (F101_0 x7 2) (F101_1 x8 2)) then true else decide (0 <= F78_0 x0 x1 x2 x3 (F101_0 x5 2) (F101_1 x8 2)) then bif bif bif decide (F78_0 x0 x1 x2 x3 (F101_0 x5 2) (F101_1 x6 2) <= 0) then true else decide (F78_0 x0 x1 x2 x3 (F101_0 x7 2) (F101_1 x6 2) <= 0) then true else decide (F78_0 x0 x1 x2 x3 (F101_0 x7 2) (F101_1 x8 2) <= 0) then true else decide (F78_0 x0 x1 x2 x3 (F101_0 x5 2) (F101_1 x8 2) <= 0) else false))))))))))))))))))))))))))))))))))))))))))))))))))))))))))))))))))))))))))))))))))
theorem run145 (x0 x1 x2 x3 x4 x5 x6 x7 x8 : Int) : Fit noD (runL JJ ctB16a u5 s145 [V.agg [vi x0, vi x1, vi x2, vi x3, vi x4], V.agg [vi x5, vi x6, vi x7, vi x8]]) (m145 x0 x1 x2 x3 x4 x5 x6 x7 x8) := ⟨by kernel_rfl, by kernel_rfl⟩
def F145_0 (x0 x1 x2 x3 x5 x6 x7 x8 : Int) : Bool := bif bif bif bif decide (max x0 x2 < i64.wrap (2 * x5)) then true else decide (i64.wrap (2 * x7) < min x0 x2) then true else decide (max x1 x3 < i64.wrap (2 * x6)) then true else decide (i64.wrap (2 * x8) < min x1 x3) then false else bif bif bif bif decide (0 <= F78_0 x0 x1 x2 x3 (F101_0 x5 2) (F101_1 x6 2)) then true else decide (0 <= F78_0 x0 x1 x2 x3 (F101_0 x7 2) (F101_1 x6 2)) then true else decide (0 <= F78_0 x0 x1 x2 x3 (F101_0 x7 2) (F101_1 x8 2)) then true else decide (0 <= F78_0 x0 x1 x2 x3 (F101_0 x5 2) (F101_1 x8 2)) then bif bif bif decide (F78_0 x0 x1 x2 x3 (F101_0 x5 2) (F101_1 x6 2) <= 0) then true else decide (F78_0 x0 x1 x2 x3 (F101_0 x7 2) (F101_1 x6 2) <= 0) then true else decide (F78_0 x0 x1 x2 x3 (F101_0 x7 2) (F101_1 x8 2) <= 0) then true else decide (F78_0 x0 x1 x2 x3 (F101_0 x5 2) (F101_1 x8 2) <= 0) else false
def R145 (x0 x1 x2 x3 x4 x5 x6 x7 x8 : Int) : V := .bool (F145_0 x0 x1 x2 x3 x5 x6 x7 x8)
theorem ev145 (x0 x1 x2 x3 x4 x5 x6 x7 x8 : Int) : evR noE (m145 x0 x1 x2 x3 x4 x5 x6 x7 x8) (R145 x0 x1 x2 x3 x4 x5 x6 x7 x8) := evObi (evObi (evObi (evObi (evObi (evObi (evObi (evObi (evObi (evObi (evObi (evObi (evObi (evObi (evObi (evObi (evObi (evObi (evObi (evObi (evObi (evObi (evObi (evObi (evObi (evObi (evObi (evObi (evObi (evObi (evObi (evObi (evObi (evObi (evObi (evObi (evObi (evObi (evObi (evBr (fun h0 => evRet (by unfold R145 F145_0; try rw [h0]; rfl)) (fun h0 => evObc (evObt (evBrt (evObt (evObc (evObt (evObc (evObt (evBrt (evObt (evObc (evObt (evObc (evObt (evObi (evObi (evObi (evObi (evBrt (evObt (evObc (evObt (evObc (evObt (evObi (evObi (evObi (evObi (evBrt (evObt (evObc (evObt (evObc (evObt (evObi (evObi (evObi (evObi (evBrf (evObi (evRet (by unfold R145 F145_0; try rw [h0]; rfl)))))))))))))))))))))))))))))))))))))))))))))))))))))))))))))))))))))))))))))))))
def C145 : PCon := mkC [.agg tyT, .agg tp4] (fun _ => True) fun
  | [.agg [.int _ x0, .int _ x1, .int _ x2, .int _ x3, .int _ x4], .agg [.int _ x5, .int _ x6, .int _ x7, .int _ x8]] => R145 x0 x1 x2 x3 x4 x5 x6 x7 x8
  | _ => .any
theorem ok145 : (vP C145).Ok Tryz.prog 145 := mkE tabB16a Tryz.func145 (by kernel_rfl) fun ds hp => rf0 (run145 ..) (ev145 _ _ _ _ _ _ _ _ _)
end
end Go.Dx
namespace Go.Dx
open Go.IntKind (i64 u64 u8)
open Go.Sx Go.Proofs
set_option maxRecDepth 100000
set_option linter.unusedVariables false
set_option linter.unusedSimpArgs false
noncomputable section
def ctB16b : CTab := (145, .con C145) :: ctB16a
theorem tabB16b : TabOk Tryz.prog eqs its ctB16b := .con ok145 (tabB16a)
def m111 (x0 x1 x2 x3 x4 x5 x6 x7 x8 : Int) : RT Empty := .obc (.obt (.brt (.obt (.obc (.obt (.br (F123_0 x0 x1 x2 x3 x4 x5 x6) (.brt (.obt (.obc (.obt (.br (F123_0 x0 x1 x2 x3 x4 x7 x6) (.brt (.obt (.obc (.obt (.br (F123_0 x0 x1 x2 x3 x4 x7 x8) (.brt (.obt (.obc (.obt (.br (F123_0 x0 x1 x2 x3 x4 x5 x8) (.brf (.brt (.ret (vi 2)))) (.brf (.brf (.brt (.ret (vi 1)))))))))) (.brt (.obt (.obc (.obt (.br (F123_0 x0 x1 x2 x3 x4 x5 x8) (.brf (.brf (.brt (.ret (vi 1))))) (.brf (.brf (.brt (.ret (vi 1))))))))))))))) (.brt (.obt (.obc (.obt (.br (F123_0 x0 x1 x2 x3 x4 x7 x8) (.brt (.obt (.obc (.obt (.br (F123_0 x0 x1 x2 x3 x4 x5 x8) (.brf (.brf (.brt (.ret (vi 1))))) (.brf (.brf (.brt (.ret (vi 1)))))))))) (.brt (.obt (.obc (.obt (.br (F123_0 x0 x1 x2 x3 x4 x5 x8) (.brf (.brf (.brt (.ret (vi 1))))) (.brf (.brf (.brt (.ret (vi 1)))))))))))))))))))) (.brt (.obt (.obc (.obt (.br (F123_0 x0 x1 x2 x3 x4 x7 x6) (.brt (.obt (.obc (.obt (.br (F123_0 x0 x1 x2 x3 x4 x7 x8) (.brt (.obt (.obc (.obt (.br (F123_0 x0 x1 x2 x3 x4 x5 x8) (.brf (.brf (.brt (.ret (vi 1))))) (.brf (.brf (.brt (.ret (vi 1)))))))))) (.brt (.obt (.obc (.obt (.br (F123_0 x0 x1 x2 x3 x4 x5 x8) (.brf (.brf (.brt (.ret (vi 1))))) (.brf (.brf (.brt (.ret (vi 1))))))))))))))) (.brt (.obt (.obc (.obt (.br (F123_0 x0 x1 x2 x3 x4 x7 x8) (.brt (.obt (.obc (.obt (.br (F123_0 x0 x1 x2 x3 x4 x5 x8) (.brf (.brf (.brt (.ret (vi 1))))) (.brf (.brf (.brt (.ret (vi 1)))))))))) (.brt (.obt (.obc (.obt (.br (F123_0 x0 x1 x2 x3 x4 x5 x8) (.brf (.brf (.brt (.ret (vi 1))))) (.brf (.brf (.brf (.brt (.obt (.obc (.obt (.br (decide (F85_0 (max (max (i64.wrap (i64.wrap (2 * x5) - x0)) 0) (i64.wrap (x0 - i64.wrap (2 * x7)))) (max (max (i64.wrap (i64.wrap (2 * x6) - x1)) 0) (i64.wrap (x1 - i64.wrap (2 * x8)))) (max (max (i64.wrap (i64.wrap (2 * x5) - x0)) 0) (i64.wrap (x0 - i64.wrap (2 * x7)))) (max (max (i64.wrap (i64.wrap (2 * x6) - x1)) 0) (i64.wrap (x1 - i64.wrap (2 * x8)))) <= i64.wrap (x4 * x4))) (.ret (vi 1)) (.brt (.obt (.obc (.obt (.br (decide (F85_0 (max (max (i64.wrap (i64.wrap (2 * x5) - x2)) 0) (i64.wrap (x2 - i64.wrap (2 * x7)))) (max (max (i64.wrap (i64.wrap (2 * x6) - x3)) 0) (i64.wrap (x3 - i64.wrap (2 * x8)))) (max (max (i64.wrap (i64.wrap (2 * x5) - x2)) 0) (i64.wrap (x2 - i64.wrap (2 * x7)))) (max (max (i64.wrap (i64.wrap (2 * x6) - x3)) 0) (i64.wrap (x3 - i64.wrap (2 * x8)))) <= i64.wrap (x4 * x4))) (.ret (vi 1)) (.brf (.obc (.obt (.br (F145_0 x0 x1 x2 x3 x5 x6 x7 x8) (.ret (vi 1)) (.ret (vi 0))))))))))))))))))))))))))))))))))))))))
theorem run111 (x0 x1 x2 x3 x4 x5 x6 x7 x8 : Int) : Fit noD (runL JJ ctB16b u5 s111 [V.agg [vi x0, vi x1, vi x2, vi x3, vi x4], V.agg [vi x5, vi x6, vi x7, vi x8]]) (m111 x0 x1 x2 x3 x4 x5 x6 x7 x8) := ⟨by kernel_rfl, by kernel_rfl⟩
def F111_0 (x0 x1 x2 x3 x4 x5 x6 x7 x8 : Int) : Int := bif F123_0 x0 x1 x2 x3 x4 x5 x6 then bif F123_0 x0 x1 x2 x3 x4 x7 x6 then bif F123_0 x0 x1 x2 x3 x4 x7 x8 then bif F123_0 x0 x1 x2 x3 x4 x5 x8 then 2 else 1 else 1 else 1 else bif F123_0 x0 x1 x2 x3 x4 x7 x6 then 1 else bif F123_0 x0 x1 x2 x3 x4 x7 x8 then 1 else bif F123_0 x0 x1 x2 x3 x4 x5 x8 then 1 else bif decide (F85_0 (max (max (i64.wrap (i64.wrap (2 * x5) - x0)) 0) (i64.wrap (x0 - i64.wrap (2 * x7)))) (max (max (i64.wrap (i64.wrap (2 * x6) - x1)) 0) (i64.wrap (x1 - i64.wrap (2 * x8)))) (max (max (i64.wrap (i64.wrap (2 * x5) - x0)) 0) (i64.wrap (x0 - i64.wrap (2 * x7)))) (max (max (i64.wrap (i64.wrap (2 * x6) - x1)) 0) (i64.wrap (x1 - i64.wrap (2 * x8)))) <= i64.wrap (x4 * x4)) then 1 else bif decide (F85_0 (max (max (i64.wrap (i64.wrap (2 * x5) - x2)) 0) (i64.wrap (x2 - i64.wrap (2 * x7)))) (max (max (i64.wrap (i64.wrap (2 * x6) - x3)) 0) (i64.wrap (x3 - i64.wrap (2 * x8)))) (max (max (i64.wrap (i64.wrap (2 * x5) - x2)) 0) (i64.wrap (x2 - i64.wrap (2 * x7)))) (max (max (i64.wrap (i64.wrap (2 * x6) - x3)) 0) (i64.wrap (x3 - i64.wrap (2 * x8)))) <= i64.wrap (x4 * x4)) then 1 else bif F145_0 x0 x1 x2 x3 x5 x6 x7 x8 then 1 else 0
def R111 (x0 x1 x2 x3 x4 x5 x6 x7 x8 : Int) : V := .int i64 (F111_0 x0 x1 x2 x3 x4 x5 x6 x7 x8)
theorem ev111 (x0 x1 x2 x3 x4 x5 x6 x7 x8 : Int) : evR noE (m111 x0 x1 x2 x3 x4 x5 x6 x7 x8) (R111 x0 x1 x2 x3 x4 x5 x6 x7 x8) := evObc (evObt (evBrt (evObt (evObc (evObt (evBr (fun h0 => evBrt (evObt (evObc (evObt (evBr (fun h1 => evBrt (evObt (evObc (evObt (evBr (fun h2 => evBrt (evObt (evObc (evObt (evBr (fun h3 => evBrf (evBrt (evRet (by unfold R111 F111_0; try rw [h0]; try rw [h1]; try rw [h2]; try rw [h3]; rfl)))) (fun h3 => evBrf (evBrf (evBrt (evRet (by unfold R111 F111_0; try rw [h0]; try rw [h1]; try rw [h2]; try rw [h3]; rfl)))))))))) (fun h2 => evBrt (evObt (evObc (evObt (evBr (fun h3 => evBrf (evBrf (evBrt (evRet (by unfold R111 F111_0; try rw [h0]; try rw [h1]; try rw [h2]; try rw [h3]; rfl))))) (fun h3 => evBrf (evBrf (evBrt (evRet (by unfold R111 F111_0; try rw [h0]; try rw [h1]; try rw [h2]; try rw [h3]; rfl))))))))))))))) (fun h1 => evBrt (evObt (evObc (evObt (evBr (fun h2 => evBrt (evObt (evObc (evObt (evBr (fun h3 => evBrf (evBrf (evBrt (evRet (by unfold R111 F111_0; try rw [h0]; try rw [h1]; try rw [h2]; try rw [h3]; rfl))))) (fun h3 => evBrf (evBrf (evBrt (evRet (by unfold R111 F111_0; try rw [h0]; try rw [h1]; try rw [h2]; try rw [h3]; rfl)))))))))) (fun h2 => evBrt (evObt (evObc (evObt (evBr (fun h3 => evBrf (evBrf (evBrt (evRet (by unfold R111 F111_0; try rw [h0]; try rw [h1]; try rw [h2]; try rw [h3]; rfl))))) (fun h3 => evBrf (evBrf (evBrt (evRet (by unfold R111 F111_0; try rw [h0]; try rw [h1]; try rw [h2]; try rw [h3]; rfl)))))))))))))))))))) (fun h0 => evBrt (evObt (evObc (evObt (evBr (fun h1 => evBrt (evObt (evObc (evObt (evBr (fun h2 => evBrt (evObt (evObc (evObt (evBr (fun h3 => evBrf (evBrf (evBrt (evRet (by unfold R111 F111_0; try rw [h0]; try rw [h1]; try rw [h2]; try rw [h3]; rfl))))) (fun h3 => evBrf (evBrf (evBrt (evRet (by unfold R111 F111_0; try rw [h0]; try rw [h1]; try rw [h2]; try rw [h3]; rfl)))))))))) (fun h2 => evBrt (evObt (evObc (evObt (evBr (fun h3 => evBrf (evBrf (evBrt (evRet (by unfold R111 F111_0; try rw [h0]; try rw [h1]; try rw [h2]; try rw [h3]; rfl))))) (fun h3 => evBrf (evBrf (evBrt (evRet (by unfold R111 F111_0; try rw [h0]; try rw [h1]; try rw [h2]; try rw [h3]; rfl))))))))))))))) (fun h1 => evBrt (evObt (evObc (evObt (evBr (fun h2 => evBrt (evObt (evObc (evObt (evBr (fun h3 => evBrf (evBrf (evBrt (evRet (by unfold R111 F111_0; try rw [h0]; try rw [h1]; try rw [h2]; try rw [h3]; rfl))))) (fun h3 => evBrf (evBrf (evBrt (evRet (by unfold R111 F111_0; try rw [h0]; try rw [h1]; try rw [h2]; try rw [h3]; rfl)))))))))) (fun h2 => evBrt (evObt (evObc (evObt (evBr (fun h3 => evBrf (evBrf (evBrt (evRet (by unfold R111 F111_0; try rw [h0]; try rw [h1]; try rw [h2]; try rw [h3]; rfl))))) (fun h3 => evBrf (evBrf (evBrf (evBrt (evObt (evObc (evObt (evBr (fun h4 => evRet (by unfold R111 F111_0; try rw [h0]; try rw [h1]; try rw [h2]; try rw [h3]; try rw [h4]; rfl)) (fun h4 => evBrt (evObt (evObc (evObt (evBr (fun h5 => evRet (by unfold R111 F111_0; try rw [h0]; try rw [h1]; try rw [h2]; try rw [h3]; try rw [h4]; try rw [h5]; rfl)) (fun h5 => evBrf (evObc (evObt (evBr (fun h6 => evRet (by unfold R111 F111_0; try rw [h0]; try rw [h1]; try rw [h2]; try rw [h3]; try rw [h4]; try rw [h5]; try rw [h6]; rfl)) (fun h6 => evRet (by unfold R111 F111_0; try rw [h0]; try rw [h1]; try rw [h2]; try rw [h3]; try rw [h4]; try rw [h5]; try rw [h6]; rfl))))))))))))))))))))))))))))))))))))))))
def C111 : PCon := mkC [.agg tyT, .agg tp4] (fun _ => True) fun
  | [.agg [.int _ x0, .int _ x1, .int _ x2, .int _ x3, .int _ x4], .agg [.int _ x5, .int _ x6, .int _ x7, .int _ x8]] => R111 x0 x1 x2 x3 x4 x5 x6 x7 x8
  | _ => .any
theorem ok111 : (vP C111).Ok Tryz.prog 111 := mkE tabB16b Tryz.func111 (by kernel_rfl) fun ds hp => rf0 (run111 ..) (ev111 _ _ _ _ _ _ _ _ _)
def m56 (x0 x1 x2 x3 x4 x5 x6 x7 x8 x9 : Int) (b10 : Bool) : RT Empty := .obc (.obt (.ret (V.bool !F49_0 x2 x3 x4 x5 x6 x7 x8 x9 b10 x0 x1)))
theorem run56 (x0 x1 x2 x3 x4 x5 x6 x7 x8 x9 : Int) (b10 : Bool) : Fit noD (runL JJ ctB16b u0 s56 [V.agg [vi x0, vi x1], V.pd [vi x2, vi x3, vi x4, vi x5, vi x6, vi x7, vi x8, vi x9, V.bool b10]]) (m56 x0 x1 x2 x3 x4 x5 x6 x7 x8 x9 b10) := ⟨by kernel_rfl, by kernel_rfl⟩
def F56_0 (x0 x1 x2 x3 x4 x5 x6 x7 x8 x9 : Int) (b10 : Bool) : Bool := !F49_0 x2 x3 x4 x5 x6 x7 x8 x9 b10 x0 x1
def R56 (x0 x1 x2 x3 x4 x5 x6 x7 x8 x9 : Int) (b10 : Bool) : V := .bool (F56_0 x0 x1 x2 x3 x4 x5 x6 x7 x8 x9 b10)
theorem ev56 (x0 x1 x2 x3 x4 x5 x6 x7 x8 x9 : Int) (b10 : Bool) : evR noE (m56 x0 x1 x2 x3 x4 x5 x6 x7 x8 x9 b10) (R56 x0 x1 x2 x3 x4 x5 x6 x7 x8 x9 b10) := evObc (evObt (evRet (by unfold R56 F56_0; rfl)))
def C56 : PCon := mkC [.agg tp2, .pd [.int .i64, .int .i64, .int .i64, .int .i64, .int .i64, .int .i64, .int .i64, .int .i64, .bool]] (fun _ => True) fun
  | [.agg [.int _ x0, .int _ x1], .pd [.int _ x2, .int _ x3, .int _ x4, .int _ x5, .int _ x6, .int _ x7, .int _ x8, .int _ x9, .bool b10]] => R56 x0 x1 x2 x3 x4 x5 x6 x7 x8 x9 b10
  | _ => .any
theorem ok56 : (vP C56).Ok Tryz.prog 56 := mkE tabB16b Tryz.func56 (by kernel_rfl) fun ds hp => rf0 (run56 ..) (ev56 _ _ _ _ _ _ _ _ _ _ _)
def m47 (x0 x1 x2 x3 x4 : Int) (n5 : Nat) (f5 : FnV) (n7 : Nat) (f7 : FnV) (n9 : Nat) (f9 : FnV) (n11 : Nat) (f11 : FnV) (x13 x14 x15 : Int) : RT Empty := .ob (decide (0 <= x13 /\ x13 < (↑n11 : Int))) (.obc (.obt (.obc (.obt (.ret (V.bool (F49_0 (iv (hdV (tlV (f11 x13.toNat)))) (iv (hdV (tlV (tlV (f11 x13.toNat))))) (iv (hdV (tlV (tlV (tlV (f11 x13.toNat)))))) (F48_0 (iv (hdV (tlV (tlV (tlV (f11 x13.toNat)))))) x4) (F48_1 (iv (hdV (tlV (tlV (tlV (f11 x13.toNat)))))) x3) (F48_2 (iv (hdV (tlV (tlV (tlV (f11 x13.toNat)))))) x0) (F48_3 (iv (hdV (tlV (tlV (tlV (f11 x13.toNat)))))) x1) (F48_4 (iv (hdV (tlV (tlV (tlV (f11 x13.toNat)))))) x2) (F48_5 (iv (hdV (tlV (tlV (tlV (f11 x13.toNat)))))) x3) x14 x15)))))))
theorem run47 (x0 x1 x2 x3 x4 : Int) (n5 : Nat) (f5 : FnV) (n7 : Nat) (f7 : FnV) (n9 : Nat) (f9 : FnV) (n11 : Nat) (f11 : FnV) (x13 x14 x15 : Int) : Fit noD (runL JJ ctB16b u0 s47 [V.agg [vi x0, vi x1, vi x2, vi x3, vi x4], V.pd [V.sl n5 (elV tyR f5), V.sl n7 (elV tyT f7), V.sl n9 (elV tyF f9), V.sl n11 (elV tyC f11)], V.pd [vi x13], V.pd [vi x14], V.pd [vi x15]]) (m47 x0 x1 x2 x3 x4 n5 f5 n7 f7 n9 f9 n11 f11 x13 x14 x15) := ⟨by kernel_rfl, by kernel_rfl⟩
def F47_0 (x0 x1 x2 x3 x4 : Int) (f11 : FnV) (x13 x14 x15 : Int) : Bool := F49_0 (iv (hdV (tlV (f11 x13.toNat)))) (iv (hdV (tlV (tlV (f11 x13.toNat))))) (iv (hdV (tlV (tlV (tlV (f11 x13.toNat)))))) (F48_0 (iv (hdV (tlV (tlV (tlV (f11 x13.toNat)))))) x4) (F48_1 (iv (hdV (tlV (tlV (tlV (f11 x13.toNat)))))) x3) (F48_2 (iv (hdV (tlV (tlV (tlV (f11 x13.toNat)))))) x0) (F48_3 (iv (hdV (tlV (tlV (tlV (f11 x13.toNat)))))) x1) (F48_4 (iv (hdV (tlV (tlV (tlV (f11 x13.toNat)))))) x2) (F48_5 (iv (hdV (tlV (tlV (tlV (f11 x13.toNat)))))) x3) x14 x15
def R47 (x0 x1 x2 x3 x4 : Int) (n5 : Nat) (f5 : FnV) (n7 : Nat) (f7 : FnV) (n9 : Nat) (f9 : FnV) (n11 : Nat) (f11 : FnV) (x13 x14 x15 : Int) : V := .bool (F47_0 x0 x1 x2 x3 x4 f11 x13 x14 x15)
theorem ev47 (x0 x1 x2 x3 x4 : Int) (n5 : Nat) (f5 : FnV) (n7 : Nat) (f7 : FnV) (n9 : Nat) (f9 : FnV) (n11 : Nat) (f11 : FnV) (x13 x14 x15 : Int) (hp : 0 <= x13 /\ x13 < (n11 : Int)) : evR noE (m47 x0 x1 x2 x3 x4 n5 f5 n7 f7 n9 f9 n11 f11 x13 x14 x15) (R47 x0 x1 x2 x3 x4 n5 f5 n7 f7 n9 f9 n11 f11 x13 x14 x15) := evOb (by first | assumption | (exact decide_eq_true hp)) (evObc (evObt (evObc (evObt (evRet (by unfold R47 F47_0; rfl))))))
def C47 : PCon := mkC [.agg tyT, .pd [.sl tyR, .sl tyT, .sl tyF, .sl tyC], .pd tp1, .pd tp1, .pd tp1] (fun
  | [.agg [.int _ x0, .int _ x1, .int _ x2, .int _ x3, .int _ x4], .pd [.sl n5 f5, .sl n7 f7, .sl n9 f9, .sl n11 f11], .pd [.int _ x13], .pd [.int _ x14], .pd [.int _ x15]] => 0 <= x13 /\ x13 < (n11 : Int)
  | _ => False) fun
  | [.agg [.int _ x0, .int _ x1, .int _ x2, .int _ x3, .int _ x4], .pd [.sl n5 f5, .sl n7 f7, .sl n9 f9, .sl n11 f11], .pd [.int _ x13], .pd [.int _ x14], .pd [.int _ x15]] => R47 x0 x1 x2 x3 x4 n5 f5 n7 f7 n9 f9 n11 f11 x13 x14 x15
  | _ => .any
theorem ok47 : (vP C47).Ok Tryz.prog 47 := mkE tabB16b Tryz.func47 (by kernel_rfl) fun ds hp => rf0 (run47 ..) (ev47 _ _ _ _ _ _ _ _ _ _ _ _ _ _ _ _ hp)
end
end Go.Dx
namespace Go.Dx
open Go.IntKind (i64 u64 u8)
open Go.Sx
section
variable {S : Type} {step : S -> RT S}
theorem idx_evW {L : Int -> S} {n : Nat} {p : Nat -> Bool} {Q : Nat -> Prop} {ρ : Rho} (W : Nat -> RT S -> RT S) (hW : ∀ i x r, Q i -> evR (Ev step) x r -> evR (Ev step) (W i x) r) (hWn : ∀ i x, noAll (W i x) = noAll x) (hn : n <= 9223372036854775807) (hQ : ∀ i, i < n -> Q i)
    (hst : ∀ i : Nat, step (L i) = .br (decide ((i : Int) < (n : Int))) (.ob (decide (0 <= (i : Int) /\ (i : Int) < (n : Int))) (W i (.br (p i) (.ret (.int .i64 i)) (.next ρ (L (i64.wrap ((i : Int) + 1))) [])))) (.ret (.int .i64 (-1)))) :
    Ev step (L 0) (.int .i64 (idx n p)) :=
  scan hn p (P := fun i => Ev step (L i) (.int .i64 (idx n p))) (fun i hlt hj next => Ev.of (by rw [hst]; simp only [noAll, hWn, Bool.and_self]) (by
    rw [hst]
    refine evBrLt hlt (evObLt hlt (hW i _ _ (hQ i hlt) (evBr (fun hb => evRet ?_) (fun hb => evNext (next hb)))))
    rw [idx_some hb hlt hj])) (fun hj => Ev.of (by rw [hst]; simp only [noAll, hWn, Bool.and_self]) (by
    rw [hst]
    refine evBrGe (evRet ?_)
    rw [idx_none hj]))
end
end Go.Dx
namespace Go.Dx
open Go.IntKind (i64 u64 u8)
open Go.Sx
def maxTo (p : Nat -> Int) : Nat -> Int
  | 0 => 0
  | k + 1 => max (maxTo p k) (p k)
section
variable {S : Type} {step : S -> RT S}
theorem pieces_ev {L : Int -> Nat -> Int -> S} {n : Nat} {p : Nat -> Int} {ρ : Rho} {l : Nat} (hn : n <= 9223372036854775807)
    (hst : ∀ (i : Nat) (a : Int), i64.wrap ((i : Int) + 1) = ((i + 1 : Nat) : Int) -> step (L i l a) = .br (decide ((i : Int) < i64.wrap ((n : Int) - 1))) (.ob (decide (0 <= (i : Int) /\ (i : Int) < (n : Int))) (.ob (decide (0 <= i64.wrap ((i : Int) + 1) /\ i64.wrap ((i : Int) + 1) < (n : Int))) (.obt (.obt (.obt (.obt (.obc (.obt (.next ρ (L (i64.wrap ((i : Int) + 1)) l (max a (p i))) [])))))))) ) (.ret (.int .i64 a))) :
    Ev step (L 0 l 0) (.int .i64 (maxTo p (n - 1))) := by
  have w0 : i64.wrap ((n : Int) - 1) = (n : Int) - 1 := wrapI (by omega) (by omega)
  have key := up_ind (n := n - 1) (P := fun i => Ev step (L i l (maxTo p i)) (.int .i64 (maxTo p (n - 1)))) fun i hi ih => by
    have w1 : i64.wrap ((i : Int) + 1) = ((i + 1 : Nat) : Int) := by rw [wrapI (by omega) (by omega)]; omega
    refine Ev.of (by rw [hst i _ w1]; rfl) ?_
    rw [hst i _ w1]
    by_cases hlt : i < n - 1
    · refine evBrT (decide_eq_true (by rw [w0]; omega)) (evOb (decide_eq_true (by omega)) (evOb (decide_eq_true (by rw [w1]; omega)) (evObt (evObt (evObt (evObt (evObc (evObt (evNext ?_)))))))))
      rw [w1]; exact ih hlt
    · refine evBrF (decide_eq_false (by rw [w0]; omega)) (evRet ?_)
      have : i = n - 1 := by omega
      subst this; rfl
  exact key 0 (Nat.zero_le _)
end
end Go.Dx
namespace Go.Dx
open Go.IntKind (i64 u64 u8)
open Go.Sx
end Go.Dx
namespace Go.Dx
open Go.IntKind (i64 u64 u8)
theorem maxTo_ge {p : Nat -> Int} {i : Nat} : ∀ {n : Nat}, i < n -> p i <= maxTo p n
  | n + 1, h => by
    simp only [maxTo]
    by_cases e : i = n
    · subst e; omega
    · have := maxTo_ge (p := p) (i := i) (n := n) (by omega); omega
theorem maxTo_le {p : Nat -> Int} {B : Int} (hB : 0 <= B) : ∀ {n : Nat}, (∀ i, i < n -> p i <= B) -> maxTo p n <= B
  | 0, _ => hB
  | n + 1, h => by
    simp only [maxTo]
    have := maxTo_le (p := p) hB (n := n) fun i hi => h i (by omega)
    have := h n (by omega); omega
theorem maxTo_top {p : Nat -> Int} {B : Int} {n i : Nat} (hp : ∀ i, p i <= B) (hi : i < n) (h : p i = B) (hB : 0 <= B := by decide) : maxTo p n = B := by
  have := maxTo_ge (p := p) hi
  have := maxTo_le (p := p) hB (n := n) fun i _ => hp i
  omega
theorem maxTo_congr {p q : Nat -> Int} : ∀ {n : Nat}, (∀ i, i < n -> p i = q i) -> maxTo p n = maxTo q n
  | 0, _ => rfl
  | n + 1, h => by simp only [maxTo]; rw [maxTo_congr fun i hi => h i (by omega), h n (by omega)]
end Go.Dx
namespace Go.Dx
open Go.IntKind (i64 u64 u8)
open Go.Sx Go.Proofs
set_option maxRecDepth 100000
set_option linter.unusedVariables false
set_option linter.unusedSimpArgs false
noncomputable section
def ctB16c : CTab := (111, .con C111) :: (56, .con C56) :: (47, .con C47) :: ctB16b
theorem tabB16c : TabOk Tryz.prog eqs its ctB16c := .con ok111 (.con ok56 (.con ok47 (tabB16b)))
inductive S108 where
  | L0 (i_100 : Int)
def inv108 (n0 : Nat) (f0 : FnV) (x2 x3 x4 x5 x6 x7 x8 x9 : Int) (b10 : Bool) : S108 -> Env × List O × Option Ex
  | .L0 i_100 => ([(8, vi i_100), (7, vi (↑n0 : Int)), (6, V.sl n0 (elV tp2 f0)), (4, vi 0), (0, V.sl n0 (elV tp2 f0)), (1, V.fn 56 [] [V.pd [vi x2, vi x3, vi x4, vi x5, vi x6, vi x7, vi x8, vi x9, V.bool b10]])], [], none)
def id108 : S108 -> JJ
  | .L0 i_100 => (0, [])
def rl108 (n0 : Nat) (f0 : FnV) (x2 x3 x4 x5 x6 x7 x8 x9 : Int) (b10 : Bool) : T (Leaf JJ) := runL JJ ctB16c u0 s108 [V.sl n0 (elV tp2 f0), V.fn 56 [] [V.pd [vi x2, vi x3, vi x4, vi x5, vi x6, vi x7, vi x8, vi x9, V.bool b10]]]
def lp108_0 (n0 : Nat) (f0 : FnV) (x2 x3 x4 x5 x6 x7 x8 x9 : Int) (b10 : Bool) (cx : List Cx) : Lp JJ := lpT (atT (rl108 n0 f0 x2 x3 x4 x5 x6 x7 x8 x9 b10) [])
def lp108 (n0 : Nat) (f0 : FnV) (x2 x3 x4 x5 x6 x7 x8 x9 : Int) (b10 : Bool) : JJ -> Lp JJ
  | (0, cx) => lp108_0 n0 f0 x2 x3 x4 x5 x6 x7 x8 x9 b10 cx
  | (_, cx) => lp108_0 n0 f0 x2 x3 x4 x5 x6 x7 x8 x9 b10 cx
def D108 (n0 : Nat) (f0 : FnV) (x2 x3 x4 x5 x6 x7 x8 x9 : Int) (b10 : Bool) : LD JJ S108 := ⟨id108, lp108 n0 f0 x2 x3 x4 x5 x6 x7 x8 x9 b10, inv108 n0 f0 x2 x3 x4 x5 x6 x7 x8 x9 b10⟩
def st108 (n0 : Nat) (f0 : FnV) (x2 x3 x4 x5 x6 x7 x8 x9 : Int) (b10 : Bool) : S108 -> RT S108
  | .L0 i_100 => .br (decide (i_100 < (↑n0 : Int))) (.ob (decide (0 <= i_100 /\ i_100 < (↑n0 : Int))) (.obc (.obt (.br (F56_0 (iv (hdV (f0 i_100.toNat))) (iv (hdV (tlV (f0 i_100.toNat)))) x2 x3 x4 x5 x6 x7 x8 x9 b10) (.ret (vi i_100)) (.next [] (S108.L0 (i64.wrap (i_100 + 1))) []))))) (.ret (vi (-1)))
def m108 (n0 : Nat) (f0 : FnV) (x2 x3 x4 x5 x6 x7 x8 x9 : Int) (b10 : Bool) : RT S108 := .asm (true = true -> n0 <= 9223372036854775807) (.enter [] (S108.L0 (0)) [])
theorem run108 (n0 : Nat) (f0 : FnV) (x2 x3 x4 x5 x6 x7 x8 x9 : Int) (b10 : Bool) : Fits ctB16c u0 (D108 n0 f0 x2 x3 x4 x5 x6 x7 x8 x9 b10) (rl108 n0 f0 x2 x3 x4 x5 x6 x7 x8 x9 b10) (m108 n0 f0 x2 x3 x4 x5 x6 x7 x8 x9 b10) (st108 n0 f0 x2 x3 x4 x5 x6 x7 x8 x9 b10) := ⟨⟨by kernel_rfl, by kernel_rfl⟩, fun s => match s with | .L0 i_100 => ⟨by kernel_rfl, by kernel_rfl⟩⟩
def F108 (n0 : Nat) (f0 : FnV) (x2 x3 x4 x5 x6 x7 x8 x9 : Int) (b10 : Bool) : Int   := idx n0 fun ii => F56_0 (iv (hdV (f0 ii))) (iv (hdV (tlV (f0 ii)))) x2 x3 x4 x5 x6 x7 x8 x9 b10
theorem ev108_0 (n0 : Nat) (f0 : FnV) (x2 x3 x4 x5 x6 x7 x8 x9 : Int) (b10 : Bool) : evR (Ev (st108 n0 f0 x2 x3 x4 x5 x6 x7 x8 x9 b10)) (m108 n0 f0 x2 x3 x4 x5 x6 x7 x8 x9 b10) (.int .i64 (F108 n0 f0 x2 x3 x4 x5 x6 x7 x8 x9 b10)) := evAsm1 fun hn => evEnter (idx_ev hn fun i => rfl)
theorem ev108 (n0 : Nat) (f0 : FnV) (x2 x3 x4 x5 x6 x7 x8 x9 : Int) (b10 : Bool) : evR (Ev (st108 n0 f0 x2 x3 x4 x5 x6 x7 x8 x9 b10)) (m108 n0 f0 x2 x3 x4 x5 x6 x7 x8 x9 b10) (.int .i64 (F108 n0 (elV tp2 f0) x2 x3 x4 x5 x6 x7 x8 x9 b10)) := ev108_0 n0 f0 x2 x3 x4 x5 x6 x7 x8 x9 b10
def C108 : PCon := mkC [.sl tp2, .fn 56 [] [.pd [.int .i64, .int .i64, .int .i64, .int .i64, .int .i64, .int .i64, .int .i64, .int .i64, .bool]]] (fun _ => True) fun
  | [.sl n0 f0, .fn _ [] [.pd [.int _ x2, .int _ x3, .int _ x4, .int _ x5, .int _ x6, .int _ x7, .int _ x8, .int _ x9, .bool b10]]] => .int .i64 (F108 n0 f0 x2 x3 x4 x5 x6 x7 x8 x9 b10)
  | _ => .any
theorem ok108 : (vP C108).Ok Tryz.prog 108 := mkE tabB16c Tryz.func108 (by kernel_rfl) fun ds hp => rfs (run108 ..) (ev108 _ _ _ _ _ _ _ _ _ _ _)
inductive S46 where
  | L0 (i_100 : Int)
def inv46 (n0 : Nat) (f0 : FnV) (n2 : Nat) (f2 : FnV) (n4 : Nat) (f4 : FnV) (n6 : Nat) (f6 : FnV) (n8 : Nat) (f8 : FnV) (x10 x11 x12 : Int) : S46 -> Env × List O × Option Ex
  | .L0 i_100 => ([(8, vi i_100), (7, vi (↑n0 : Int)), (6, V.sl n0 (elV tyT f0)), (4, vi 0), (0, V.sl n0 (elV tyT f0)), (1, V.fn 47 [] [V.pd [V.sl n2 (elV tyR f2), V.sl n4 (elV tyT f4), V.sl n6 (elV tyF f6), V.sl n8 (elV tyC f8)], V.pd [vi x10], V.pd [vi x11], V.pd [vi x12]])], [], none)
def id46 : S46 -> JJ
  | .L0 i_100 => (0, [])
def rl46 (n0 : Nat) (f0 : FnV) (n2 : Nat) (f2 : FnV) (n4 : Nat) (f4 : FnV) (n6 : Nat) (f6 : FnV) (n8 : Nat) (f8 : FnV) (x10 x11 x12 : Int) : T (Leaf JJ) := runL JJ ctB16c u0 s46 [V.sl n0 (elV tyT f0), V.fn 47 [] [V.pd [V.sl n2 (elV tyR f2), V.sl n4 (elV tyT f4), V.sl n6 (elV tyF f6), V.sl n8 (elV tyC f8)], V.pd [vi x10], V.pd [vi x11], V.pd [vi x12]]]
def lp46_0 (n0 : Nat) (f0 : FnV) (n2 : Nat) (f2 : FnV) (n4 : Nat) (f4 : FnV) (n6 : Nat) (f6 : FnV) (n8 : Nat) (f8 : FnV) (x10 x11 x12 : Int) (cx : List Cx) : Lp JJ := lpT (atT (rl46 n0 f0 n2 f2 n4 f4 n6 f6 n8 f8 x10 x11 x12) [])
def lp46 (n0 : Nat) (f0 : FnV) (n2 : Nat) (f2 : FnV) (n4 : Nat) (f4 : FnV) (n6 : Nat) (f6 : FnV) (n8 : Nat) (f8 : FnV) (x10 x11 x12 : Int) : JJ -> Lp JJ
  | (0, cx) => lp46_0 n0 f0 n2 f2 n4 f4 n6 f6 n8 f8 x10 x11 x12 cx
  | (_, cx) => lp46_0 n0 f0 n2 f2 n4 f4 n6 f6 n8 f8 x10 x11 x12 cx
def D46 (n0 : Nat) (f0 : FnV) (n2 : Nat) (f2 : FnV) (n4 : Nat) (f4 : FnV) (n6 : Nat) (f6 : FnV) (n8 : Nat) (f8 : FnV) (x10 x11 x12 : Int) : LD JJ S46 := ⟨id46, lp46 n0 f0 n2 f2 n4 f4 n6 f6 n8 f8 x10 x11 x12, inv46 n0 f0 n2 f2 n4 f4 n6 f6 n8 f8 x10 x11 x12⟩
def st46 (n0 : Nat) (f0 : FnV) (n2 : Nat) (f2 : FnV) (n4 : Nat) (f4 : FnV) (n6 : Nat) (f6 : FnV) (n8 : Nat) (f8 : FnV) (x10 x11 x12 : Int) : S46 -> RT S46
  | .L0 i_100 => .br (decide (i_100 < (↑n0 : Int))) (.ob (decide (0 <= i_100 /\ i_100 < (↑n0 : Int))) (.obp ((0 : Int) <= x10 /\ x10 < (↑n8 : Int)) (.obt (.br (F47_0 (iv (hdV (f0 i_100.toNat))) (iv (hdV (tlV (f0 i_100.toNat)))) (iv (hdV (tlV (tlV (f0 i_100.toNat))))) (iv (hdV (tlV (tlV (tlV (f0 i_100.toNat)))))) (iv (hdV (tlV (tlV (tlV (tlV (f0 i_100.toNat))))))) (elV tyC f8) x10 x11 x12) (.ret (vi i_100)) (.next [] (S46.L0 (i64.wrap (i_100 + 1))) []))))) (.ret (vi (-1)))
def m46 (n0 : Nat) (f0 : FnV) (n2 : Nat) (f2 : FnV) (n4 : Nat) (f4 : FnV) (n6 : Nat) (f6 : FnV) (n8 : Nat) (f8 : FnV) (x10 x11 x12 : Int) : RT S46 := .asm (true = true -> n0 <= 9223372036854775807) (.enter [] (S46.L0 (0)) [])
theorem run46 (n0 : Nat) (f0 : FnV) (n2 : Nat) (f2 : FnV) (n4 : Nat) (f4 : FnV) (n6 : Nat) (f6 : FnV) (n8 : Nat) (f8 : FnV) (x10 x11 x12 : Int) : Fits ctB16c u0 (D46 n0 f0 n2 f2 n4 f4 n6 f6 n8 f8 x10 x11 x12) (rl46 n0 f0 n2 f2 n4 f4 n6 f6 n8 f8 x10 x11 x12) (m46 n0 f0 n2 f2 n4 f4 n6 f6 n8 f8 x10 x11 x12) (st46 n0 f0 n2 f2 n4 f4 n6 f6 n8 f8 x10 x11 x12) := ⟨⟨by kernel_rfl, by kernel_rfl⟩, fun s => match s with | .L0 i_100 => ⟨by kernel_rfl, by kernel_rfl⟩⟩
def F46 (n0 : Nat) (f0 f8 : FnV) (x10 x11 x12 : Int) : Int   := idx n0 fun ii => F47_0 (iv (hdV (f0 ii))) (iv (hdV (tlV (f0 ii)))) (iv (hdV (tlV (tlV (f0 ii))))) (iv (hdV (tlV (tlV (tlV (f0 ii)))))) (iv (hdV (tlV (tlV (tlV (tlV (f0 ii))))))) (elV tyC f8) x10 x11 x12
theorem ev46_0 (n0 : Nat) (f0 : FnV) (n2 : Nat) (f2 : FnV) (n4 : Nat) (f4 : FnV) (n6 : Nat) (f6 : FnV) (n8 : Nat) (f8 : FnV) (x10 x11 x12 : Int) (hp : 0 <= x10 /\ x10 < (n8 : Int)) : evR (Ev (st46 n0 f0 n2 f2 n4 f4 n6 f6 n8 f8 x10 x11 x12)) (m46 n0 f0 n2 f2 n4 f4 n6 f6 n8 f8 x10 x11 x12) (.int .i64 (F46 n0 f0 f8 x10 x11 x12)) := evAsm1 fun hn => evEnter (idx_evW (Q := fun ii => (0 : Int) <= x10 /\ x10 < (↑n8 : Int)) (fun ii x => .obp ((0 : Int) <= x10 /\ x10 < (↑n8 : Int)) (.obt x)) (fun i x r h hx => evObp h (evObt hx)) (fun _ _ => rfl) hn (fun _ _ => hp) fun i => rfl)
theorem ev46 (n0 : Nat) (f0 : FnV) (n2 : Nat) (f2 : FnV) (n4 : Nat) (f4 : FnV) (n6 : Nat) (f6 : FnV) (n8 : Nat) (f8 : FnV) (x10 x11 x12 : Int) (hp : 0 <= x10 /\ x10 < (n8 : Int)) : evR (Ev (st46 n0 f0 n2 f2 n4 f4 n6 f6 n8 f8 x10 x11 x12)) (m46 n0 f0 n2 f2 n4 f4 n6 f6 n8 f8 x10 x11 x12) (.int .i64 (F46 n0 (elV tyT f0) (elV tyC f8) x10 x11 x12)) := ev46_0 n0 f0 n2 f2 n4 f4 n6 f6 n8 f8 x10 x11 x12 hp
def C46 : PCon := mkC [.sl tyT, .fn 47 [] [.pd [.sl tyR, .sl tyT, .sl tyF, .sl tyC], .pd tp1, .pd tp1, .pd tp1]] (fun
  | [.sl n0 f0, .fn _ [] [.pd [.sl n2 f2, .sl n4 f4, .sl n6 f6, .sl n8 f8], .pd [.int _ x10], .pd [.int _ x11], .pd [.int _ x12]]] => 0 <= x10 /\ x10 < (n8 : Int)
  | _ => False) fun
  | [.sl n0 f0, .fn _ [] [.pd [.sl n2 f2, .sl n4 f4, .sl n6 f6, .sl n8 f8], .pd [.int _ x10], .pd [.int _ x11], .pd [.int _ x12]]] => .int .i64 (F46 n0 f0 f8 x10 x11 x12)
  | _ => .any
theorem ok46 : (vP C46).Ok Tryz.prog 46 := mkE tabB16c Tryz.func46 (by kernel_rfl) fun ds hp => rfs (run46 ..) (ev46 _ _ _ _ _ _ _ _ _ _ _ _ _ hp)
end
end Go.Dx
namespace Go.Dx
open Go.IntKind (i64 u64 u8)
open Go.Sx Go.Proofs
set_option maxRecDepth 100000
set_option linter.unusedVariables false
set_option linter.unusedSimpArgs false
noncomputable section
def ctB16d : CTab := [(108, .con C108), (46, .con C46), (111, .con C111), (56, .con C56), (47, .con C47), (145, .con C145), (140, .con C140), (49, .con C49), (123, .con C123), (124, .con C124), (50, .con C50), (44, .con C44), (91, .con C91), (24, .con C24), (23, .con C23), (70, .con C70), (62, .con C62), (68, .con C68), (63, .con C63), (69, .con C69), (117, .inl s117 u0), (116, .inl s116 u0), (115, .con C115), (114, .con C114), (73, .con C73), (147, .con C147), (64, .con C64), (66, .con C66), (113, .con C113), (65, .con C65), (67, .con C67), (53, .con C53), (58, .con C58), (122, .con C122), (72, .con C72), (45, .con C45), (90, .con C90), (119, .con C119), (121, .con C121), (99, .con C99), (129, .con C129), (148, .con C148), (149, .con C149), (112, .con C112), (118, .con C118), (120, .con C120), (51, .con C51), (133, .con C133), (103, .con C103), (106, .con C106), (100, .con C100), (150, .con C150), (134, .con C134), (135, .con C135), (137, .con C137), (138, .con C138), (78, .con C78), (54, .con C54), (59, .con C59), (48, .con C48), (102, .con C102), (171, .con C171), (81, .con C81), (88, .con C88), (84, .con C84), (85, .con C85), (127, .con C127), (101, .con C101), (86, .con C86), (71, .con C71), (93, .con C93), (92, .con C92), (79, .con C79), (136, .con C136), (144, .con C144), (125, .con C125), (162, .con C162), (146, .con C146), (83, .inl s83 u0)]
theorem tabB16d : TabOk Tryz.prog eqs its ctB16d := .con ok108 (.con ok46 (.con ok111 (.con ok56 (.con ok47 (.con ok145 (.con ok140 (.con ok49 (.con ok123 (.con ok124 (.con ok50 (.con ok44 (.con ok91 (.con ok24 (.con ok23 (.con ok70 (.con ok62 (.con ok68 (.con ok63 (.con ok69 (.inl Tryz.func117 (by kernel_rfl) (by kernel_rfl) (by kernel_rfl) (.inl Tryz.func116 (by kernel_rfl) (by kernel_rfl) (by kernel_rfl) (.con ok115 (.con ok114 (.con ok73 (.con ok147 (.con ok64 (.con ok66 (.con ok113 (.con ok65 (.con ok67 (.con ok53 (.con ok58 (.con ok122 (.con ok72 (.con ok45 (.con ok90 (.con ok119 (.con ok121 (.con ok99 (.con ok129 (.con ok148 (.con ok149 (.con ok112 (.con ok118 (.con ok120 (.con ok51 (.con ok133 (.con ok103 (.con ok106 (.con ok100 (.con ok150 (.con ok134 (.con ok135 (.con ok137 (.con ok138 (.con ok78 (.con ok54 (.con ok59 (.con ok48 (.con ok102 (.con ok171 (.con ok81 (.con ok88 (.con ok84 (.con ok85 (.con ok127 (.con ok101 (.con ok86 (.con ok71 (.con ok93 (.con ok92 (.con ok79 (.con ok136 (.con ok144 (.con ok125 (.con ok162 (.con ok146 (.inl Tryz.func83 (by kernel_rfl) (by kernel_rfl) (by kernel_rfl) (.nil)))))))))))))))))))))))))))))))))))))))))))))))))))))))))))))))))))))))))))))))
def m55 (n0 : Nat) (f0 : FnV) (x2 x3 x4 x5 x6 x7 x8 x9 : Int) (b10 : Bool) : RT Empty := .obc (.obt (.ret (V.bool (decide (0 <= F108 n0 (elV tp2 f0) x2 x3 x4 x5 x6 x7 x8 x9 b10)))))
theorem run55 (n0 : Nat) (f0 : FnV) (x2 x3 x4 x5 x6 x7 x8 x9 : Int) (b10 : Bool) : Fit noD (runL JJ ctB16d u0 s55 [V.sl n0 (elV tp2 f0), V.fn 56 [] [V.pd [vi x2, vi x3, vi x4, vi x5, vi x6, vi x7, vi x8, vi x9, V.bool b10]]]) (m55 n0 f0 x2 x3 x4 x5 x6 x7 x8 x9 b10) := ⟨by kernel_rfl, by kernel_rfl⟩
def F55_0 (n0 : Nat) (f0 : FnV) (x2 x3 x4 x5 x6 x7 x8 x9 : Int) (b10 : Bool) : Bool := decide (0 <= F108 n0 (elV tp2 f0) x2 x3 x4 x5 x6 x7 x8 x9 b10)
def R55 (n0 : Nat) (f0 : FnV) (x2 x3 x4 x5 x6 x7 x8 x9 : Int) (b10 : Bool) : V := .bool (F55_0 n0 f0 x2 x3 x4 x5 x6 x7 x8 x9 b10)
theorem ev55 (n0 : Nat) (f0 : FnV) (x2 x3 x4 x5 x6 x7 x8 x9 : Int) (b10 : Bool) : evR noE (m55 n0 f0 x2 x3 x4 x5 x6 x7 x8 x9 b10) (R55 n0 f0 x2 x3 x4 x5 x6 x7 x8 x9 b10) := evObc (evObt (evRet (by unfold R55 F55_0; rfl)))
def C55 : PCon := mkC [.sl tp2, .fn 56 [] [.pd [.int .i64, .int .i64, .int .i64, .int .i64, .int .i64, .int .i64, .int .i64, .int .i64, .bool]]] (fun _ => True) fun
  | [.sl n0 f0, .fn _ [] [.pd [.int _ x2, .int _ x3, .int _ x4, .int _ x5, .int _ x6, .int _ x7, .int _ x8, .int _ x9, .bool b10]]] => R55 n0 f0 x2 x3 x4 x5 x6 x7 x8 x9 b10
  | _ => .any
theorem ok55 : (vP C55).Ok Tryz.prog 55 := mkE tabB16d Tryz.func55 (by kernel_rfl) fun ds hp => rf0 (run55 ..) (ev55 _ _ _ _ _ _ _ _ _ _ _)
inductive S61 where
  | L0 (i_100 : Int) (n_101 : Nat) (i_102 : Int)
def inv61 (s0 : ByteArray) (x1 : Int) (n2 : Nat) (f2 : FnV) (x4 x5 x6 x7 x8 : Int) : S61 -> Env × List O × Option Ex
  | .L0 i_100 n_101 i_102 => ([(10, vi i_100), (9, vi (i64.wrap ((↑n2 : Int) - 1))), (8, vi (↑n2 : Int)), (7, V.sl n2 (elV tp2 f2)), (6, V.pl 3 2), (0, V.yl n_101), (1, V.pl 3 0)], [O.cells [V.str s0, vi x1, V.sl n2 (elV tp2 f2), vi x4] 54, O.cells [vi x5, vi x6, vi x7, vi x8] 29, O.cells [vi i_102] 3, O.cells [V.str s0, vi x1, V.sl n2 (elV tp2 f2), vi x4] 54], none)
def id61 : S61 -> JJ
  | .L0 i_100 n_101 i_102 => (0, [Cx.n n_101])
def rl61 (s0 : ByteArray) (x1 : Int) (n2 : Nat) (f2 : FnV) (x4 x5 x6 x7 x8 : Int) : T (Leaf JJ) := runL JJ ctB16d u0 s61 [V.agg [V.str s0, vi x1, V.sl n2 (elV tp2 f2), vi x4], V.agg [vi x5, vi x6, vi x7, vi x8]]
def lp61_0 (s0 : ByteArray) (x1 : Int) (n2 : Nat) (f2 : FnV) (x4 x5 x6 x7 x8 : Int) (cx : List Cx) : Lp JJ := lpT (atT (afT (atT (rl61 s0 x1 n2 f2 x4 x5 x6 x7 x8) []) (cxn cx 0)) [])
def lp61 (s0 : ByteArray) (x1 : Int) (n2 : Nat) (f2 : FnV) (x4 x5 x6 x7 x8 : Int) : JJ -> Lp JJ
  | (0, cx) => lp61_0 s0 x1 n2 f2 x4 x5 x6 x7 x8 cx
  | (_, cx) => lp61_0 s0 x1 n2 f2 x4 x5 x6 x7 x8 cx
def D61 (s0 : ByteArray) (x1 : Int) (n2 : Nat) (f2 : FnV) (x4 x5 x6 x7 x8 : Int) : LD JJ S61 := ⟨id61, lp61 s0 x1 n2 f2 x4 x5 x6 x7 x8, inv61 s0 x1 n2 f2 x4 x5 x6 x7 x8⟩
def st61 (s0 : ByteArray) (x1 : Int) (n2 : Nat) (f2 : FnV) (x4 x5 x6 x7 x8 : Int) : S61 -> RT S61
  | .L0 i_100 n_101 i_102 => .br (decide (i_100 < i64.wrap ((↑n2 : Int) - 1))) (.ob (decide (0 <= i_100 /\ i_100 < (↑n2 : Int))) (.ob (decide (0 <= i64.wrap (i_100 + 1) /\ i64.wrap (i_100 + 1) < (↑n2 : Int))) (.obt (.obt (.obt (.obt (.obc (.obt (.next [some (some 0), some (some 1), some (some 2), some (some 3)] (S61.L0 (i64.wrap (i_100 + 1)) (n_101) (max i_102 (F111_0 (i64.wrap (2 * iv (hdV (f2 i_100.toNat)))) (i64.wrap (2 * iv (hdV (tlV (f2 i_100.toNat))))) (i64.wrap (2 * iv (hdV (f2 (i64.wrap (i_100 + 1)).toNat)))) (i64.wrap (2 * iv (hdV (tlV (f2 (i64.wrap (i_100 + 1)).toNat))))) x4 x5 x6 x7 x8))) []))))))))) (.ret (vi i_102))
def m61 (s0 : ByteArray) (x1 : Int) (n2 : Nat) (f2 : FnV) (x4 x5 x6 x7 x8 : Int) : RT S61 := .all (fun l_6784 => .asm (true = true -> n2 <= 9223372036854775807) (.enter [some (some 0), some (some 1), some (some 2), some (some 3)] (S61.L0 (0) (l_6784) (0)) []))
theorem run61 (s0 : ByteArray) (x1 : Int) (n2 : Nat) (f2 : FnV) (x4 x5 x6 x7 x8 : Int) : Fits ctB16d u0 (D61 s0 x1 n2 f2 x4 x5 x6 x7 x8) (rl61 s0 x1 n2 f2 x4 x5 x6 x7 x8) (m61 s0 x1 n2 f2 x4 x5 x6 x7 x8) (st61 s0 x1 n2 f2 x4 x5 x6 x7 x8) := ⟨⟨by kernel_rfl, by kernel_rfl⟩, fun s => match s with | .L0 i_100 n_101 i_102 => ⟨by kernel_rfl, by kernel_rfl⟩⟩
def p61 (n2 : Nat) (f2 : FnV) (x4 x5 x6 x7 x8 : Int) (ii : Nat) : Int := F111_0 (i64.wrap (2 * iv (hdV (f2 ii)))) (i64.wrap (2 * iv (hdV (tlV (f2 ii))))) (i64.wrap (2 * iv (hdV (f2 (i64.wrap ((ii : Int) + 1)).toNat)))) (i64.wrap (2 * iv (hdV (tlV (f2 (i64.wrap ((ii : Int) + 1)).toNat))))) x4 x5 x6 x7 x8
def F61 (n2 : Nat) (f2 : FnV) (x4 x5 x6 x7 x8 : Int) : Int := maxTo (p61 n2 f2 x4 x5 x6 x7 x8) (n2 - 1)
theorem ev61_0 (s0 : ByteArray) (x1 : Int) (n2 : Nat) (f2 : FnV) (x4 x5 x6 x7 x8 : Int) : evR (Ev (st61 s0 x1 n2 f2 x4 x5 x6 x7 x8)) (m61 s0 x1 n2 f2 x4 x5 x6 x7 x8) (.int .i64 (F61 n2 f2 x4 x5 x6 x7 x8)) := evAll fun l => evAsm1 fun hn => evEnter (pieces_ev hn fun i a _ => rfl)
theorem ev61 (s0 : ByteArray) (x1 : Int) (n2 : Nat) (f2 : FnV) (x4 x5 x6 x7 x8 : Int) : evR (Ev (st61 s0 x1 n2 f2 x4 x5 x6 x7 x8)) (m61 s0 x1 n2 f2 x4 x5 x6 x7 x8) (.int .i64 (F61 n2 (elV tp2 f2) x4 x5 x6 x7 x8)) := ev61_0 s0 x1 n2 f2 x4 x5 x6 x7 x8
def C61 : PCon := mkC [.agg tyR, .agg tp4] (fun _ => True) fun
  | [.agg [.str s0, .int _ x1, .sl n2 f2, .int _ x4], .agg [.int _ x5, .int _ x6, .int _ x7, .int _ x8]] => .int .i64 (F61 n2 f2 x4 x5 x6 x7 x8)
  | _ => .any
theorem ok61 : (vP C61).Ok Tryz.prog 61 := mkE tabB16d Tryz.func61 (by kernel_rfl) fun ds hp => rfs (run61 ..) (ev61 _ _ _ _ _ _ _ _ _)
end
end Go.Dx
namespace Go.Dx
open Go.IntKind (i64 u64 u8)
open Go.Sx Go.Proofs
set_option maxRecDepth 100000
set_option linter.unusedVariables false
set_option linter.unusedSimpArgs false
noncomputable section
def ctB16e : CTab := (55, .con C55) :: (61, .con C61) :: ctB16d
theorem tabB16e : TabOk Tryz.prog eqs its ctB16e := .con ok55 (.con ok61 (tabB16d))
attribute [local irreducible] F44 F50_0 F91_0
def m22 (n0 : Nat) (f0 : FnV) (n2 : Nat) (f2 : FnV) (n4 : Nat) (f4 : FnV) (n6 : Nat) (f6 : FnV) (x8 x9 x10 x11 x12 : Int) : RT Empty := .asm (true = true -> n0 <= 9223372036854775807) (.obp (((∀ (i : Nat), i < n0 -> (sv (hdV (f0 i))).size <= (9223372036854775807 : Nat)) /\ ∀ (i : Nat), i < n6 -> (sv (hdV (f6 i))).size <= (9223372036854775807 : Nat)) /\ (0 : Nat) = (0 : Nat) /\ (2 : Nat) <= (100 : Nat)) (.obt (.br (F44 n0 (elV tyR f0) n2 (elV tyT f2) n4 (elV tyF f4) n6 (elV tyC f6) 2 (elV tp1 (secF [vi x8, vi (↑n0 : Int)] 0 ((1 + 1 - 0) / 2))) != 0) (.ret (V.tup [vi 0, vi (F44 n0 (elV tyR f0) n2 (elV tyT f2) n4 (elV tyF f4) n6 (elV tyC f6) 2 (elV tp1 (secF [vi x8, vi (↑n0 : Int)] 0 ((1 + 1 - 0) / 2))))])) (.obc (.obt (.br (F53_0 x9 x10 x11 x12) (.ret (V.tup [vi 0, vi 7])) (.ob (decide (0 <= x8 /\ x8 < (↑n0 : Int))) (.obc (.obt (.ret (V.tup [vi (F61 (lenV (hdV (tlV (tlV (f0 x8.toNat))))) (fun i => views tp2 (atV (hdV (tlV (tlV (f0 x8.toNat)))) i)) (iv (hdV (tlV (tlV (tlV (f0 x8.toNat)))))) x9 x10 x11 x12), vi 0])))))))))))
theorem run22 (n0 : Nat) (f0 : FnV) (n2 : Nat) (f2 : FnV) (n4 : Nat) (f4 : FnV) (n6 : Nat) (f6 : FnV) (x8 x9 x10 x11 x12 : Int) : Fit noD (runL JJ ctB16e u0 s22 [scV n0 f0 n2 f2 n4 f4 n6 f6, vi x8, V.agg [vi x9, vi x10, vi x11, vi x12]]) (m22 n0 f0 n2 f2 n4 f4 n6 f6 x8 x9 x10 x11 x12) := ⟨by kernel_rfl, by kernel_rfl⟩
def F22_0 (n0 : Nat) (f0 : FnV) (n2 : Nat) (f2 : FnV) (n4 : Nat) (f4 : FnV) (n6 : Nat) (f6 : FnV) (x8 x9 x10 x11 x12 : Int) : Int := bif F44 n0 (elV tyR f0) n2 (elV tyT f2) n4 (elV tyF f4) n6 (elV tyC f6) 2 (elV tp1 (secF [vi x8, vi (↑n0 : Int)] 0 ((1 + 1 - 0) / 2))) != 0 then 0 else bif F53_0 x9 x10 x11 x12 then 0 else F61 (lenV (hdV (tlV (tlV (f0 x8.toNat))))) (fun i => views tp2 (atV (hdV (tlV (tlV (f0 x8.toNat)))) i)) (iv (hdV (tlV (tlV (tlV (f0 x8.toNat)))))) x9 x10 x11 x12
def F22_1 (n0 : Nat) (f0 : FnV) (n2 : Nat) (f2 : FnV) (n4 : Nat) (f4 : FnV) (n6 : Nat) (f6 : FnV) (x8 x9 x10 x11 x12 : Int) : Int := bif F44 n0 (elV tyR f0) n2 (elV tyT f2) n4 (elV tyF f4) n6 (elV tyC f6) 2 (elV tp1 (secF [vi x8, vi (↑n0 : Int)] 0 ((1 + 1 - 0) / 2))) != 0 then F44 n0 (elV tyR f0) n2 (elV tyT f2) n4 (elV tyF f4) n6 (elV tyC f6) 2 (elV tp1 (secF [vi x8, vi (↑n0 : Int)] 0 ((1 + 1 - 0) / 2))) else bif F53_0 x9 x10 x11 x12 then 7 else 0
def R22 (n0 : Nat) (f0 : FnV) (n2 : Nat) (f2 : FnV) (n4 : Nat) (f4 : FnV) (n6 : Nat) (f6 : FnV) (x8 x9 x10 x11 x12 : Int) : V := .tup [.int i64 (F22_0 n0 f0 n2 f2 n4 f4 n6 f6 x8 x9 x10 x11 x12), .int i64 (F22_1 n0 f0 n2 f2 n4 f4 n6 f6 x8 x9 x10 x11 x12)]
theorem ev22 (n0 : Nat) (f0 : FnV) (n2 : Nat) (f2 : FnV) (n4 : Nat) (f4 : FnV) (n6 : Nat) (f6 : FnV) (x8 x9 x10 x11 x12 : Int) (hp : SzOk n0 f0 /\ SzOk n6 f6) : evR noE (m22 n0 f0 n2 f2 n4 f4 n6 f6 x8 x9 x10 x11 x12) (R22 n0 f0 n2 f2 n4 f4 n6 f6 x8 x9 x10 x11 x12) := evAsm (fun a0 => evObp (by first | assumption | ((first | exact ⟨hp, rfl, by decide⟩ | (simp_all [cond_eq_ite] <;> first | omega | exact (k44_4 (by assumption) (by assumption) h0).1 | exact (k44_4 (by assumption) (by assumption) h0).2 | exact k44_2 (by assumption) h0 | exact k44_2 (by assumption) h1 | exact k50 h0 | exact k50 h1 | exact k50 hc.1 | exact k44_2 (by assumption) hc)))) (evObt (evBr (fun h0 => evRet (by unfold R22 F22_0 F22_1; try rw [h0]; rfl)) (fun h0 => evObc (evObt (evBr (fun h1 => evRet (by unfold R22 F22_0 F22_1; try rw [h0]; try rw [h1]; rfl)) (fun h1 => evOb (by first | assumption | ((simp_all [cond_eq_ite] <;> first | omega | exact (k44_4 (by assumption) (by assumption) h0).1 | exact (k44_4 (by assumption) (by assumption) h0).2 | exact k44_2 (by assumption) h0 | exact k44_2 (by assumption) h1 | exact k50 h0 | exact k50 h1 | exact k50 hc.1 | exact k44_2 (by assumption) hc))) (evObc (evObt (evRet (by unfold R22 F22_0 F22_1; try rw [h0]; try rw [h1]; rfl)))))))))))
def C22 : PCon := mkC [.agg [.sl tyR, .sl tyT, .sl tyF, .sl tyC], .int .i64, .agg tp4] (fun
  | [.agg [.sl n0 f0, .sl n2 f2, .sl n4 f4, .sl n6 f6], .int _ x8, .agg [.int _ x9, .int _ x10, .int _ x11, .int _ x12]] => SzOk n0 f0 /\ SzOk n6 f6
  | _ => False) fun
  | [.agg [.sl n0 f0, .sl n2 f2, .sl n4 f4, .sl n6 f6], .int _ x8, .agg [.int _ x9, .int _ x10, .int _ x11, .int _ x12]] => R22 n0 f0 n2 f2 n4 f4 n6 f6 x8 x9 x10 x11 x12
  | _ => .any
theorem ok22 : (vP C22).Ok Tryz.prog 22 := mkE tabB16e Tryz.func22 (by kernel_rfl) fun ds hp => rf0 (run22 ..) (ev22 _ _ _ _ _ _ _ _ _ _ _ _ _ hp)
def m15 (n0 : Nat) (f0 : FnV) (n2 : Nat) (f2 : FnV) (n4 : Nat) (f4 : FnV) (n6 : Nat) (f6 : FnV) (x8 x9 x10 : Int) : RT Empty := .asm (true = true -> n6 <= 9223372036854775807) (.obp (((∀ (i : Nat), i < n0 -> (sv (hdV (f0 i))).size <= (9223372036854775807 : Nat)) /\ ∀ (i : Nat), i < n6 -> (sv (hdV (f6 i))).size <= (9223372036854775807 : Nat)) /\ (0 : Nat) = (0 : Nat) /\ (2 : Nat) <= (100 : Nat)) (.obt (.br (F44 n0 (elV tyR f0) n2 (elV tyT f2) n4 (elV tyF f4) n6 (elV tyC f6) 2 (elV tp1 (secF [vi x8, vi (↑n6 : Int)] 0 ((1 + 1 - 0) / 2))) != 0) (.ret (V.tup [vi 0, vi (F44 n0 (elV tyR f0) n2 (elV tyT f2) n4 (elV tyF f4) n6 (elV tyC f6) 2 (elV tp1 (secF [vi x8, vi (↑n6 : Int)] 0 ((1 + 1 - 0) / 2))))])) (.obc (.obt (.br (F45_0 2 (elV tp1 (secF [vi x9, vi x10] 0 ((1 + 1 - 0) / 2)))) (.ret (V.tup [vi 0, vi 7])) (.obp ((0 : Int) <= x8 /\ x8 < (↑n6 : Int)) (.obt (.ret (V.tup [vi (F46 n2 (elV tyT f2) (elV tyC f6) x8 x9 x10), vi 0]))))))))))
theorem run15 (n0 : Nat) (f0 : FnV) (n2 : Nat) (f2 : FnV) (n4 : Nat) (f4 : FnV) (n6 : Nat) (f6 : FnV) (x8 x9 x10 : Int) : Fit noD (runL JJ ctB16e u0 s15 [scV n0 f0 n2 f2 n4 f4 n6 f6, vi x8, vi x9, vi x10]) (m15 n0 f0 n2 f2 n4 f4 n6 f6 x8 x9 x10) := ⟨by kernel_rfl, by kernel_rfl⟩
def F15_0 (n0 : Nat) (f0 : FnV) (n2 : Nat) (f2 : FnV) (n4 : Nat) (f4 : FnV) (n6 : Nat) (f6 : FnV) (x8 x9 x10 : Int) : Int := bif F44 n0 (elV tyR f0) n2 (elV tyT f2) n4 (elV tyF f4) n6 (elV tyC f6) 2 (elV tp1 (secF [vi x8, vi (↑n6 : Int)] 0 ((1 + 1 - 0) / 2))) != 0 then 0 else bif F45_0 2 (elV tp1 (secF [vi x9, vi x10] 0 ((1 + 1 - 0) / 2))) then 0 else F46 n2 (elV tyT f2) (elV tyC f6) x8 x9 x10
def F15_1 (n0 : Nat) (f0 : FnV) (n2 : Nat) (f2 : FnV) (n4 : Nat) (f4 : FnV) (n6 : Nat) (f6 : FnV) (x8 x9 x10 : Int) : Int := bif F44 n0 (elV tyR f0) n2 (elV tyT f2) n4 (elV tyF f4) n6 (elV tyC f6) 2 (elV tp1 (secF [vi x8, vi (↑n6 : Int)] 0 ((1 + 1 - 0) / 2))) != 0 then F44 n0 (elV tyR f0) n2 (elV tyT f2) n4 (elV tyF f4) n6 (elV tyC f6) 2 (elV tp1 (secF [vi x8, vi (↑n6 : Int)] 0 ((1 + 1 - 0) / 2))) else bif F45_0 2 (elV tp1 (secF [vi x9, vi x10] 0 ((1 + 1 - 0) / 2))) then 7 else 0
def R15 (n0 : Nat) (f0 : FnV) (n2 : Nat) (f2 : FnV) (n4 : Nat) (f4 : FnV) (n6 : Nat) (f6 : FnV) (x8 x9 x10 : Int) : V := .tup [.int i64 (F15_0 n0 f0 n2 f2 n4 f4 n6 f6 x8 x9 x10), .int i64 (F15_1 n0 f0 n2 f2 n4 f4 n6 f6 x8 x9 x10)]
theorem ev15 (n0 : Nat) (f0 : FnV) (n2 : Nat) (f2 : FnV) (n4 : Nat) (f4 : FnV) (n6 : Nat) (f6 : FnV) (x8 x9 x10 : Int) (hp : SzOk n0 f0 /\ SzOk n6 f6) : evR noE (m15 n0 f0 n2 f2 n4 f4 n6 f6 x8 x9 x10) (R15 n0 f0 n2 f2 n4 f4 n6 f6 x8 x9 x10) := evAsm (fun a0 => evObp (by first | assumption | ((first | exact ⟨hp, rfl, by decide⟩ | (simp_all [cond_eq_ite] <;> first | omega | exact (k44_4 (by assumption) (by assumption) h0).1 | exact (k44_4 (by assumption) (by assumption) h0).2 | exact k44_2 (by assumption) h0 | exact k44_2 (by assumption) h1 | exact k50 h0 | exact k50 h1 | exact k50 hc.1 | exact k44_2 (by assumption) hc)))) (evObt (evBr (fun h0 => evRet (by unfold R15 F15_0 F15_1; try rw [h0]; rfl)) (fun h0 => evObc (evObt (evBr (fun h1 => evRet (by unfold R15 F15_0 F15_1; try rw [h0]; try rw [h1]; rfl)) (fun h1 => evObp (by first | assumption | ((first | exact ⟨hp, rfl, by decide⟩ | (simp_all [cond_eq_ite] <;> first | omega | exact (k44_4 (by assumption) (by assumption) h0).1 | exact (k44_4 (by assumption) (by assumption) h0).2 | exact k44_2 (by assumption) h0 | exact k44_2 (by assumption) h1 | exact k50 h0 | exact k50 h1 | exact k50 hc.1 | exact k44_2 (by assumption) hc)))) (evObt (evRet (by unfold R15 F15_0 F15_1; try rw [h0]; try rw [h1]; rfl))))))))))
def C15 : PCon := mkC [.agg [.sl tyR, .sl tyT, .sl tyF, .sl tyC], .int .i64, .int .i64, .int .i64] (fun
  | [.agg [.sl n0 f0, .sl n2 f2, .sl n4 f4, .sl n6 f6], .int _ x8, .int _ x9, .int _ x10] => SzOk n0 f0 /\ SzOk n6 f6
  | _ => False) fun
  | [.agg [.sl n0 f0, .sl n2 f2, .sl n4 f4, .sl n6 f6], .int _ x8, .int _ x9, .int _ x10] => R15 n0 f0 n2 f2 n4 f4 n6 f6 x8 x9 x10
  | _ => .any
theorem ok15 : (vP C15).Ok Tryz.prog 15 := mkE tabB16e Tryz.func15 (by kernel_rfl) fun ds hp => rf0 (run15 ..) (ev15 _ _ _ _ _ _ _ _ _ _ _ hp)
end
end Go.Dx
namespace Go.Dx
open Go.IntKind (i64 u64 u8)
open Go.Sx Go.Proofs
set_option maxRecDepth 100000
set_option linter.unusedVariables false
set_option linter.unusedSimpArgs false
noncomputable section
def ctB20 : CTab := (22, .con C22) :: (15, .con C15) :: ctB16e
theorem tabB20 : TabOk Tryz.prog eqs its ctB20 := .con ok22 (.con ok15 (tabB16e))
def m151 (x0 x1 x2 x3 x4 x5 x6 x7 : Int) : RT Empty := .obc (.obt (.obc (.obt (.obc (.obt (.obc (.obt (.obc (.obt (.obc (.obt (.obc (.obt (.obc (.obt (.obc (.obt (.obc (.obt (.obc (.obt (.obc (.obt (.obc (.obt (.obc (.obt (.obc (.obt (.obc (.obt (.obi (.obi (.obi (.obi (.br (bif decide (i64.wrap (F144_0 (F79_0 (F93_0 x2 x0) (F93_1 x3 x1) (F93_0 x4 x0) (F93_1 x5 x1)) * F144_0 (F79_0 (F93_0 x2 x0) (F93_1 x3 x1) (F93_0 x6 x0) (F93_1 x7 x1))) < 0) then decide (i64.wrap (F144_0 (F79_0 (F93_0 x6 x4) (F93_1 x7 x5) (F93_0 x0 x4) (F93_1 x1 x5)) * F144_0 (F79_0 (F93_0 x6 x4) (F93_1 x7 x5) (F93_0 x2 x4) (F93_1 x3 x5))) < 0) else false) (.ret (V.kb true)) (.br (F144_0 (F79_0 (F93_0 x2 x0) (F93_1 x3 x1) (F93_0 x4 x0) (F93_1 x5 x1)) == 0) (.ob (F144_0 (F79_0 (F93_0 x2 x0) (F93_1 x3 x1) (F93_0 x4 x0) (F93_1 x5 x1)) == 0) (.ob (F144_0 (F79_0 (F93_0 x2 x0) (F93_1 x3 x1) (F93_0 x4 x0) (F93_1 x5 x1)) == 0) (.ob (F144_0 (F79_0 (F93_0 x2 x0) (F93_1 x3 x1) (F93_0 x4 x0) (F93_1 x5 x1)) == 0) (.obc (.obt (.obi (.obi (.br (!F171_0 x4 x5 x0 x1 x2 x3 && F144_0 (F79_0 (F93_0 x2 x0) (F93_1 x3 x1) (F93_0 x6 x0) (F93_1 x7 x1)) == 0) (.ob (!F171_0 x4 x5 x0 x1 x2 x3 && F144_0 (F79_0 (F93_0 x2 x0) (F93_1 x3 x1) (F93_0 x6 x0) (F93_1 x7 x1)) == 0) (.ob (!F171_0 x4 x5 x0 x1 x2 x3 && F144_0 (F79_0 (F93_0 x2 x0) (F93_1 x3 x1) (F93_0 x6 x0) (F93_1 x7 x1)) == 0) (.ob (!F171_0 x4 x5 x0 x1 x2 x3 && F144_0 (F79_0 (F93_0 x2 x0) (F93_1 x3 x1) (F93_0 x6 x0) (F93_1 x7 x1)) == 0) (.obc (.obt (.obi (.obi (.obi (.br ((!bif F171_0 x4 x5 x0 x1 x2 x3 then true else F171_0 x6 x7 x0 x1 x2 x3) && F144_0 (F79_0 (F93_0 x6 x4) (F93_1 x7 x5) (F93_0 x0 x4) (F93_1 x1 x5)) == 0) (.ob ((!bif F171_0 x4 x5 x0 x1 x2 x3 then true else F171_0 x6 x7 x0 x1 x2 x3) && F144_0 (F79_0 (F93_0 x6 x4) (F93_1 x7 x5) (F93_0 x0 x4) (F93_1 x1 x5)) == 0) (.ob ((!bif F171_0 x4 x5 x0 x1 x2 x3 then true else F171_0 x6 x7 x0 x1 x2 x3) && F144_0 (F79_0 (F93_0 x6 x4) (F93_1 x7 x5) (F93_0 x0 x4) (F93_1 x1 x5)) == 0) (.ob ((!bif F171_0 x4 x5 x0 x1 x2 x3 then true else F171_0 x6 x7 x0 x1 x2 x3) && F144_0 (F79_0 (F93_0 x6 x4) (F93_1 x7 x5) (F93_0 x0 x4) (F93_1 x1 x5)) == 0) (.obc (.obt (.obi (.obi (.obi (.br ((!bif bif F171_0 x4 x5 x0 x1 x2 x3 then true else F171_0 x6 x7 x0 x1 x2 x3 then true else F171_0 x0 x1 x4 x5 x6 x7) && F144_0 (F79_0 (F93_0 x6 x4) (F93_1 x7 x5) (F93_0 x2 x4) (F93_1 x3 x5)) == 0) (.ob ((!bif bif F171_0 x4 x5 x0 x1 x2 x3 then true else F171_0 x6 x7 x0 x1 x2 x3 then true else F171_0 x0 x1 x4 x5 x6 x7) && F144_0 (F79_0 (F93_0 x6 x4) (F93_1 x7 x5) (F93_0 x2 x4) (F93_1 x3 x5)) == 0) (.ob ((!bif bif F171_0 x4 x5 x0 x1 x2 x3 then true else F171_0 x6 x7 x0 x1 x2 x3 then true else F171_0 x0 x1 x4 x5 x6 x7) && F144_0 (F79_0 (F93_0 x6 x4) (F93_1 x7 x5) (F93_0 x2 x4) (F93_1 x3 x5)) == 0) (.ob ((!bif bif F171_0 x4 x5 x0 x1 x2 x3 then true else F171_0 x6 x7 x0 x1 x2 x3 then true else F171_0 x0 x1 x4 x5 x6 x7) && F144_0 (F79_0 (F93_0 x6 x4) (F93_1 x7 x5) (F93_0 x2 x4) (F93_1 x3 x5)) == 0) (.obc (.obt (.obi (.ret (V.bool (bif bif bif F171_0 x4 x5 x0 x1 x2 x3 then true else F171_0 x6 x7 x0 x1 x2 x3 then true else F171_0 x0 x1 x4 x5 x6 x7 then true else F171_0 x2 x3 x4 x5 x6 x7))))))))) (.obi (.br (F144_0 (F79_0 (F93_0 x6 x4) (F93_1 x7 x5) (F93_0 x2 x4) (F93_1 x3 x5)) == 0) (.obi (.br (bif bif F171_0 x4 x5 x0 x1 x2 x3 then true else F171_0 x6 x7 x0 x1 x2 x3 then true else F171_0 x0 x1 x4 x5 x6 x7) (.ret (V.kb true)) (.ret (V.tup [])))) (.obi (.ret (V.bool (bif bif bif F171_0 x4 x5 x0 x1 x2 x3 then true else F171_0 x6 x7 x0 x1 x2 x3 then true else F171_0 x0 x1 x4 x5 x6 x7 then true else false))))))))))))))) (.obi (.br (F144_0 (F79_0 (F93_0 x6 x4) (F93_1 x7 x5) (F93_0 x0 x4) (F93_1 x1 x5)) == 0) (.obi (.br (bif F171_0 x4 x5 x0 x1 x2 x3 then true else F171_0 x6 x7 x0 x1 x2 x3) (.ret (V.kb true)) (.fail))) (.obi (.obi (.obi (.br ((!bif bif F171_0 x4 x5 x0 x1 x2 x3 then true else F171_0 x6 x7 x0 x1 x2 x3 then true else false) && F144_0 (F79_0 (F93_0 x6 x4) (F93_1 x7 x5) (F93_0 x2 x4) (F93_1 x3 x5)) == 0) (.ob ((!bif bif F171_0 x4 x5 x0 x1 x2 x3 then true else F171_0 x6 x7 x0 x1 x2 x3 then true else false) && F144_0 (F79_0 (F93_0 x6 x4) (F93_1 x7 x5) (F93_0 x2 x4) (F93_1 x3 x5)) == 0) (.ob ((!bif bif F171_0 x4 x5 x0 x1 x2 x3 then true else F171_0 x6 x7 x0 x1 x2 x3 then true else false) && F144_0 (F79_0 (F93_0 x6 x4) (F93_1 x7 x5) (F93_0 x2 x4) (F93_1 x3 x5)) == 0) (.ob ((!bif bif F171_0 x4 x5 x0 x1 x2 x3 then true else F171_0 x6 x7 x0 x1 x2 x3 then true else false) && F144_0 (F79_0 (F93_0 x6 x4) (F93_1 x7 x5) (F93_0 x2 x4) (F93_1 x3 x5)) == 0) (.obc (.obt (.obi (.ret (V.bool (bif bif bif F171_0 x4 x5 x0 x1 x2 x3 then true else F171_0 x6 x7 x0 x1 x2 x3 then true else false then true else F171_0 x2 x3 x4 x5 x6 x7))))))))) (.obi (.br (F144_0 (F79_0 (F93_0 x6 x4) (F93_1 x7 x5) (F93_0 x2 x4) (F93_1 x3 x5)) == 0) (.obi (.br (bif bif F171_0 x4 x5 x0 x1 x2 x3 then true else F171_0 x6 x7 x0 x1 x2 x3 then true else false) (.ret (V.kb true)) (.ret (V.tup [])))) (.obi (.ret (V.bool (bif bif bif F171_0 x4 x5 x0 x1 x2 x3 then true else F171_0 x6 x7 x0 x1 x2 x3 then true else false then true else false))))))))))))))))))))) (.obi (.br (F144_0 (F79_0 (F93_0 x2 x0) (F93_1 x3 x1) (F93_0 x6 x0) (F93_1 x7 x1)) == 0) (.obi (.br (F171_0 x4 x5 x0 x1 x2 x3) (.ret (V.kb true)) (.fail))) (.obi (.obi (.obi (.br ((!bif F171_0 x4 x5 x0 x1 x2 x3 then true else false) && F144_0 (F79_0 (F93_0 x6 x4) (F93_1 x7 x5) (F93_0 x0 x4) (F93_1 x1 x5)) == 0) (.ob ((!bif F171_0 x4 x5 x0 x1 x2 x3 then true else false) && F144_0 (F79_0 (F93_0 x6 x4) (F93_1 x7 x5) (F93_0 x0 x4) (F93_1 x1 x5)) == 0) (.ob ((!bif F171_0 x4 x5 x0 x1 x2 x3 then true else false) && F144_0 (F79_0 (F93_0 x6 x4) (F93_1 x7 x5) (F93_0 x0 x4) (F93_1 x1 x5)) == 0) (.ob ((!bif F171_0 x4 x5 x0 x1 x2 x3 then true else false) && F144_0 (F79_0 (F93_0 x6 x4) (F93_1 x7 x5) (F93_0 x0 x4) (F93_1 x1 x5)) == 0) (.obc (.obt (.obi (.obi (.obi (.br ((!bif bif F171_0 x4 x5 x0 x1 x2 x3 then true else false then true else F171_0 x0 x1 x4 x5 x6 x7) && F144_0 (F79_0 (F93_0 x6 x4) (F93_1 x7 x5) (F93_0 x2 x4) (F93_1 x3 x5)) == 0) (.ob ((!bif bif F171_0 x4 x5 x0 x1 x2 x3 then true else false then true else F171_0 x0 x1 x4 x5 x6 x7) && F144_0 (F79_0 (F93_0 x6 x4) (F93_1 x7 x5) (F93_0 x2 x4) (F93_1 x3 x5)) == 0) (.ob ((!bif bif F171_0 x4 x5 x0 x1 x2 x3 then true else false then true else F171_0 x0 x1 x4 x5 x6 x7) && F144_0 (F79_0 (F93_0 x6 x4) (F93_1 x7 x5) (F93_0 x2 x4) (F93_1 x3 x5)) == 0) (.ob ((!bif bif F171_0 x4 x5 x0 x1 x2 x3 then true else false then true else F171_0 x0 x1 x4 x5 x6 x7) && F144_0 (F79_0 (F93_0 x6 x4) (F93_1 x7 x5) (F93_0 x2 x4) (F93_1 x3 x5)) == 0) (.obc (.obt (.obi (.ret (V.bool (bif bif bif F171_0 x4 x5 x0 x1 x2 x3 then true else false then true else F171_0 x0 x1 x4 x5 x6 x7 then true else F171_0 x2 x3 x4 x5 x6 x7))))))))) (.obi (.br (F144_0 (F79_0 (F93_0 x6 x4) (F93_1 x7 x5) (F93_0 x2 x4) (F93_1 x3 x5)) == 0) (.obi (.br (bif bif F171_0 x4 x5 x0 x1 x2 x3 then true else false then true else F171_0 x0 x1 x4 x5 x6 x7) (.ret (V.kb true)) (.ret (V.tup [])))) (.obi (.ret (V.bool (bif bif bif F171_0 x4 x5 x0 x1 x2 x3 then true else false then true else F171_0 x0 x1 x4 x5 x6 x7 then true else false))))))))))))))) (.obi (.br (F144_0 (F79_0 (F93_0 x6 x4) (F93_1 x7 x5) (F93_0 x0 x4) (F93_1 x1 x5)) == 0) (.obi (.br (bif F171_0 x4 x5 x0 x1 x2 x3 then true else false) (.ret (V.kb true)) (.fail))) (.obi (.obi (.obi (.br ((!bif bif F171_0 x4 x5 x0 x1 x2 x3 then true else false then true else false) && F144_0 (F79_0 (F93_0 x6 x4) (F93_1 x7 x5) (F93_0 x2 x4) (F93_1 x3 x5)) == 0) (.ob ((!bif bif F171_0 x4 x5 x0 x1 x2 x3 then true else false then true else false) && F144_0 (F79_0 (F93_0 x6 x4) (F93_1 x7 x5) (F93_0 x2 x4) (F93_1 x3 x5)) == 0) (.ob ((!bif bif F171_0 x4 x5 x0 x1 x2 x3 then true else false then true else false) && F144_0 (F79_0 (F93_0 x6 x4) (F93_1 x7 x5) (F93_0 x2 x4) (F93_1 x3 x5)) == 0) (.ob ((!bif bif F171_0 x4 x5 x0 x1 x2 x3 then true else false then true else false) && F144_0 (F79_0 (F93_0 x6 x4) (F93_1 x7 x5) (F93_0 x2 x4) (F93_1 x3 x5)) == 0) (.obc (.obt (.obi (.ret (V.bool (bif bif bif F171_0 x4 x5 x0 x1 x2 x3 then true else false then true else false then true else F171_0 x2 x3 x4 x5 x6 x7))))))))) (.obi (.br (F144_0 (F79_0 (F93_0 x6 x4) (F93_1 x7 x5) (F93_0 x2 x4) (F93_1 x3 x5)) == 0) (.obi (.br (bif bif F171_0 x4 x5 x0 x1 x2 x3 then true else false then true else false) (.ret (V.kb true)) (.ret (V.tup [])))) (.obi (.ret (V.bool (bif bif bif F171_0 x4 x5 x0 x1 x2 x3 then true else false then true else false then true else false)))))))))))))))))))))))))) (.br (F144_0 (F79_0 (F93_0 x2 x0) (F93_1 x3 x1) (F93_0 x6 x0) (F93_1 x7 x1)) == 0) (.ob (F144_0 (F79_0 (F93_0 x2 x0) (F93_1 x3 x1) (F93_0 x6 x0) (F93_1 x7 x1)) == 0) (.ob (F144_0 (F79_0 (F93_0 x2 x0) (F93_1 x3 x1) (F93_0 x6 x0) (F93_1 x7 x1)) == 0) (.ob (F144_0 (F79_0 (F93_0 x2 x0) (F93_1 x3 x1) (F93_0 x6 x0) (F93_1 x7 x1)) == 0) (.obc (.obt (.obi (.obi (.br (!F171_0 x6 x7 x0 x1 x2 x3 && F144_0 (F79_0 (F93_0 x6 x4) (F93_1 x7 x5) (F93_0 x0 x4) (F93_1 x1 x5)) == 0) (.ob (!F171_0 x6 x7 x0 x1 x2 x3 && F144_0 (F79_0 (F93_0 x6 x4) (F93_1 x7 x5) (F93_0 x0 x4) (F93_1 x1 x5)) == 0) (.ob (!F171_0 x6 x7 x0 x1 x2 x3 && F144_0 (F79_0 (F93_0 x6 x4) (F93_1 x7 x5) (F93_0 x0 x4) (F93_1 x1 x5)) == 0) (.ob (!F171_0 x6 x7 x0 x1 x2 x3 && F144_0 (F79_0 (F93_0 x6 x4) (F93_1 x7 x5) (F93_0 x0 x4) (F93_1 x1 x5)) == 0) (.obc (.obt (.obi (.obi (.obi (.br ((!bif F171_0 x6 x7 x0 x1 x2 x3 then true else F171_0 x0 x1 x4 x5 x6 x7) && F144_0 (F79_0 (F93_0 x6 x4) (F93_1 x7 x5) (F93_0 x2 x4) (F93_1 x3 x5)) == 0) (.ob ((!bif F171_0 x6 x7 x0 x1 x2 x3 then true else F171_0 x0 x1 x4 x5 x6 x7) && F144_0 (F79_0 (F93_0 x6 x4) (F93_1 x7 x5) (F93_0 x2 x4) (F93_1 x3 x5)) == 0) (.ob ((!bif F171_0 x6 x7 x0 x1 x2 x3 then true else F171_0 x0 x1 x4 x5 x6 x7) && F144_0 (F79_0 (F93_0 x6 x4) (F93_1 x7 x5) (F93_0 x2 x4) (F93_1 x3 x5)) == 0) (.ob ((!bif F171_0 x6 x7 x0 x1 x2 x3 then true else F171_0 x0 x1 x4 x5 x6 x7) && F144_0 (F79_0 (F93_0 x6 x4) (F93_1 x7 x5) (F93_0 x2 x4) (F93_1 x3 x5)) == 0) (.obc (.obt (.obi (.ret (V.bool (bif bif F171_0 x6 x7 x0 x1 x2 x3 then true else F171_0 x0 x1 x4 x5 x6 x7 then true else F171_0 x2 x3 x4 x5 x6 x7))))))))) (.obi (.br (F144_0 (F79_0 (F93_0 x6 x4) (F93_1 x7 x5) (F93_0 x2 x4) (F93_1 x3 x5)) == 0) (.obi (.br (bif F171_0 x6 x7 x0 x1 x2 x3 then true else F171_0 x0 x1 x4 x5 x6 x7) (.ret (V.kb true)) (.ret (V.tup [])))) (.obi (.ret (V.bool (bif bif F171_0 x6 x7 x0 x1 x2 x3 then true else F171_0 x0 x1 x4 x5 x6 x7 then true else false))))))))))))))) (.obi (.br (F144_0 (F79_0 (F93_0 x6 x4) (F93_1 x7 x5) (F93_0 x0 x4) (F93_1 x1 x5)) == 0) (.obi (.br (F171_0 x6 x7 x0 x1 x2 x3) (.ret (V.kb true)) (.fail))) (.obi (.obi (.obi (.br ((!bif F171_0 x6 x7 x0 x1 x2 x3 then true else false) && F144_0 (F79_0 (F93_0 x6 x4) (F93_1 x7 x5) (F93_0 x2 x4) (F93_1 x3 x5)) == 0) (.ob ((!bif F171_0 x6 x7 x0 x1 x2 x3 then true else false) && F144_0 (F79_0 (F93_0 x6 x4) (F93_1 x7 x5) (F93_0 x2 x4) (F93_1 x3 x5)) == 0) (.ob ((!bif F171_0 x6 x7 x0 x1 x2 x3 then true else false) && F144_0 (F79_0 (F93_0 x6 x4) (F93_1 x7 x5) (F93_0 x2 x4) (F93_1 x3 x5)) == 0) (.ob ((!bif F171_0 x6 x7 x0 x1 x2 x3 then true else false) && F144_0 (F79_0 (F93_0 x6 x4) (F93_1 x7 x5) (F93_0 x2 x4) (F93_1 x3 x5)) == 0) (.obc (.obt (.obi (.ret (V.bool (bif bif F171_0 x6 x7 x0 x1 x2 x3 then true else false then true else F171_0 x2 x3 x4 x5 x6 x7))))))))) (.obi (.br (F144_0 (F79_0 (F93_0 x6 x4) (F93_1 x7 x5) (F93_0 x2 x4) (F93_1 x3 x5)) == 0) (.obi (.br (bif F171_0 x6 x7 x0 x1 x2 x3 then true else false) (.ret (V.kb true)) (.ret (V.tup [])))) (.obi (.ret (V.bool (bif bif F171_0 x6 x7 x0 x1 x2 x3 then true else false then true else false)))))))))))))))))))) (.br (F144_0 (F79_0 (F93_0 x6 x4) (F93_1 x7 x5) (F93_0 x0 x4) (F93_1 x1 x5)) == 0) (.ob (F144_0 (F79_0 (F93_0 x6 x4) (F93_1 x7 x5) (F93_0 x0 x4) (F93_1 x1 x5)) == 0) (.ob (F144_0 (F79_0 (F93_0 x6 x4) (F93_1 x7 x5) (F93_0 x0 x4) (F93_1 x1 x5)) == 0) (.ob (F144_0 (F79_0 (F93_0 x6 x4) (F93_1 x7 x5) (F93_0 x0 x4) (F93_1 x1 x5)) == 0) (.obc (.obt (.obi (.obi (.br (!F171_0 x0 x1 x4 x5 x6 x7 && F144_0 (F79_0 (F93_0 x6 x4) (F93_1 x7 x5) (F93_0 x2 x4) (F93_1 x3 x5)) == 0) (.ob (!F171_0 x0 x1 x4 x5 x6 x7 && F144_0 (F79_0 (F93_0 x6 x4) (F93_1 x7 x5) (F93_0 x2 x4) (F93_1 x3 x5)) == 0) (.ob (!F171_0 x0 x1 x4 x5 x6 x7 && F144_0 (F79_0 (F93_0 x6 x4) (F93_1 x7 x5) (F93_0 x2 x4) (F93_1 x3 x5)) == 0) (.ob (!F171_0 x0 x1 x4 x5 x6 x7 && F144_0 (F79_0 (F93_0 x6 x4) (F93_1 x7 x5) (F93_0 x2 x4) (F93_1 x3 x5)) == 0) (.obc (.obt (.obi (.ret (V.bool (bif F171_0 x0 x1 x4 x5 x6 x7 then true else F171_0 x2 x3 x4 x5 x6 x7))))))))) (.obi (.br (F144_0 (F79_0 (F93_0 x6 x4) (F93_1 x7 x5) (F93_0 x2 x4) (F93_1 x3 x5)) == 0) (.obi (.br (F171_0 x0 x1 x4 x5 x6 x7) (.ret (V.kb true)) (.ret (V.tup [])))) (.obi (.ret (V.bool (bif F171_0 x0 x1 x4 x5 x6 x7 then true else false)))))))))))))) (.br (F144_0 (F79_0 (F93_0 x6 x4) (F93_1 x7 x5) (F93_0 x2 x4) (F93_1 x3 x5)) == 0) (.ob (F144_0 (F79_0 (F93_0 x6 x4) (F93_1 x7 x5) (F93_0 x2 x4) (F93_1 x3 x5)) == 0) (.ob (F144_0 (F79_0 (F93_0 x6 x4) (F93_1 x7 x5) (F93_0 x2 x4) (F93_1 x3 x5)) == 0) (.ob (F144_0 (F79_0 (F93_0 x6 x4) (F93_1 x7 x5) (F93_0 x2 x4) (F93_1 x3 x5)) == 0) (.obc (.obt (.ret (V.bool (F171_0 x2 x3 x4 x5 x6 x7)))))))) (.ret (V.kb false))))))))))))))))))))))))))))))))))))))))))
theorem run151 (x0 x1 x2 x3 x4 x5 x6 x7 : Int) : Fit noD (runL JJ ctB20 u0 s151 [V.agg [vi x0, vi x1], V.agg [vi x2, vi x3], V.agg [vi x4, vi x5], V.agg [vi x6, vi x7]]) (m151 x0 x1 x2 x3 x4 x5 x6 x7) := ⟨by kernel_rfl, by kernel_rfl⟩
def F151 (x0 x1 x2 x3 x4 x5 x6 x7 : Int) : Bool := (bif decide (i64.wrap (F144_0 (F79_0 (F93_0 x2 x0) (F93_1 x3 x1) (F93_0 x4 x0) (F93_1 x5 x1)) * F144_0 (F79_0 (F93_0 x2 x0) (F93_1 x3 x1) (F93_0 x6 x0) (F93_1 x7 x1))) < 0) then decide (i64.wrap (F144_0 (F79_0 (F93_0 x6 x4) (F93_1 x7 x5) (F93_0 x0 x4) (F93_1 x1 x5)) * F144_0 (F79_0 (F93_0 x6 x4) (F93_1 x7 x5) (F93_0 x2 x4) (F93_1 x3 x5))) < 0) else false) || ((F144_0 (F79_0 (F93_0 x2 x0) (F93_1 x3 x1) (F93_0 x4 x0) (F93_1 x5 x1)) == 0 && F171_0 x4 x5 x0 x1 x2 x3) || (F144_0 (F79_0 (F93_0 x2 x0) (F93_1 x3 x1) (F93_0 x6 x0) (F93_1 x7 x1)) == 0 && F171_0 x6 x7 x0 x1 x2 x3) || (F144_0 (F79_0 (F93_0 x6 x4) (F93_1 x7 x5) (F93_0 x0 x4) (F93_1 x1 x5)) == 0 && F171_0 x0 x1 x4 x5 x6 x7) || (F144_0 (F79_0 (F93_0 x6 x4) (F93_1 x7 x5) (F93_0 x2 x4) (F93_1 x3 x5)) == 0 && F171_0 x2 x3 x4 x5 x6 x7))
theorem ev151_0 (x0 x1 x2 x3 x4 x5 x6 x7 : Int) : evR noE (m151 x0 x1 x2 x3 x4 x5 x6 x7) (.bool (F151 x0 x1 x2 x3 x4 x5 x6 x7)) := by
  unfold m151 F151
  generalize hc : (bif decide (i64.wrap (F144_0 (F79_0 (F93_0 x2 x0) (F93_1 x3 x1) (F93_0 x4 x0) (F93_1 x5 x1)) * F144_0 (F79_0 (F93_0 x2 x0) (F93_1 x3 x1) (F93_0 x6 x0) (F93_1 x7 x1))) < 0) then decide (i64.wrap (F144_0 (F79_0 (F93_0 x6 x4) (F93_1 x7 x5) (F93_0 x0 x4) (F93_1 x1 x5)) * F144_0 (F79_0 (F93_0 x6 x4) (F93_1 x7 x5) (F93_0 x2 x4) (F93_1 x3 x5))) < 0) else false) = c0
  generalize hp0 : (F144_0 (F79_0 (F93_0 x2 x0) (F93_1 x3 x1) (F93_0 x4 x0) (F93_1 x5 x1)) == 0) = p0
  generalize hp1 : (F144_0 (F79_0 (F93_0 x2 x0) (F93_1 x3 x1) (F93_0 x6 x0) (F93_1 x7 x1)) == 0) = p1
  generalize hp2 : (F144_0 (F79_0 (F93_0 x6 x4) (F93_1 x7 x5) (F93_0 x0 x4) (F93_1 x1 x5)) == 0) = p2
  generalize hp3 : (F144_0 (F79_0 (F93_0 x6 x4) (F93_1 x7 x5) (F93_0 x2 x4) (F93_1 x3 x5)) == 0) = p3
  generalize hb0 : F171_0 x4 x5 x0 x1 x2 x3 = t0
  generalize hb1 : F171_0 x6 x7 x0 x1 x2 x3 = t1
  generalize hb2 : F171_0 x0 x1 x4 x5 x6 x7 = t2
  generalize hb3 : F171_0 x2 x3 x4 x5 x6 x7 = t3
  clear hc hp0 hp1 hp2 hp3 hb0 hb1 hb2 hb3
  cases c0 <;> (repeat' (first | exact evRet rfl | refine evObi ?_ | refine evObc ?_ | refine evObt ?_ | refine evOb rfl ?_ | refine evBrT rfl ?_ | refine evBrF rfl ?_))
  all_goals (cases p0 <;> (repeat' (first | exact evRet rfl | refine evObi ?_ | refine evObc ?_ | refine evObt ?_ | refine evOb rfl ?_ | refine evBrT rfl ?_ | refine evBrF rfl ?_)))
  all_goals (cases t0 <;> (repeat' (first | exact evRet rfl | refine evObi ?_ | refine evObc ?_ | refine evObt ?_ | refine evOb rfl ?_ | refine evBrT rfl ?_ | refine evBrF rfl ?_)))
  all_goals (cases p1 <;> (repeat' (first | exact evRet rfl | refine evObi ?_ | refine evObc ?_ | refine evObt ?_ | refine evOb rfl ?_ | refine evBrT rfl ?_ | refine evBrF rfl ?_)))
  all_goals (cases t1 <;> (repeat' (first | exact evRet rfl | refine evObi ?_ | refine evObc ?_ | refine evObt ?_ | refine evOb rfl ?_ | refine evBrT rfl ?_ | refine evBrF rfl ?_)))
  all_goals (cases p2 <;> (repeat' (first | exact evRet rfl | refine evObi ?_ | refine evObc ?_ | refine evObt ?_ | refine evOb rfl ?_ | refine evBrT rfl ?_ | refine evBrF rfl ?_)))
  all_goals (cases t2 <;> (repeat' (first | exact evRet rfl | refine evObi ?_ | refine evObc ?_ | refine evObt ?_ | refine evOb rfl ?_ | refine evBrT rfl ?_ | refine evBrF rfl ?_)))
  all_goals (cases p3 <;> (repeat' (first | exact evRet rfl | refine evObi ?_ | refine evObc ?_ | refine evObt ?_ | refine evOb rfl ?_ | refine evBrT rfl ?_ | refine evBrF rfl ?_)))
  all_goals (cases t3 <;> (repeat' (first | exact evRet rfl | refine evObi ?_ | refine evObc ?_ | refine evObt ?_ | refine evOb rfl ?_ | refine evBrT rfl ?_ | refine evBrF rfl ?_)))
theorem ev151 (x0 x1 x2 x3 x4 x5 x6 x7 : Int) : evR noE (m151 x0 x1 x2 x3 x4 x5 x6 x7) (.bool (F151 x0 x1 x2 x3 x4 x5 x6 x7)) := ev151_0 x0 x1 x2 x3 x4 x5 x6 x7
def C151 : PCon := mkC [.agg tp2, .agg tp2, .agg tp2, .agg tp2] (fun _ => True) fun
  | [.agg [.int _ x0, .int _ x1], .agg [.int _ x2, .int _ x3], .agg [.int _ x4, .int _ x5], .agg [.int _ x6, .int _ x7]] => .bool (F151 x0 x1 x2 x3 x4 x5 x6 x7)
  | _ => .any
theorem ok151 : (vP C151).Ok Tryz.prog 151 := mkE tabB20 Tryz.func151 (by kernel_rfl) fun ds hp => rf0 (run151 ..) (ev151 _ _ _ _ _ _ _ _)
end
end Go.Dx
namespace Go.Dx
open Go.IntKind (i64 u64 u8)
open Go.Sx Go.Proofs
set_option maxRecDepth 100000
set_option linter.unusedVariables false
set_option linter.unusedSimpArgs false
noncomputable section
def ctB21 : CTab := (151, .con C151) :: ctB20
theorem tabB21 : TabOk Tryz.prog eqs its ctB21 := .con ok151 (tabB20)
def m126 (s0 : ByteArray) (x1 : Int) (n2 : Nat) (f2 : FnV) (x4 x5 x6 x7 x8 x9 : Int) : RT Empty := .obp ((0 : Int) <= x5 /\ i64.wrap (x5 + (1 : Int)) = x5 + (1 : Int) /\ x5 + (1 : Int) < (↑n2 : Int)) (.obt (.obc (.obt (.brt (.obt (.obt (.obc (.obt (.obp ((0 : Int) <= x5 /\ i64.wrap (x5 + (1 : Int)) = x5 + (1 : Int) /\ x5 + (1 : Int) < (↑n2 : Int)) (.obt (.br (F124_0 (elV tp2 f2) x4 x5 (F125_0 x6) (F125_1 x7)) (.ret (V.kb true)) (.brt (.obt (.obt (.obc (.obt (.obp ((0 : Int) <= x5 /\ i64.wrap (x5 + (1 : Int)) = x5 + (1 : Int) /\ x5 + (1 : Int) < (↑n2 : Int)) (.obt (.br (F124_0 (elV tp2 f2) x4 x5 (F125_0 x8) (F125_1 x7)) (.ret (V.kb true)) (.brt (.obt (.obt (.obc (.obt (.obp ((0 : Int) <= x5 /\ i64.wrap (x5 + (1 : Int)) = x5 + (1 : Int) /\ x5 + (1 : Int) < (↑n2 : Int)) (.obt (.br (F124_0 (elV tp2 f2) x4 x5 (F125_0 x8) (F125_1 x9)) (.ret (V.kb true)) (.brt (.obt (.obt (.obc (.obt (.obp ((0 : Int) <= x5 /\ i64.wrap (x5 + (1 : Int)) = x5 + (1 : Int) /\ x5 + (1 : Int) < (↑n2 : Int)) (.obt (.br (F124_0 (elV tp2 f2) x4 x5 (F125_0 x6) (F125_1 x9)) (.ret (V.kb true)) (.brf (.brt (.obt (.obt (.obt (.obt (.br (decide (i64.wrap (i64.wrap (max (max 0 (i64.wrap (i64.wrap (2 * x6) - F150_0 (elV tp2 f2) x5))) (i64.wrap (F150_0 (elV tp2 f2) x5 - i64.wrap (2 * x8))) * max (max 0 (i64.wrap (i64.wrap (2 * x6) - F150_0 (elV tp2 f2) x5))) (i64.wrap (F150_0 (elV tp2 f2) x5 - i64.wrap (2 * x8)))) + i64.wrap (max (max 0 (i64.wrap (i64.wrap (2 * x7) - F150_1 (elV tp2 f2) x5))) (i64.wrap (F150_1 (elV tp2 f2) x5 - i64.wrap (2 * x9))) * max (max 0 (i64.wrap (i64.wrap (2 * x7) - F150_1 (elV tp2 f2) x5))) (i64.wrap (F150_1 (elV tp2 f2) x5 - i64.wrap (2 * x9))))) <= i64.wrap (x4 * x4))) (.ret (V.kb true)) (.brt (.obt (.obt (.obt (.obt (.br (decide (i64.wrap (i64.wrap (max (max 0 (i64.wrap (i64.wrap (2 * x6) - F150_2 (elV tp2 f2) x5))) (i64.wrap (F150_2 (elV tp2 f2) x5 - i64.wrap (2 * x8))) * max (max 0 (i64.wrap (i64.wrap (2 * x6) - F150_2 (elV tp2 f2) x5))) (i64.wrap (F150_2 (elV tp2 f2) x5 - i64.wrap (2 * x8)))) + i64.wrap (max (max 0 (i64.wrap (i64.wrap (2 * x7) - F150_3 (elV tp2 f2) x5))) (i64.wrap (F150_3 (elV tp2 f2) x5 - i64.wrap (2 * x9))) * max (max 0 (i64.wrap (i64.wrap (2 * x7) - F150_3 (elV tp2 f2) x5))) (i64.wrap (F150_3 (elV tp2 f2) x5 - i64.wrap (2 * x9))))) <= i64.wrap (x4 * x4))) (.ret (V.kb true)) (.brf (.obc (.obt (.obc (.obt (.obc (.obt (.obi (.obi (.br (!F151 (F150_0 (elV tp2 f2) x5) (F150_1 (elV tp2 f2) x5) (F150_2 (elV tp2 f2) x5) (F150_3 (elV tp2 f2) x5) (F125_0 x6) (F125_1 x7) (F125_0 x8) (F125_1 x9)) (.ob (!F151 (F150_0 (elV tp2 f2) x5) (F150_1 (elV tp2 f2) x5) (F150_2 (elV tp2 f2) x5) (F150_3 (elV tp2 f2) x5) (F125_0 x6) (F125_1 x7) (F125_0 x8) (F125_1 x9)) (.ob (!F151 (F150_0 (elV tp2 f2) x5) (F150_1 (elV tp2 f2) x5) (F150_2 (elV tp2 f2) x5) (F150_3 (elV tp2 f2) x5) (F125_0 x6) (F125_1 x7) (F125_0 x8) (F125_1 x9)) (.obc (.obt (.obc (.obt (.ob (!F151 (F150_0 (elV tp2 f2) x5) (F150_1 (elV tp2 f2) x5) (F150_2 (elV tp2 f2) x5) (F150_3 (elV tp2 f2) x5) (F125_0 x6) (F125_1 x7) (F125_0 x8) (F125_1 x9)) (.ob (!F151 (F150_0 (elV tp2 f2) x5) (F150_1 (elV tp2 f2) x5) (F150_2 (elV tp2 f2) x5) (F150_3 (elV tp2 f2) x5) (F125_0 x6) (F125_1 x7) (F125_0 x8) (F125_1 x9)) (.obc (.obt (.ret (V.bool (F151 (F150_0 (elV tp2 f2) x5) (F150_1 (elV tp2 f2) x5) (F150_2 (elV tp2 f2) x5) (F150_3 (elV tp2 f2) x5) (F125_0 x8) (F125_1 x7) (F125_0 x6) (F125_1 x9)))))))))))))) (.ret (V.kb true))))))))))))))))))))))))))))))))))))))))))))))))))))))))))))
theorem run126 (s0 : ByteArray) (x1 : Int) (n2 : Nat) (f2 : FnV) (x4 x5 x6 x7 x8 x9 : Int) : Fit noD (runL JJ ctB21 u5 s126 [V.agg [V.str s0, vi x1, V.sl n2 (elV tp2 f2), vi x4], vi x5, V.agg [vi x6, vi x7, vi x8, vi x9]]) (m126 s0 x1 n2 f2 x4 x5 x6 x7 x8 x9) := ⟨by kernel_rfl, by kernel_rfl⟩
def F126_0 (f2 : FnV) (x4 x5 x6 x7 x8 x9 : Int) : Bool := bif F124_0 (elV tp2 f2) x4 x5 (F125_0 x6) (F125_1 x7) then true else bif F124_0 (elV tp2 f2) x4 x5 (F125_0 x8) (F125_1 x7) then true else bif F124_0 (elV tp2 f2) x4 x5 (F125_0 x8) (F125_1 x9) then true else bif F124_0 (elV tp2 f2) x4 x5 (F125_0 x6) (F125_1 x9) then true else bif decide (i64.wrap (i64.wrap (max (max 0 (i64.wrap (i64.wrap (2 * x6) - F150_0 (elV tp2 f2) x5))) (i64.wrap (F150_0 (elV tp2 f2) x5 - i64.wrap (2 * x8))) * max (max 0 (i64.wrap (i64.wrap (2 * x6) - F150_0 (elV tp2 f2) x5))) (i64.wrap (F150_0 (elV tp2 f2) x5 - i64.wrap (2 * x8)))) + i64.wrap (max (max 0 (i64.wrap (i64.wrap (2 * x7) - F150_1 (elV tp2 f2) x5))) (i64.wrap (F150_1 (elV tp2 f2) x5 - i64.wrap (2 * x9))) * max (max 0 (i64.wrap (i64.wrap (2 * x7) - F150_1 (elV tp2 f2) x5))) (i64.wrap (F150_1 (elV tp2 f2) x5 - i64.wrap (2 * x9))))) <= i64.wrap (x4 * x4)) then true else bif decide (i64.wrap (i64.wrap (max (max 0 (i64.wrap (i64.wrap (2 * x6) - F150_2 (elV tp2 f2) x5))) (i64.wrap (F150_2 (elV tp2 f2) x5 - i64.wrap (2 * x8))) * max (max 0 (i64.wrap (i64.wrap (2 * x6) - F150_2 (elV tp2 f2) x5))) (i64.wrap (F150_2 (elV tp2 f2) x5 - i64.wrap (2 * x8)))) + i64.wrap (max (max 0 (i64.wrap (i64.wrap (2 * x7) - F150_3 (elV tp2 f2) x5))) (i64.wrap (F150_3 (elV tp2 f2) x5 - i64.wrap (2 * x9))) * max (max 0 (i64.wrap (i64.wrap (2 * x7) - F150_3 (elV tp2 f2) x5))) (i64.wrap (F150_3 (elV tp2 f2) x5 - i64.wrap (2 * x9))))) <= i64.wrap (x4 * x4)) then true else bif !F151 (F150_0 (elV tp2 f2) x5) (F150_1 (elV tp2 f2) x5) (F150_2 (elV tp2 f2) x5) (F150_3 (elV tp2 f2) x5) (F125_0 x6) (F125_1 x7) (F125_0 x8) (F125_1 x9) then F151 (F150_0 (elV tp2 f2) x5) (F150_1 (elV tp2 f2) x5) (F150_2 (elV tp2 f2) x5) (F150_3 (elV tp2 f2) x5) (F125_0 x8) (F125_1 x7) (F125_0 x6) (F125_1 x9) else true
def R126 (s0 : ByteArray) (x1 : Int) (n2 : Nat) (f2 : FnV) (x4 x5 x6 x7 x8 x9 : Int) : V := .bool (F126_0 f2 x4 x5 x6 x7 x8 x9)
theorem ev126 (s0 : ByteArray) (x1 : Int) (n2 : Nat) (f2 : FnV) (x4 x5 x6 x7 x8 x9 : Int) (hp : 0 <= x5 /\ i64.wrap (x5 + 1) = x5 + 1 /\ x5 + 1 < (n2 : Int)) : evR noE (m126 s0 x1 n2 f2 x4 x5 x6 x7 x8 x9) (R126 s0 x1 n2 f2 x4 x5 x6 x7 x8 x9) := evObp (by first | assumption | (first | exact hp | simp_all)) (evObt (evObc (evObt (evBrt (evObt (evObt (evObc (evObt (evObp (by first | assumption | (first | exact hp | simp_all)) (evObt (evBr (fun h0 => evRet (by unfold R126 F126_0; try rw [h0]; rfl)) (fun h0 => evBrt (evObt (evObt (evObc (evObt (evObp (by first | assumption | (first | exact hp | simp_all)) (evObt (evBr (fun h1 => evRet (by unfold R126 F126_0; try rw [h0]; try rw [h1]; rfl)) (fun h1 => evBrt (evObt (evObt (evObc (evObt (evObp (by first | assumption | (first | exact hp | simp_all)) (evObt (evBr (fun h2 => evRet (by unfold R126 F126_0; try rw [h0]; try rw [h1]; try rw [h2]; rfl)) (fun h2 => evBrt (evObt (evObt (evObc (evObt (evObp (by first | assumption | (first | exact hp | simp_all)) (evObt (evBr (fun h3 => evRet (by unfold R126 F126_0; try rw [h0]; try rw [h1]; try rw [h2]; try rw [h3]; rfl)) (fun h3 => evBrf (evBrt (evObt (evObt (evObt (evObt (evBr (fun h4 => evRet (by unfold R126 F126_0; try rw [h0]; try rw [h1]; try rw [h2]; try rw [h3]; try rw [h4]; rfl)) (fun h4 => evBrt (evObt (evObt (evObt (evObt (evBr (fun h5 => evRet (by unfold R126 F126_0; try rw [h0]; try rw [h1]; try rw [h2]; try rw [h3]; try rw [h4]; try rw [h5]; rfl)) (fun h5 => evBrf (evObc (evObt (evObc (evObt (evObc (evObt (evObi (evObi (evBr (fun h6 => evOb (by first | assumption | (simp_all)) (evOb (by first | assumption | (simp_all)) (evObc (evObt (evObc (evObt (evOb (by first | assumption | (simp_all)) (evOb (by first | assumption | (simp_all)) (evObc (evObt (evRet (by unfold R126 F126_0; try rw [h0]; try rw [h1]; try rw [h2]; try rw [h3]; try rw [h4]; try rw [h5]; try rw [h6]; rfl)))))))))))) (fun h6 => evRet (by unfold R126 F126_0; try rw [h0]; try rw [h1]; try rw [h2]; try rw [h3]; try rw [h4]; try rw [h5]; try rw [h6]; rfl))))))))))))))))))))))))))))))))))))))))))))))))))))))))))))
def C126 : PCon := mkC [.agg tyR, .int .i64, .agg tp4] (fun
  | [.agg [.str s0, .int _ x1, .sl n2 f2, .int _ x4], .int _ x5, .agg [.int _ x6, .int _ x7, .int _ x8, .int _ x9]] => 0 <= x5 /\ i64.wrap (x5 + 1) = x5 + 1 /\ x5 + 1 < (n2 : Int)
  | _ => False) fun
  | [.agg [.str s0, .int _ x1, .sl n2 f2, .int _ x4], .int _ x5, .agg [.int _ x6, .int _ x7, .int _ x8, .int _ x9]] => R126 s0 x1 n2 f2 x4 x5 x6 x7 x8 x9
  | _ => .any
theorem ok126 : (vP C126).Ok Tryz.prog 126 := mkE tabB21 Tryz.func126 (by kernel_rfl) fun ds hp => rf0 (run126 ..) (ev126 _ _ _ _ _ _ _ _ _ _ hp)
end
end Go.Dx
namespace Go.Dx
open Go.IntKind (i64 u64 u8)
open Go.Sx Go.Proofs
set_option maxRecDepth 100000
set_option linter.unusedVariables false
set_option linter.unusedSimpArgs false
noncomputable section
def ctB22 : CTab := (126, .con C126) :: ctB21
theorem tabB22 : TabOk Tryz.prog eqs its ctB22 := .con ok126 (tabB21)
def u2 : Unr := fun k => bif Nat.beq k 2 then 5 else 0
inductive S76 where
  | L0 (i_100 : Int) (b_101 : Bool)
def inv76 (s0 : ByteArray) (x1 : Int) (n2 : Nat) (f2 : FnV) (x4 x5 x6 x7 x8 : Int) : S76 -> Env × List O × Option Ex
  | .L0 i_100 b_101 => ([(7, vi i_100), (6, V.bool b_101), (5, V.pl 0 0), (11, V.agg [vi x5, vi x6, vi x7, vi x6, vi x7, vi x8, vi x5, vi x8]), (10, V.agg [vi x5, vi x6, vi x7, vi x8]), (4, vi 0), (3, V.pl 1 0), (2, V.pl 2 0), (0, V.agg [V.str s0, vi x1, V.sl n2 (elV tp2 f2), vi x4]), (1, V.agg [vi x5, vi x6, vi x7, vi x8])], [O.cells [vi x5, vi x6, vi x7, vi x6, vi x7, vi x8, vi x5, vi x8] 112, O.cells [vi x5, vi x6, vi x7, vi x8] 29, O.cells [V.str s0, vi x1, V.sl n2 (elV tp2 f2), vi x4] 54], none)
def id76 : S76 -> JJ
  | .L0 i_100 b_101 => (0, [])
def rl76 (s0 : ByteArray) (x1 : Int) (n2 : Nat) (f2 : FnV) (x4 x5 x6 x7 x8 : Int) : T (Leaf JJ) := runL JJ ctB22 u2 s76 [V.agg [V.str s0, vi x1, V.sl n2 (elV tp2 f2), vi x4], V.agg [vi x5, vi x6, vi x7, vi x8]]
def lp76_0 (s0 : ByteArray) (x1 : Int) (n2 : Nat) (f2 : FnV) (x4 x5 x6 x7 x8 : Int) (cx : List Cx) : Lp JJ := lpT (atT (rl76 s0 x1 n2 f2 x4 x5 x6 x7 x8) [])
def lp76 (s0 : ByteArray) (x1 : Int) (n2 : Nat) (f2 : FnV) (x4 x5 x6 x7 x8 : Int) : JJ -> Lp JJ
  | (0, cx) => lp76_0 s0 x1 n2 f2 x4 x5 x6 x7 x8 cx
  | (_, cx) => lp76_0 s0 x1 n2 f2 x4 x5 x6 x7 x8 cx
def D76 (s0 : ByteArray) (x1 : Int) (n2 : Nat) (f2 : FnV) (x4 x5 x6 x7 x8 : Int) : LD JJ S76 := ⟨id76, lp76 s0 x1 n2 f2 x4 x5 x6 x7 x8, inv76 s0 x1 n2 f2 x4 x5 x6 x7 x8⟩
def st76 (s0 : ByteArray) (x1 : Int) (n2 : Nat) (f2 : FnV) (x4 x5 x6 x7 x8 : Int) : S76 -> RT S76
  | .L0 i_100 b_101 => .asm (true = true -> n2 <= 9223372036854775807) (.br (decide (i64.wrap (i_100 + 1) < (↑n2 : Int))) (.brt (.obt (.obt (.obc (.obt (.obp ((0 : Int) <= i_100 /\ i64.wrap (i_100 + (1 : Int)) = i_100 + (1 : Int) /\ i_100 + (1 : Int) < (↑n2 : Int)) (.obt (.brt (.obi (.obt (.obi (.obi (.obi (.obt (.obi (.obi (.br (F124_0 (elV tp2 f2) x4 i_100 (F125_0 x5) (F125_1 x6)) (.ob (F124_0 (elV tp2 f2) x4 i_100 (F125_0 x5) (F125_1 x6)) (.ob (F124_0 (elV tp2 f2) x4 i_100 (F125_0 x5) (F125_1 x6)) (.obc (.obt (.ob (F124_0 (elV tp2 f2) x4 i_100 (F125_0 x5) (F125_1 x6)) (.ob (F124_0 (elV tp2 f2) x4 i_100 (F125_0 x5) (F125_1 x6)) (.obp ((0 : Int) <= i_100 /\ i64.wrap (i_100 + (1 : Int)) = i_100 + (1 : Int) /\ i_100 + (1 : Int) < (↑n2 : Int)) (.obt (.brt (.obi (.obt (.obi (.obi (.obi (.obt (.obi (.obi (.br (F124_0 (elV tp2 f2) x4 i_100 (F125_0 x7) (F125_1 x6)) (.ob (F124_0 (elV tp2 f2) x4 i_100 (F125_0 x7) (F125_1 x6)) (.ob (F124_0 (elV tp2 f2) x4 i_100 (F125_0 x7) (F125_1 x6)) (.obc (.obt (.ob (F124_0 (elV tp2 f2) x4 i_100 (F125_0 x7) (F125_1 x6)) (.ob (F124_0 (elV tp2 f2) x4 i_100 (F125_0 x7) (F125_1 x6)) (.obp ((0 : Int) <= i_100 /\ i64.wrap (i_100 + (1 : Int)) = i_100 + (1 : Int) /\ i_100 + (1 : Int) < (↑n2 : Int)) (.obt (.brt (.obi (.obt (.obi (.obi (.obi (.obt (.obi (.obi (.br (F124_0 (elV tp2 f2) x4 i_100 (F125_0 x7) (F125_1 x8)) (.ob (F124_0 (elV tp2 f2) x4 i_100 (F125_0 x7) (F125_1 x8)) (.ob (F124_0 (elV tp2 f2) x4 i_100 (F125_0 x7) (F125_1 x8)) (.obc (.obt (.ob (F124_0 (elV tp2 f2) x4 i_100 (F125_0 x7) (F125_1 x8)) (.ob (F124_0 (elV tp2 f2) x4 i_100 (F125_0 x7) (F125_1 x8)) (.obp ((0 : Int) <= i_100 /\ i64.wrap (i_100 + (1 : Int)) = i_100 + (1 : Int) /\ i_100 + (1 : Int) < (↑n2 : Int)) (.obt (.brf (.br (F124_0 (elV tp2 f2) x4 i_100 (F125_0 x5) (F125_1 x8)) (.ret (vi 2)) (.br (!b_101) (.ob (!b_101) (.ob (!b_101) (.ob (!b_101) (.obp ((0 : Int) <= i_100 /\ i64.wrap (i_100 + (1 : Int)) = i_100 + (1 : Int) /\ i_100 + (1 : Int) < (↑n2 : Int)) (.obt (.next [some (some 0), some (some 1), some (some 2)] (S76.L0 (i64.wrap (i_100 + 1)) (F126_0 (elV tp2 f2) x4 i_100 x5 x6 x7 x8)) [])))))) (.next [some (some 0), some (some 1), some (some 2)] (S76.L0 (i64.wrap (i_100 + 1)) (true)) [])))))))))))) (.brf (.br (!b_101) (.ob (!b_101) (.ob (!b_101) (.ob (!b_101) (.obp ((0 : Int) <= i_100 /\ i64.wrap (i_100 + (1 : Int)) = i_100 + (1 : Int) /\ i_100 + (1 : Int) < (↑n2 : Int)) (.obt (.next [some (some 0), some (some 1), some (some 2)] (S76.L0 (i64.wrap (i_100 + 1)) (F126_0 (elV tp2 f2) x4 i_100 x5 x6 x7 x8)) [])))))) (.next [some (some 0), some (some 1), some (some 2)] (S76.L0 (i64.wrap (i_100 + 1)) (true)) []))))))))))))))))))))) (.brt (.brf (.br (!b_101) (.ob (!b_101) (.ob (!b_101) (.ob (!b_101) (.obp ((0 : Int) <= i_100 /\ i64.wrap (i_100 + (1 : Int)) = i_100 + (1 : Int) /\ i_100 + (1 : Int) < (↑n2 : Int)) (.obt (.next [some (some 0), some (some 1), some (some 2)] (S76.L0 (i64.wrap (i_100 + 1)) (F126_0 (elV tp2 f2) x4 i_100 x5 x6 x7 x8)) [])))))) (.next [some (some 0), some (some 1), some (some 2)] (S76.L0 (i64.wrap (i_100 + 1)) (true)) [])))))))))))))))))))))) (.brt (.brt (.brf (.br (!b_101) (.ob (!b_101) (.ob (!b_101) (.ob (!b_101) (.obp ((0 : Int) <= i_100 /\ i64.wrap (i_100 + (1 : Int)) = i_100 + (1 : Int) /\ i_100 + (1 : Int) < (↑n2 : Int)) (.obt (.next [some (some 0), some (some 1), some (some 2)] (S76.L0 (i64.wrap (i_100 + 1)) (F126_0 (elV tp2 f2) x4 i_100 x5 x6 x7 x8)) [])))))) (.next [some (some 0), some (some 1), some (some 2)] (S76.L0 (i64.wrap (i_100 + 1)) (true)) [])))))))))))))))))))))) (.br (b_101) (.ret (vi 1)) (.ret (vi 0))))
def m76 (s0 : ByteArray) (x1 : Int) (n2 : Nat) (f2 : FnV) (x4 x5 x6 x7 x8 : Int) : RT S76 := .obc (.obt (.enter [some (some 2), some (some 1), some (some 0)] (S76.L0 (0) (false)) []))
theorem run76 (s0 : ByteArray) (x1 : Int) (n2 : Nat) (f2 : FnV) (x4 x5 x6 x7 x8 : Int) : Fits ctB22 u2 (D76 s0 x1 n2 f2 x4 x5 x6 x7 x8) (rl76 s0 x1 n2 f2 x4 x5 x6 x7 x8) (m76 s0 x1 n2 f2 x4 x5 x6 x7 x8) (st76 s0 x1 n2 f2 x4 x5 x6 x7 x8) := ⟨⟨by kernel_rfl, by kernel_rfl⟩, fun s => match s with | .L0 i_100 b_101 => ⟨by kernel_rfl, by kernel_rfl⟩⟩
def q76 (f2 : FnV) (x4 x5 x6 x7 x8 : Int) (ii : Nat) : Int := bif F124_0 (elV tp2 f2) x4 (ii : Int) (F125_0 x5) (F125_1 x6) && (F124_0 (elV tp2 f2) x4 (ii : Int) (F125_0 x7) (F125_1 x6) && (F124_0 (elV tp2 f2) x4 (ii : Int) (F125_0 x7) (F125_1 x8) && F124_0 (elV tp2 f2) x4 (ii : Int) (F125_0 x5) (F125_1 x8))) then 2 else bif F126_0 (elV tp2 f2) x4 (ii : Int) x5 x6 x7 x8 then 1 else 0
def F76 (n2 : Nat) (f2 : FnV) (x4 x5 x6 x7 x8 : Int) : Int := maxTo (q76 f2 x4 x5 x6 x7 x8) (n2 - 1)
theorem q76_le (f2 : FnV) (x4 x5 x6 x7 x8 : Int) (ii : Nat) : q76 f2 x4 x5 x6 x7 x8 ii <= 2 := by
  unfold q76
  generalize (F124_0 (elV tp2 f2) x4 (ii : Int) (F125_0 x5) (F125_1 x6) && (F124_0 (elV tp2 f2) x4 (ii : Int) (F125_0 x7) (F125_1 x6) && (F124_0 (elV tp2 f2) x4 (ii : Int) (F125_0 x7) (F125_1 x8) && F124_0 (elV tp2 f2) x4 (ii : Int) (F125_0 x5) (F125_1 x8)))) = a
  generalize F126_0 (elV tp2 f2) x4 (ii : Int) x5 x6 x7 x8 = c
  cases a <;> cases c <;> decide
theorem c76 (s0 : ByteArray) (x1 : Int) (n2 : Nat) (f2 : FnV) (x4 x5 x6 x7 x8 : Int) : ∀ i, i <= n2 - 1 -> ∀ b : Bool, maxTo (q76 f2 x4 x5 x6 x7 x8) i = (bif b then 1 else 0) -> Ev (st76 s0 x1 n2 f2 x4 x5 x6 x7 x8) (.L0 i b) (.int .i64 (F76 n2 f2 x4 x5 x6 x7 x8)) := by
  refine up_ind fun ii hi ih b hb => Ev.of rfl ?_
  by_cases hn : n2 <= 9223372036854775807
  case neg => exact evAsm fun h => absurd (h rfl) hn
  refine evAsm fun _ => ?_
  have w1 : i64.wrap ((ii : Int) + 1) = ((ii + 1 : Nat) : Int) := by rw [wrapI (by omega) (by omega)]; omega
  by_cases hlt : ii < n2 - 1
  · refine evBrT (decide_eq_true (by rw [w1]; omega)) ?_
    have hp : (0 : Int) <= (ii : Int) /\ i64.wrap ((ii : Int) + (1 : Int)) = (ii : Int) + (1 : Int) /\ (ii : Int) + (1 : Int) < (n2 : Int) := ⟨by omega, by rw [w1]; omega, by omega⟩
    have hih : ∀ b' : Bool, max (maxTo (q76 f2 x4 x5 x6 x7 x8) ii) (q76 f2 x4 x5 x6 x7 x8 ii) = (bif b' then 1 else 0) -> Ev (st76 s0 x1 n2 f2 x4 x5 x6 x7 x8) (.L0 (i64.wrap ((ii : Int) + 1)) b') (.int .i64 (F76 n2 f2 x4 x5 x6 x7 x8)) := fun b' h => by rw [w1]; exact ih hlt b' h
    have h2 : q76 f2 x4 x5 x6 x7 x8 ii = 2 -> F76 n2 f2 x4 x5 x6 x7 x8 = 2 := fun h => maxTo_top (q76_le f2 x4 x5 x6 x7 x8) hlt h
    rw [hb] at hih
    unfold q76 at hih h2
    clear ih w1 hb
    generalize hF : F76 n2 f2 x4 x5 x6 x7 x8 = r at *
    generalize hc0 : F124_0 (elV tp2 f2) x4 (ii : Int) (F125_0 x5) (F125_1 x6) = c0 at *
    generalize hc1 : F124_0 (elV tp2 f2) x4 (ii : Int) (F125_0 x7) (F125_1 x6) = c1 at *
    generalize hc2 : F124_0 (elV tp2 f2) x4 (ii : Int) (F125_0 x7) (F125_1 x8) = c2 at *
    generalize hc3 : F124_0 (elV tp2 f2) x4 (ii : Int) (F125_0 x5) (F125_1 x8) = c3 at *
    generalize ht : F126_0 (elV tp2 f2) x4 (ii : Int) x5 x6 x7 x8 = t at *
    clear hc0 hc1 hc2 hc3 ht hF
    cases b <;> cases t <;> cases c0 <;> (repeat' (first | (exact evNext (hih true rfl)) | (exact evNext (hih false rfl)) | exact evRet (by rw [h2 rfl]) | refine evObi ?_ | refine evObc ?_ | refine evObt ?_ | refine evOb rfl ?_ | refine evObp hp ?_ | refine evBrt ?_ | refine evBrf ?_ | refine evBrT rfl ?_ | refine evBrF rfl ?_))
    all_goals (cases c1 <;> (repeat' (first | (exact evNext (hih true rfl)) | (exact evNext (hih false rfl)) | exact evRet (by rw [h2 rfl]) | refine evObi ?_ | refine evObc ?_ | refine evObt ?_ | refine evOb rfl ?_ | refine evObp hp ?_ | refine evBrt ?_ | refine evBrf ?_ | refine evBrT rfl ?_ | refine evBrF rfl ?_)))
    all_goals (cases c2 <;> (repeat' (first | (exact evNext (hih true rfl)) | (exact evNext (hih false rfl)) | exact evRet (by rw [h2 rfl]) | refine evObi ?_ | refine evObc ?_ | refine evObt ?_ | refine evOb rfl ?_ | refine evObp hp ?_ | refine evBrt ?_ | refine evBrf ?_ | refine evBrT rfl ?_ | refine evBrF rfl ?_)))
    all_goals (cases c3 <;> (repeat' (first | (exact evNext (hih true rfl)) | (exact evNext (hih false rfl)) | exact evRet (by rw [h2 rfl]) | refine evObi ?_ | refine evObc ?_ | refine evObt ?_ | refine evOb rfl ?_ | refine evObp hp ?_ | refine evBrt ?_ | refine evBrf ?_ | refine evBrT rfl ?_ | refine evBrF rfl ?_)))
  · refine evBrF (decide_eq_false (by rw [w1]; omega)) ?_
    have : ii = n2 - 1 := by omega
    subst this
    unfold F76
    rw [hb]
    cases b
    · exact evBrF rfl (evRet rfl)
    · exact evBrT rfl (evRet rfl)
theorem ev76_0 (s0 : ByteArray) (x1 : Int) (n2 : Nat) (f2 : FnV) (x4 x5 x6 x7 x8 : Int) : evR (Ev (st76 s0 x1 n2 f2 x4 x5 x6 x7 x8)) (m76 s0 x1 n2 f2 x4 x5 x6 x7 x8) (.int .i64 (F76 n2 f2 x4 x5 x6 x7 x8)) := evObc (evObt (evEnter (c76 s0 x1 n2 f2 x4 x5 x6 x7 x8 0 (Nat.zero_le _) false rfl)))
theorem ev76 (s0 : ByteArray) (x1 : Int) (n2 : Nat) (f2 : FnV) (x4 x5 x6 x7 x8 : Int) : evR (Ev (st76 s0 x1 n2 f2 x4 x5 x6 x7 x8)) (m76 s0 x1 n2 f2 x4 x5 x6 x7 x8) (.int .i64 (F76 n2 (elV tp2 f2) x4 x5 x6 x7 x8)) := ev76_0 s0 x1 n2 f2 x4 x5 x6 x7 x8
def C76 : PCon := mkC [.agg tyR, .agg tp4] (fun _ => True) fun
  | [.agg [.str s0, .int _ x1, .sl n2 f2, .int _ x4], .agg [.int _ x5, .int _ x6, .int _ x7, .int _ x8]] => .int .i64 (F76 n2 f2 x4 x5 x6 x7 x8)
  | _ => .any
theorem ok76 : (vP C76).Ok Tryz.prog 76 := mkE tabB22 Tryz.func76 (by kernel_rfl) fun ds hp => rfs (run76 ..) (ev76 _ _ _ _ _ _ _ _ _)
end
end Go.Dx
namespace Go.Dx
open Go.IntKind (i64 u64 u8)
open Go.Sx Go.Proofs
set_option maxRecDepth 100000
set_option linter.unusedVariables false
set_option linter.unusedSimpArgs false
noncomputable section
def ctB23 : CTab := (76, .con C76) :: ctB22
theorem tabB23 : TabOk Tryz.prog eqs its ctB23 := .con ok76 (tabB22)
attribute [local irreducible] F44 F50_0 F91_0
end
end Go.Dx
namespace Go.Dx
open Go.IntKind (i64 u64 u8)
open Go.Sx
noncomputable section
set_option linter.unusedSimpArgs false
set_option linter.unusedVariables false
theorem wrapU {x : Int} (h1 : 0 <= x) (h2 : x < 18446744073709551616) : u64.wrap x = x := IntWalk.u64_in _ (by omega)
theorem mulS {x y A B : Int} (h1 : -A <= x) (h2 : x <= A) (h3 : -B <= y) (h4 : y <= B) : -(A * B) <= x * y /\ x * y <= A * B := by
  have hA : 0 <= A := by omega
  have hB : 0 <= B := by omega
  by_cases hy : 0 <= y
  · have a1 : x * y <= A * y := Int.mul_le_mul_of_nonneg_right h2 hy
    have a2 : A * y <= A * B := Int.mul_le_mul_of_nonneg_left h4 hA
    have a3 : -A * y <= x * y := Int.mul_le_mul_of_nonneg_right h1 hy
    rw [Int.neg_mul] at a3
    exact ⟨by omega, by omega⟩
  · have hy' : 0 <= -y := by omega
    have a1 : x * (-y) <= A * (-y) := Int.mul_le_mul_of_nonneg_right h2 hy'
    have a2 : A * (-y) <= A * B := Int.mul_le_mul_of_nonneg_left (by omega) hA
    have a3 : -A * (-y) <= x * (-y) := Int.mul_le_mul_of_nonneg_right h1 hy'
    have b1 : x * (-y) = -(x * y) := Int.mul_neg _ _
    have b3 : -A * (-y) = -(A * (-y)) := Int.neg_mul _ _
    exact ⟨by omega, by omega⟩
theorem sqN (x : Int) : 0 <= x * x := by
  by_cases h : 0 <= x
  · exact Int.mul_nonneg h h
  · rw [← Int.neg_mul_neg]; exact Int.mul_nonneg (by omega) (by omega)
theorem parts {x : Int} (h0 : 0 <= x) (h1 : x < 18446744073709551616) : 0 <= x / 4294967296 /\ x / 4294967296 <= 4294967295 /\ 0 <= x % 4294967296 /\ x % 4294967296 <= 4294967295 := by omega
theorem hi_p {x y : Int} (hx0 : 0 <= x) (hx : x < 18446744073709551616) (hy0 : 0 <= y) (hy : y < 18446744073709551616) : F162_0 x y = x * y / 18446744073709551616 := by
  rw [← mul64_arith x y hx0 hx hy0 hy]
  unfold F162_0
  simp only [and_low32 _ hx0 hx, and_low32 _ hy0 hy, IntKind.wrap_u64]
  rw [and_low32 _ (by omega) (by omega)]
  simp only [show (2 : Int) ^ 32 = 4294967296 from rfl]
  rw [Int.fdiv_eq_ediv_of_nonneg _ (by omega), Int.fdiv_eq_ediv_of_nonneg _ (by omega), Int.fdiv_eq_ediv_of_nonneg _ (by omega), Int.fdiv_eq_ediv_of_nonneg _ (by omega), Int.fdiv_eq_ediv_of_nonneg _ (by omega)]
theorem lo_p (x y : Int) : F162_1 x y = x * y % 18446744073709551616 := by unfold F162_1; rw [IntKind.wrap_u64]
theorem hilo_r {x y : Int} (hx0 : 0 <= x) (hx : x < 18446744073709551616) (hy0 : 0 <= y) (hy : y < 18446744073709551616) : F138_0 x y = x * y / 18446744073709551616 /\ F138_1 x y = x * y % 18446744073709551616 := by
  unfold F138_0 F138_1
  rw [wrapU hx0 hx, wrapU hy0 hy]
  rw [Int.tdiv_eq_ediv_of_nonneg hx0, Int.tdiv_eq_ediv_of_nonneg hy0, Int.tmod_eq_emod_of_nonneg hx0, Int.tmod_eq_emod_of_nonneg hy0]
  have ex : x = x / 4294967296 * 4294967296 + x % 4294967296 := by omega
  have ey : y = y / 4294967296 * 4294967296 + y % 4294967296 := by omega
  generalize hx1 : x / 4294967296 = x1 at *
  generalize hx0' : x % 4294967296 = x0 at *
  generalize hy1 : y / 4294967296 = y1 at *
  generalize hy0' : y % 4294967296 = y0 at *
  have b1 : 0 <= x1 /\ x1 <= 4294967295 := by omega
  have b2 : 0 <= x0 /\ x0 <= 4294967295 := by omega
  have b3 : 0 <= y1 /\ y1 <= 4294967295 := by omega
  have b4 : 0 <= y0 /\ y0 <= 4294967295 := by omega
  have pA := prod_bound x1 y1 b1.1 b1.2 b3.1 b3.2
  have pB := prod_bound x1 y0 b1.1 b1.2 b4.1 b4.2
  have pC := prod_bound x0 y0 b2.1 b2.2 b4.1 b4.2
  have pD := prod_bound x0 y1 b2.1 b2.2 b3.1 b3.2
  have hxy : x * y = x1 * y1 * 18446744073709551616 + (x1 * y0 + x0 * y1) * 4294967296 + x0 * y0 := by rw [ex, ey]; exact split_mul x1 x0 y1 y0
  rw [hxy]
  rw [wrapU b1.1 (by omega), wrapU b3.1 (by omega)]
  generalize x1 * y1 = A at *
  generalize x1 * y0 = B at *
  generalize x0 * y0 = C at *
  generalize x0 * y1 = D at *
  rw [wrapU (x := A) (by omega) (by omega), wrapU (x := B) (by omega) (by omega), wrapU (x := C) (by omega) (by omega), wrapU (x := D) (by omega) (by omega)]
  rw [Int.tdiv_eq_ediv_of_nonneg (a := C) (by omega), Int.tmod_eq_emod_of_nonneg (a := C) (by omega)]
  rw [wrapU (x := C / 4294967296) (by omega) (by omega)]
  rw [wrapU (x := B + C / 4294967296) (by omega) (by omega)]
  rw [Int.tdiv_eq_ediv_of_nonneg (a := B + C / 4294967296) (by omega), Int.tmod_eq_emod_of_nonneg (a := B + C / 4294967296) (by omega)]
  rw [wrapU (x := (B + C / 4294967296) / 4294967296) (by omega) (by omega)]
  rw [wrapU (x := D + (B + C / 4294967296) % 4294967296) (by omega) (by omega)]
  rw [Int.tdiv_eq_ediv_of_nonneg (a := D + (B + C / 4294967296) % 4294967296) (by omega)]
  rw [wrapU (x := (D + (B + C / 4294967296) % 4294967296) / 4294967296) (by omega) (by omega)]
  simp only [IntKind.wrap_u64]
  constructor
  · omega
  · omega
theorem atMost_p {x y z w : Int} (hx0 : 0 <= x) (hx : x < 9223372036854775808) (hy0 : 0 <= y) (hy : y < 9223372036854775808) (hz0 : 0 <= z) (hz : z < 9223372036854775808) (hw0 : 0 <= w) (hw : w < 9223372036854775808) :
    F135_0 (F134_0 x y) (F134_1 x y) (F134_0 z w) (F134_1 z w) = decide (x * y <= z * w) := by
  unfold F134_0 F134_1 F135_0
  rw [wrapU hx0 (by omega), wrapU hy0 (by omega), wrapU hz0 (by omega), wrapU hw0 (by omega)]
  rw [hi_p hx0 (by omega) hy0 (by omega), hi_p hz0 (by omega) hw0 (by omega), lo_p, lo_p]
  generalize x * y = a
  generalize z * w = b
  rw [Bool.eq_iff_iff]
  simp only [Bool.cond_eq_ite, Bool.and_true, Bool.and_eq_true, beq_iff_eq, decide_eq_true_eq]
  split <;> (try split) <;> (try split) <;> simp_all <;> omega
theorem above_r {x y z w : Int} (hx0 : 0 <= x) (hx : x < 9223372036854775808) (hy0 : 0 <= y) (hy : y < 9223372036854775808) (hz0 : 0 <= z) (hz : z < 9223372036854775808) (hw0 : 0 <= w) (hw : w < 9223372036854775808) :
    (!F137_0 (F138_0 x y) (F138_1 x y) (F138_0 z w) (F138_1 z w)) = decide (x * y <= z * w) := by
  unfold F137_0
  rw [(hilo_r hx0 (by omega) hy0 (by omega)).1, (hilo_r hx0 (by omega) hy0 (by omega)).2, (hilo_r hz0 (by omega) hw0 (by omega)).1, (hilo_r hz0 (by omega) hw0 (by omega)).2]
  generalize x * y = a
  generalize z * w = b
  rw [Bool.eq_iff_iff]
  simp only [Bool.cond_eq_ite, Bool.not_eq_true', beq_iff_eq, decide_eq_true_eq]
  split <;> (try split) <;> simp_all <;> omega
def nr (ax ay bx by' px py r : Int) : Bool :=
  bif decide ((px - ax) * (bx - ax) + (py - ay) * (by' - ay) <= 0) then decide ((px - ax) * (px - ax) + (py - ay) * (py - ay) <= r * r)
  else bif decide ((bx - ax) * (bx - ax) + (by' - ay) * (by' - ay) <= (px - ax) * (bx - ax) + (py - ay) * (by' - ay)) then decide ((px - bx) * (px - bx) + (py - by') * (py - by') <= r * r)
  else decide (((bx - ax) * (py - ay) - (by' - ay) * (px - ax)) * ((bx - ax) * (py - ay) - (by' - ay) * (px - ax)) <= r * r * ((bx - ax) * (bx - ax) + (by' - ay) * (by' - ay)))
def sm (x : Int) : Prop := -536870912 <= x /\ x <= 536870912
theorem abs_sq (c : Int) : max c (0 - c) * max c (0 - c) = c * c := by
  by_cases h : 0 <= c
  · rw [show max c (0 - c) = c from by omega]
  · rw [show max c (0 - c) = -c from by omega, Int.neg_mul_neg]
section
variable {ax ay bx by' px py r : Int}
theorem near_p (h1 : sm ax) (h2 : sm ay) (h3 : sm bx) (h4 : sm by') (h5 : sm px) (h6 : sm py) (h7 : 0 <= r) (h8 : r <= 1073741824) : F103_0 ax ay bx by' px py r = nr ax ay bx by' px py r := by
  unfold sm at *
  unfold F103_0 nr F84_0 F84_1
  rw [wrapI (x := bx - ax) (by omega) (by omega), wrapI (x := by' - ay) (by omega) (by omega), wrapI (x := px - ax) (by omega) (by omega), wrapI (x := py - ay) (by omega) (by omega), wrapI (x := px - bx) (by omega) (by omega), wrapI (x := py - by') (by omega) (by omega)]
  have e1 : -1073741824 <= bx - ax /\ bx - ax <= 1073741824 := by omega
  have e2 : -1073741824 <= by' - ay /\ by' - ay <= 1073741824 := by omega
  have e3 : -1073741824 <= px - ax /\ px - ax <= 1073741824 := by omega
  have e4 : -1073741824 <= py - ay /\ py - ay <= 1073741824 := by omega
  have e5 : -1073741824 <= px - bx /\ px - bx <= 1073741824 := by omega
  have e6 : -1073741824 <= py - by' /\ py - by' <= 1073741824 := by omega
  generalize bx - ax = dx at *
  generalize by' - ay = dy at *
  generalize px - ax = ux at *
  generalize py - ay = uy at *
  generalize px - bx = vx at *
  generalize py - by' = vy at *
  have k : ∀ a b c d : Int, (-1073741824 <= a /\ a <= 1073741824) -> (-1073741824 <= b /\ b <= 1073741824) -> (-1073741824 <= c /\ c <= 1073741824) -> (-1073741824 <= d /\ d <= 1073741824) -> F85_0 a b c d = a * c + b * d /\ -2305843009213693952 <= a * c + b * d /\ a * c + b * d <= 2305843009213693952 := by
    intro a b c d ha hb hc hd
    have m1 := mulS ha.1 ha.2 hc.1 hc.2
    have m2 := mulS hb.1 hb.2 hd.1 hd.2
    unfold F85_0
    rw [wrapI (x := a * c) (by omega) (by omega), wrapI (x := b * d) (by omega) (by omega), wrapI (by omega) (by omega)]
    exact ⟨rfl, by omega, by omega⟩
  have hr := mulS (x := r) (y := r) (A := 1073741824) (B := 1073741824) (by omega) h8 (by omega) h8
  have hr0 : 0 <= r * r := Int.mul_nonneg h7 h7
  have s1 : 0 <= dx * dx := sqN dx
  have s2 : 0 <= dy * dy := sqN dy
  rw [(k ux uy dx dy e3 e4 e1 e2).1, (k ux uy ux uy e3 e4 e3 e4).1, (k dx dy dx dy e1 e2 e1 e2).1, (k vx vy vx vy e5 e6 e5 e6).1, wrapI (x := r * r) (by omega) (by omega)]
  have c1 := mulS e1.1 e1.2 e4.1 e4.2
  have c2 := mulS e2.1 e2.2 e3.1 e3.2
  have d1 := mulS e1.1 e1.2 e1.1 e1.2
  have d2 := mulS e2.1 e2.2 e2.1 e2.2
  rw [show F127_0 dx dy ux uy = dx * uy - dy * ux from by
    unfold F127_0
    rw [wrapI (x := dx * uy) (by omega) (by omega), wrapI (x := dy * ux) (by omega) (by omega), wrapI (by omega) (by omega)]]
  rw [wrapI (x := 0 - (dx * uy - dy * ux)) (by omega) (by omega)]
  rw [atMost_p (by omega) (by omega) (by omega) (by omega) hr0 (by omega) (by omega) (by omega), abs_sq]
theorem near_r (h1 : sm ax) (h2 : sm ay) (h3 : sm bx) (h4 : sm by') (h5 : sm px) (h6 : sm py) (h7 : 0 <= r) (h8 : r <= 1073741824) : F106_0 px py ax ay bx by' r = nr ax ay bx by' px py r := by
  unfold sm at *
  unfold F106_0 nr F93_0 F93_1
  rw [wrapI (x := bx - ax) (by omega) (by omega), wrapI (x := by' - ay) (by omega) (by omega), wrapI (x := px - ax) (by omega) (by omega), wrapI (x := py - ay) (by omega) (by omega), wrapI (x := px - bx) (by omega) (by omega), wrapI (x := py - by') (by omega) (by omega)]
  have e1 : -1073741824 <= bx - ax /\ bx - ax <= 1073741824 := by omega
  have e2 : -1073741824 <= by' - ay /\ by' - ay <= 1073741824 := by omega
  have e3 : -1073741824 <= px - ax /\ px - ax <= 1073741824 := by omega
  have e4 : -1073741824 <= py - ay /\ py - ay <= 1073741824 := by omega
  have e5 : -1073741824 <= px - bx /\ px - bx <= 1073741824 := by omega
  have e6 : -1073741824 <= py - by' /\ py - by' <= 1073741824 := by omega
  generalize bx - ax = dx at *
  generalize by' - ay = dy at *
  generalize px - ax = ux at *
  generalize py - ay = uy at *
  generalize px - bx = vx at *
  generalize py - by' = vy at *
  have k : ∀ a b c d : Int, (-1073741824 <= a /\ a <= 1073741824) -> (-1073741824 <= b /\ b <= 1073741824) -> (-1073741824 <= c /\ c <= 1073741824) -> (-1073741824 <= d /\ d <= 1073741824) -> F92_0 a b c d = a * c + b * d /\ -2305843009213693952 <= a * c + b * d /\ a * c + b * d <= 2305843009213693952 := by
    intro a b c d ha hb hc hd
    have m1 := mulS ha.1 ha.2 hc.1 hc.2
    have m2 := mulS hb.1 hb.2 hd.1 hd.2
    unfold F92_0
    rw [wrapI (x := a * c) (by omega) (by omega), wrapI (x := b * d) (by omega) (by omega), wrapI (by omega) (by omega)]
    exact ⟨rfl, by omega, by omega⟩
  have hr := mulS (x := r) (y := r) (A := 1073741824) (B := 1073741824) (by omega) h8 (by omega) h8
  have hr0 : 0 <= r * r := Int.mul_nonneg h7 h7
  have s1 : 0 <= dx * dx := sqN dx
  have s2 : 0 <= dy * dy := sqN dy
  rw [(k ux uy dx dy e3 e4 e1 e2).1, (k ux uy ux uy e3 e4 e3 e4).1, (k dx dy dx dy e1 e2 e1 e2).1, (k vx vy vx vy e5 e6 e5 e6).1, wrapI (x := r * r) (by omega) (by omega)]
  have c1 := mulS e1.1 e1.2 e4.1 e4.2
  have c2 := mulS e2.1 e2.2 e3.1 e3.2
  have d1 := mulS e1.1 e1.2 e1.1 e1.2
  have d2 := mulS e2.1 e2.2 e2.1 e2.2
  rw [show F79_0 dx dy ux uy = dx * uy - dy * ux from by
    unfold F79_0
    rw [wrapI (x := dx * uy) (by omega) (by omega), wrapI (x := dy * ux) (by omega) (by omega), wrapI (by omega) (by omega)]]
  unfold F136_0
  rw [wrapI (x := 0 - (dx * uy - dy * ux)) (by omega) (by omega)]
  rw [above_r (by omega) (by omega) (by omega) (by omega) hr0 (by omega) (by omega) (by omega), abs_sq]
end
end
end Go.Dx
namespace Go.Dx
open Go.IntKind (i64 u64 u8)
set_option linter.unusedVariables false
def sd (ax ay bx b2 px py : Int) : Int := (bx - ax) * (py - ay) - (b2 - ay) * (px - ax)
theorem boxB {a b m α β X0 X1 : Int} (hα : 0 <= α) (hβ : 0 <= β) (hs : 0 < α + β) (h1 : β * X0 <= m) (h2 : m <= β * X1) (e : α * a + m = α * b + β * b) : (b < X0 -> a <= b) /\ (X1 < b -> b <= a) := by
  constructor
  · intro hb
    have hp : β * b <= β * X0 := Int.mul_le_mul_of_nonneg_left (by omega) hβ
    by_cases h0 : α = 0
    · subst h0
      have hb0 : 0 < β := by omega
      have : β * b < β * X0 := Int.mul_lt_mul_of_pos_left hb hb0
      simp only [Int.zero_mul, Int.zero_add] at e; omega
    · have : α * a <= α * b := by omega
      exact Int.le_of_mul_le_mul_left this (by omega)
  · intro hb
    have hp : β * X1 <= β * b := Int.mul_le_mul_of_nonneg_left (by omega) hβ
    by_cases h0 : α = 0
    · subst h0
      have hb0 : 0 < β := by omega
      have : β * X1 < β * b := Int.mul_lt_mul_of_pos_left hb hb0
      simp only [Int.zero_mul, Int.zero_add] at e; omega
    · have : α * b <= α * a := by omega
      exact Int.le_of_mul_le_mul_left this (by omega)
section
variable {ax ay bx b2 X0 Y0 X1 Y1 : Int}
def Bx (ax ay bx b2 X0 Y0 X1 Y1 : Int) : Prop := ¬ (max ax bx < X0 ∨ X1 < min ax bx ∨ max ay b2 < Y0 ∨ Y1 < min ay b2)
def Out (px py X0 Y0 X1 Y1 : Int) : Prop := px < X0 ∨ X1 < px ∨ py < Y0 ∨ Y1 < py
def Btw (px py ax ay bx b2 : Int) : Prop := min ax bx <= px /\ px <= max ax bx /\ min ay b2 <= py /\ py <= max ay b2
theorem noB {α β mx my : Int} (hα : 0 <= α) (hβ : 0 <= β) (hs : 0 < α + β) (h1 : β * X0 <= mx) (h2 : mx <= β * X1) (h3 : β * Y0 <= my) (h4 : my <= β * Y1) (ex : α * ax + mx = α * bx + β * bx) (ey : α * ay + my = α * b2 + β * b2) (ho : Out bx b2 X0 Y0 X1 Y1) (hb : Bx ax ay bx b2 X0 Y0 X1 Y1) : False := by
  have k1 := boxB hα hβ hs h1 h2 ex
  have k2 := boxB hα hβ hs h3 h4 ey
  unfold Out at ho; unfold Bx at hb
  rcases ho with h | h | h | h
  · have := k1.1 h; omega
  · have := k1.2 h; omega
  · have := k2.1 h; omega
  · have := k2.2 h; omega
theorem bx_comm (h : Bx ax ay bx b2 X0 Y0 X1 Y1) : Bx bx b2 ax ay X0 Y0 X1 Y1 := by unfold Bx at *; omega
theorem cornB {cx cy : Int} (h1 : X0 <= cx) (h2 : cx <= X1) (h3 : Y0 <= cy) (h4 : cy <= Y1) (ha : Out ax ay X0 Y0 X1 Y1) (hb : Out bx b2 X0 Y0 X1 Y1) (hB : Bx ax ay bx b2 X0 Y0 X1 Y1) (hf : sd ax ay bx b2 cx cy = 0) : Btw cx cy ax ay bx b2 := by
  unfold sd at hf
  apply Classical.byContradiction
  intro hn
  have hn' : cx < min ax bx ∨ max ax bx < cx ∨ cy < min ay b2 ∨ max ay b2 < cy := by unfold Btw at hn; omega
  have bd : ∀ β : Int, 0 <= β -> β * X0 <= β * cx /\ β * cx <= β * X1 /\ β * Y0 <= β * cy /\ β * cy <= β * Y1 := fun β hβ => ⟨Int.mul_le_mul_of_nonneg_left h1 hβ, Int.mul_le_mul_of_nonneg_left h2 hβ, Int.mul_le_mul_of_nonneg_left h3 hβ, Int.mul_le_mul_of_nonneg_left h4 hβ⟩
  -- b between a and c, by weights
  have go1 : ∀ α β : Int, 0 <= α -> 0 <= β -> 0 < α + β -> α * ax + β * cx = α * bx + β * bx -> α * ay + β * cy = α * b2 + β * b2 -> False := fun α β p1 p2 p3 e1 e2 =>
    noB p1 p2 p3 (bd β p2).1 (bd β p2).2.1 (bd β p2).2.2.1 (bd β p2).2.2.2 e1 e2 hb hB
  have go2 : ∀ α β : Int, 0 <= α -> 0 <= β -> 0 < α + β -> α * bx + β * cx = α * ax + β * ax -> α * b2 + β * cy = α * ay + β * ay -> False := fun α β p1 p2 p3 e1 e2 =>
    noB p1 p2 p3 (bd β p2).1 (bd β p2).2.1 (bd β p2).2.2.1 (bd β p2).2.2.2 e1 e2 ha (bx_comm hB)
  rcases hn' with h | h | h | h
  · by_cases hx : ax <= bx
    · exact go2 (ax - cx) (bx - ax) (by omega) (by omega) (by omega) (by grind) (by grind)
    · exact go1 (bx - cx) (ax - bx) (by omega) (by omega) (by omega) (by grind) (by grind)
  · by_cases hx : ax <= bx
    · exact go1 (cx - bx) (bx - ax) (by omega) (by omega) (by omega) (by grind) (by grind)
    · exact go2 (cx - ax) (ax - bx) (by omega) (by omega) (by omega) (by grind) (by grind)
  · by_cases hx : ay <= b2
    · exact go2 (ay - cy) (b2 - ay) (by omega) (by omega) (by omega) (by grind) (by grind)
    · exact go1 (b2 - cy) (ay - b2) (by omega) (by omega) (by omega) (by grind) (by grind)
  · by_cases hx : ay <= b2
    · exact go1 (cy - b2) (b2 - ay) (by omega) (by omega) (by omega) (by grind) (by grind)
    · exact go2 (cy - ay) (ay - b2) (by omega) (by omega) (by omega) (by grind) (by grind)
theorem diagI (cx cy dx dy : Int) : sd cx cy dx dy bx b2 * ax - sd cx cy dx dy ax ay * bx = sd ax ay bx b2 cx cy * dx - sd ax ay bx b2 dx dy * cx /\ sd cx cy dx dy bx b2 * ay - sd cx cy dx dy ax ay * b2 = sd ax ay bx b2 cx cy * dy - sd ax ay bx b2 dx dy * cy
    /\ sd cx cy dx dy bx b2 - sd cx cy dx dy ax ay = sd ax ay bx b2 cx cy - sd ax ay bx b2 dx dy := by
  unfold sd
  refine ⟨?_, ?_, ?_⟩ <;> grind
theorem diagB {cx cy dx dy : Int} (h1 : X0 <= cx /\ cx <= X1 /\ Y0 <= cy /\ cy <= Y1) (h2 : X0 <= dx /\ dx <= X1 /\ Y0 <= dy /\ dy <= Y1) (ha : Out ax ay X0 Y0 X1 Y1) (hb : Out bx b2 X0 Y0 X1 Y1) (hB : Bx ax ay bx b2 X0 Y0 X1 Y1)
    (hpq : (0 < sd ax ay bx b2 cx cy /\ sd ax ay bx b2 dx dy < 0) ∨ (sd ax ay bx b2 cx cy < 0 /\ 0 < sd ax ay bx b2 dx dy)) :
    (0 < sd cx cy dx dy ax ay /\ sd cx cy dx dy bx b2 < 0) ∨ (sd cx cy dx dy ax ay < 0 /\ 0 < sd cx cy dx dy bx b2) := by
  obtain ⟨e1, e2, e3⟩ := diagI (ax := ax) (ay := ay) (bx := bx) (b2 := b2) cx cy dx dy
  generalize sd ax ay bx b2 cx cy = p at *
  generalize sd ax ay bx b2 dx dy = q at *
  generalize sd cx cy dx dy ax ay = r at *
  generalize sd cx cy dx dy bx b2 = t at *
  apply Classical.byContradiction
  intro hn
  have m : ∀ k : Int, 0 <= k -> ∀ x, X0 <= x -> x <= X1 -> k * X0 <= k * x /\ k * x <= k * X1 := fun k hk x u v => ⟨Int.mul_le_mul_of_nonneg_left u hk, Int.mul_le_mul_of_nonneg_left v hk⟩
  have m' : ∀ k : Int, 0 <= k -> ∀ x, Y0 <= x -> x <= Y1 -> k * Y0 <= k * x /\ k * x <= k * Y1 := fun k hk x u v => ⟨Int.mul_le_mul_of_nonneg_left u hk, Int.mul_le_mul_of_nonneg_left v hk⟩
  rcases hpq with ⟨hp, hq⟩ | ⟨hp, hq⟩
  · -- t - r = p - q > 0
    have a1 := m p (by omega) dx h2.1 h2.2.1
    have a2 := m (-q) (by omega) cx h1.1 h1.2.1
    have a3 := m' p (by omega) dy h2.2.2.1 h2.2.2.2
    have a4 := m' (-q) (by omega) cy h1.2.2.1 h1.2.2.2
    simp only [Int.neg_mul] at a2 a4
    by_cases hr : 0 <= r
    · -- a between
      refine noB (α := r) (β := t - r) (mx := p * dx - q * cx) (my := p * dy - q * cy) hr (by omega) (by omega) ?_ ?_ ?_ ?_ ?_ ?_ ha (bx_comm hB)
      · rw [e3, Int.sub_mul]; omega
      · rw [e3, Int.sub_mul]; omega
      · rw [e3, Int.sub_mul]; omega
      · rw [e3, Int.sub_mul]; omega
      · rw [← e1, Int.sub_mul]; omega
      · rw [← e2, Int.sub_mul]; omega
    · refine noB (α := -t) (β := t - r) (mx := p * dx - q * cx) (my := p * dy - q * cy) (by omega) (by omega) (by omega) ?_ ?_ ?_ ?_ ?_ ?_ hb hB
      · rw [e3, Int.sub_mul]; omega
      · rw [e3, Int.sub_mul]; omega
      · rw [e3, Int.sub_mul]; omega
      · rw [e3, Int.sub_mul]; omega
      · rw [← e1, Int.sub_mul, Int.neg_mul, Int.neg_mul]; omega
      · rw [← e2, Int.sub_mul, Int.neg_mul, Int.neg_mul]; omega
  · have a1 := m (-p) (by omega) dx h2.1 h2.2.1
    have a2 := m q (by omega) cx h1.1 h1.2.1
    have a3 := m' (-p) (by omega) dy h2.2.2.1 h2.2.2.2
    have a4 := m' q (by omega) cy h1.2.2.1 h1.2.2.2
    simp only [Int.neg_mul] at a1 a3
    have e3' : r - t = q - p := by omega
    by_cases ht : 0 <= t
    · refine noB (α := t) (β := r - t) (mx := q * cx - p * dx) (my := q * cy - p * dy) ht (by omega) (by omega) ?_ ?_ ?_ ?_ ?_ ?_ hb hB
      · rw [e3', Int.sub_mul]; omega
      · rw [e3', Int.sub_mul]; omega
      · rw [e3', Int.sub_mul]; omega
      · rw [e3', Int.sub_mul]; omega
      · rw [Int.sub_mul]; omega
      · rw [Int.sub_mul]; omega
    · refine noB (α := -r) (β := r - t) (mx := q * cx - p * dx) (my := q * cy - p * dy) (by omega) (by omega) (by omega) ?_ ?_ ?_ ?_ ?_ ?_ ha (bx_comm hB)
      · rw [e3', Int.sub_mul]; omega
      · rw [e3', Int.sub_mul]; omega
      · rw [e3', Int.sub_mul]; omega
      · rw [e3', Int.sub_mul]; omega
      · rw [Int.sub_mul, Int.neg_mul, Int.neg_mul]; omega
      · rw [Int.sub_mul, Int.neg_mul, Int.neg_mul]; omega
theorem diagM {cx cy dx dy : Int} (h1 : X0 <= cx /\ cx <= X1 /\ Y0 <= cy /\ cy <= Y1) (h2 : X0 <= dx /\ dx <= X1 /\ Y0 <= dy /\ dy <= Y1)
    (hpq : (0 < sd ax ay bx b2 cx cy /\ sd ax ay bx b2 dx dy < 0) ∨ (sd ax ay bx b2 cx cy < 0 /\ 0 < sd ax ay bx b2 dx dy))
    (hrt : (0 < sd cx cy dx dy ax ay /\ sd cx cy dx dy bx b2 < 0) ∨ (sd cx cy dx dy ax ay < 0 /\ 0 < sd cx cy dx dy bx b2)) : Bx ax ay bx b2 X0 Y0 X1 Y1 := by
  obtain ⟨e1, e2, e3⟩ := diagI (ax := ax) (ay := ay) (bx := bx) (b2 := b2) cx cy dx dy
  generalize sd ax ay bx b2 cx cy = p at *
  generalize sd ax ay bx b2 dx dy = q at *
  generalize sd cx cy dx dy ax ay = r at *
  generalize sd cx cy dx dy bx b2 = t at *
  have lt : ∀ k : Int, 0 < k -> ∀ x y : Int, x < y -> k * x < k * y := fun k hk x y h => Int.mul_lt_mul_of_pos_left h hk
  have le : ∀ k : Int, 0 <= k -> ∀ x y : Int, x <= y -> k * x <= k * y := fun k hk x y h => Int.mul_le_mul_of_nonneg_left h hk
  -- the numbers of one coordinate
  have key : ∀ a b c d Z0 Z1 : Int, t * a - r * b = p * d - q * c -> Z0 <= c -> c <= Z1 -> Z0 <= d -> d <= Z1 -> ¬ (max a b < Z0) /\ ¬ (Z1 < min a b) := by
    intro a b c d Z0 Z1 e g1 g2 g3 g4
    have f3 : ∀ Z : Int, t * Z - r * Z = p * Z - q * Z := fun Z => by rw [← Int.sub_mul, ← Int.sub_mul, e3]
    have f0 := f3 Z0
    have f1 := f3 Z1
    rcases hpq with ⟨hp, hq⟩ | ⟨hp, hq⟩
    · have ht : 0 < t /\ r < 0 := by omega
      have u1 := le p (by omega) _ _ g3
      have u2 := le (-q) (by omega) _ _ g1
      have u3 := le p (by omega) _ _ g4
      have u4 := le (-q) (by omega) _ _ g2
      simp only [Int.neg_mul] at u2 u4
      constructor
      · intro h
        have v1 := lt t ht.1 a Z0 (by omega)
        have v2 := lt (-r) (by omega) b Z0 (by omega)
        simp only [Int.neg_mul] at v2
        omega
      · intro h
        have v1 := lt t ht.1 Z1 a (by omega)
        have v2 := lt (-r) (by omega) Z1 b (by omega)
        simp only [Int.neg_mul] at v2
        omega
    · have ht : t < 0 /\ 0 < r := by omega
      have u1 := le (-p) (by omega) _ _ g3
      have u2 := le q (by omega) _ _ g1
      have u3 := le (-p) (by omega) _ _ g4
      have u4 := le q (by omega) _ _ g2
      simp only [Int.neg_mul] at u1 u3
      constructor
      · intro h
        have v1 := lt (-t) (by omega) a Z0 (by omega)
        have v2 := lt r ht.2 b Z0 (by omega)
        simp only [Int.neg_mul] at v1
        omega
      · intro h
        have v1 := lt (-t) (by omega) Z1 a (by omega)
        have v2 := lt r ht.2 Z1 b (by omega)
        simp only [Int.neg_mul] at v1
        omega
  have kx := key ax bx cx dx X0 X1 e1 h1.1 h1.2.1 h2.1 h2.2.1
  have ky := key ay b2 cy dy Y0 Y1 e2 h1.2.2.1 h1.2.2.2 h2.2.2.1 h2.2.2.2
  unfold Bx
  omega
end
end Go.Dx
namespace Go.Dx
open Go.IntKind (i64 u64 u8)
open Go.Sx
noncomputable section
set_option linter.unusedSimpArgs false
theorem out_from (a l h : Int) : F71_0 a l h = !F86_0 a l h := by
  unfold F71_0 F86_0
  by_cases h1 : a < l
  · rw [decide_eq_true h1, decide_eq_false (show ¬ l <= a by omega)]; rfl
  · rw [decide_eq_false h1, decide_eq_true (show l <= a by omega)]
    by_cases h2 : h < a
    · rw [decide_eq_true h2, cond_false, cond_true]; exact decide_eq_false (by omega)
    · rw [decide_eq_false h2, cond_false, cond_true]; exact decide_eq_true (by omega)
theorem exB_congr {n : Nat} {p q : Nat -> Bool} (h : ∀ i, i < n -> p i = q i) : exB n p = exB n q := by
  cases hq : exB n q with
  | true =>
    obtain ⟨i, hi, hp⟩ := exB_iff.1 hq
    exact exB_true i hi (by rw [h i hi]; exact hp)
  | false =>
    refine exB_false fun i hi => ?_
    rw [h i hi]
    cases hp : q i with
    | false => rfl
    | true => rw [exB_true i hi hp] at hq; cases hq
theorem wild_placed (n : Nat) (f : Nat -> List V) : F45_0 n f = !F51 n f := by
  unfold F45_0 F99_0 F133
  rw [idx_geq]
  unfold exB F51
  congr 1
  congr 1
  funext i
  rw [out_from]; rfl
theorem toL_len (s : ByteArray) : ∀ (k i : Nat) (r : List UInt8), s.size - i = k -> (ByteArray.toList.loop s i r).length = r.length + k := by
  intro k
  induction k with
  | zero =>
    intro i r h
    rw [ByteArray.toList.loop]
    have : ¬ i < s.size := by omega
    simp [this]
  | succ k ih =>
    intro i r h
    rw [ByteArray.toList.loop]
    have : i < s.size := by omega
    simp only [this, if_true]
    rw [ih (i + 1) _ (by omega)]
    simp; omega
theorem toL_nil (s : ByteArray) : (s.toList == (⟨#[]⟩ : ByteArray).toList) = decide (s.size = 0) := by
  have e : (⟨#[]⟩ : ByteArray).toList = [] := by decide +kernel
  rw [e]
  have hl : s.toList.length = s.size := by
    unfold ByteArray.toList; rw [toL_len s s.size 0 [] (by omega)]; simp
  by_cases h : s.size = 0
  · rw [decide_eq_true h]
    have : s.toList = [] := List.eq_nil_of_length_eq_zero (by omega)
    rw [this]; rfl
  · rw [decide_eq_false h]
    cases hs : s.toList with
    | nil => rw [hs] at hl; simp at hl; omega
    | cons a l => rfl
theorem dropWhile_nil {α : Type} {p : α -> Bool} : ∀ {l : List α}, l.dropWhile p = [] ↔ ∀ x ∈ l, p x = true
  | [] => by simp
  | a :: l => by
    rw [List.dropWhile_cons]
    cases h : p a with
    | true => simp only [if_true]; rw [dropWhile_nil]; simp [h]
    | false => simp [h]
theorem trim_nil (l cs : List UInt8) : Lib.trimS l cs = [] ↔ ∀ b ∈ l, cs.contains b = true := by
  unfold Lib.trimS Lib.trimLeftS Lib.trimRightS
  rw [dropWhile_nil]
  constructor
  · intro h
    have h1 : l.reverse.dropWhile (cs.contains ·) = [] := by
      cases hd : l.reverse.dropWhile (cs.contains ·) with
      | nil => rfl
      | cons a r =>
        have ha : cs.contains a = true := h a (by rw [hd]; simp)
        have hh := List.head_dropWhile_not (cs.contains ·) (l := l.reverse) (by rw [hd]; simp)
        simp only [hd, List.head_cons] at hh
        rw [ha] at hh; cases hh
    rw [dropWhile_nil] at h1
    exact fun b hb => h1 b (by simpa using hb)
  · intro h b hb
    have : b ∈ l.reverse := by
      have := List.mem_reverse.1 hb
      exact (List.dropWhile_sublist _).subset this
    exact h b (by simpa using this)
def nmB (b : Nat) : Bool := (decide (97 <= b) && decide (b <= 122)) || ((decide (48 <= b) && decide (b <= 57)) || decide (b = 45))
theorem cut_bytes (b : UInt8) : ([97, 98, 99, 100, 101, 102, 103, 104, 105, 106, 107, 108, 109, 110, 111, 112, 113, 114, 115, 116, 117, 118, 119, 120, 121, 122, 48, 49, 50, 51, 52, 53, 54, 55, 56, 57, 45] : List UInt8).contains b = nmB b.toNat := by
  have key : ∀ n : Fin 256, ([97, 98, 99, 100, 101, 102, 103, 104, 105, 106, 107, 108, 109, 110, 111, 112, 113, 114, 115, 116, 117, 118, 119, 120, 121, 122, 48, 49, 50, 51, 52, 53, 54, 55, 56, 57, 45] : List UInt8).contains (UInt8.ofNat n.val) = nmB n.val := by decide +kernel
  have := key ⟨b.toNat, b.toNat_lt⟩
  simpa using this
theorem getD_el {l : List UInt8} {i : Nat} (h : i < l.length) : l.getD i 0 = l[i] := by simp [List.getD, h]
theorem badN_eq (s : ByteArray) (i : Nat) : (!badN s i) = (nmB (s.data.toList.getD i 0).toNat && (decide (0 < i) || (decide (97 <= (s.data.toList.getD i 0).toNat) && decide ((s.data.toList.getD i 0).toNat <= 122)))) := by
  unfold badN nmB
  generalize (s.data.toList.getD i 0).toNat = b
  rw [Bool.eq_iff_iff]
  simp only [Bool.cond_eq_ite, Bool.not_eq_true', Bool.and_eq_true, Bool.or_eq_true, decide_eq_true_eq]
  split <;> split <;> (try split) <;> simp_all <;> omega
theorem name_eq (s : ByteArray) : F114_0 s = F122 s := by
  unfold F114_0 F122
  rw [toL_nil]
  have hsz : s.size = s.data.toList.length := by rw [Array.length_toList]; rfl
  by_cases h0 : s.size = 0
  · rw [decide_eq_true h0, h0]; rfl
  rw [decide_eq_false h0]
  have e0 : decide (0 < (s.size : Int)) = true := decide_eq_true (by omega)
  rw [e0]
  by_cases h24 : (s.size : Int) <= 24
  case neg => rw [decide_eq_false h24]; simp
  rw [decide_eq_true h24]
  simp only [Bool.not_false, cond_true, Bool.and_true]
  rw [toL_nil]
  rw [Bool.eq_iff_iff]
  have ht : (F146 s (ByteArray.mk (Array.mk [97, 98, 99, 100, 101, 102, 103, 104, 105, 106, 107, 108, 109, 110, 111, 112, 113, 114, 115, 116, 117, 118, 119, 120, 121, 122, 48, 49, 50, 51, 52, 53, 54, 55, 56, 57, 45]))).size = 0 ↔ ∀ b ∈ s.data.toList, nmB b.toNat = true := by
    rw [show (F146 s (ByteArray.mk (Array.mk [97, 98, 99, 100, 101, 102, 103, 104, 105, 106, 107, 108, 109, 110, 111, 112, 113, 114, 115, 116, 117, 118, 119, 120, 121, 122, 48, 49, 50, 51, 52, 53, 54, 55, 56, 57, 45]))).size = (Lib.trimS s.data.toList [97, 98, 99, 100, 101, 102, 103, 104, 105, 106, 107, 108, 109, 110, 111, 112, 113, 114, 115, 116, 117, 118, 119, 120, 121, 122, 48, 49, 50, 51, 52, 53, 54, 55, 56, 57, 45]).length from by simp [F146, ByteArray.size]]
    rw [List.length_eq_zero_iff, trim_nil]
    constructor
    · intro h b hb; rw [← cut_bytes]; exact h b hb
    · intro h b hb; rw [cut_bytes]; exact h b hb
  have hb : allB s.size (fun i => !badN s i) = true ↔ (∀ b ∈ s.data.toList, nmB b.toNat = true) /\ 97 <= (s.data.toList.getD 0 0).toNat /\ (s.data.toList.getD 0 0).toNat <= 122 := by
    rw [allB_true]
    constructor
    · intro h
      refine ⟨fun b hb => ?_, ?_⟩
      · obtain ⟨i, hi, rfl⟩ := List.getElem_of_mem hb
        have := h i (by omega)
        rw [badN_eq, Bool.and_eq_true] at this
        rw [getD_el hi] at this
        exact this.1
      · have := h 0 (by omega)
        rw [badN_eq] at this
        simp only [Bool.and_eq_true, Bool.or_eq_true, decide_eq_true_eq] at this
        rcases this.2 with h1 | h1
        · omega
        · exact h1
    · rintro ⟨h1, h2, h3⟩ i hi
      rw [badN_eq]
      have hi' : i < s.data.toList.length := by omega
      rw [h1 _ (by rw [getD_el hi']; exact List.getElem_mem hi')]
      by_cases hz : i = 0
      · subst hz; rw [decide_eq_true h2, decide_eq_true h3]; rfl
      · simp; omega
  rw [hb, ← ht]
  cases hd : decide ((F146 s (ByteArray.mk (Array.mk [97, 98, 99, 100, 101, 102, 103, 104, 105, 106, 107, 108, 109, 110, 111, 112, 113, 114, 115, 116, 117, 118, 119, 120, 121, 122, 48, 49, 50, 51, 52, 53, 54, 55, 56, 57, 45]))).size = 0) with
  | false =>
    have := of_decide_eq_false hd
    simp [this]
  | true =>
    have := of_decide_eq_true hd
    simp only [cond_true, this, true_and]
    rw [show s.data.1.getD 0 0 = s.data.toList.getD 0 0 from rfl]
    generalize (s.data.toList.getD 0 0).toNat = b
    by_cases g : 97 <= b
    · rw [decide_eq_true (show (97 : Int) <= (b : Int) by omega)]
      simp only [cond_true, decide_eq_true_eq]; omega
    · rw [decide_eq_false (show ¬ (97 : Int) <= (b : Int) by omega)]
      simp; omega
end
end Go.Dx
namespace Go.Dx
open Go.IntKind (i64 u64 u8)
open Go.Sx
noncomputable section
set_option linter.unusedSimpArgs false
theorem pt_wild (x y : Int) : F113_0 x y = !ptOk x y := by unfold F113_0 ptOk; exact wild_placed _ _
theorem dup_eq (n : Nat) (f : Nat -> List V) (s : ByteArray) : F90_0 n f s = exB n fun k => (sv (hdV (f k))).toList == s.toList := by
  unfold F90_0 F129; rw [idx_geq]; rfl
theorem dupC_eq (n : Nat) (f : Nat -> List V) (s : ByteArray) : F121_0 n f s = exB n fun k => (sv (hdV (f k))).toList == s.toList := by
  unfold F121_0 F149; rw [idx_geq]; rfl
theorem far_eq (n : Nat) (f : Nat -> List V) : F115_0 n f = exB n fun i => !ptOk (iv (hdV (f i))) (iv (hdV (tlV (f i)))) := by
  unfold F115_0 F147; rw [idx_geq]; exact exB_congr fun i _ => pt_wild _ _
theorem road_eq (n0 : Nat) (f0 : FnV) (i : Nat) : c62 n0 (elV tyR f0) i = cR n0 f0 i := by
  unfold c62 cR F63 F70 roadE
  rw [name_eq, dup_eq, far_eq]
  simp only [Int.toNat_natCast, Nat.sub_zero, Nat.zero_add, out_from, Bool.not_not]
  rfl
theorem tree_eq (n2 : Nat) (f2 : FnV) (i : Nat) : c64 n2 (elV tyT f2) i = cT f2 i := by
  show F65_0 (iv (hdV (f2 i))) (iv (hdV (tlV (f2 i)))) (iv (hdV (tlV (tlV (f2 i))))) (iv (hdV (tlV (tlV (tlV (f2 i)))))) (iv (hdV (tlV (tlV (tlV (tlV (f2 i))))))) = _
  unfold cT F65_0 treeE
  rw [wild_placed]
  show (bif !!ptOk _ _ then _ else _) = _
  generalize ptOk _ _ = p
  generalize iv (hdV (tlV (tlV (f2 i)))) = a
  generalize iv (hdV (tlV (tlV (tlV (f2 i))))) = z
  generalize iv (hdV (tlV (tlV (tlV (tlV (f2 i)))))) = w
  cases p
  · rfl
  · simp only [Bool.not_true, Bool.not_false, cond_true]
    rw [out_from]
    cases ha : F86_0 a 1 20000
    · simp only [Bool.not_false, Bool.not_true, cond_true, cond_false]
      by_cases hw : 1 <= w /\ w <= 1000
      · have e : F86_0 w 1 1000 = false := by unfold F86_0; rw [decide_eq_false (by omega), cond_false]; exact decide_eq_false (by omega)
        rw [e, wrapI (by omega) (by omega)]
        unfold F86_0
        by_cases hz : z < 0
        · rw [decide_eq_true hz]; rfl
        · rw [decide_eq_false hz]
          by_cases hz2 : w <= z
          · rw [decide_eq_true (show w - 1 < z by omega), decide_eq_true hz2]; rfl
          · rw [decide_eq_false (show ¬ w - 1 < z by omega), decide_eq_false hz2, decide_eq_false (show ¬ 1000 < w by omega)]; rfl
      · have e : F86_0 w 1 1000 = true := by
          unfold F86_0
          by_cases h1 : w < 1
          · rw [decide_eq_true h1]; rfl
          · rw [decide_eq_false h1, cond_false]; exact decide_eq_true (by omega)
        rw [e]
        have : (bif bif decide (z < 0) then true else decide (w <= z) then true else decide (1000 < w)) = true := by
          by_cases hz : z < 0
          · rw [decide_eq_true hz]; rfl
          · rw [decide_eq_false hz, cond_false]
            by_cases h2 : w <= z
            · rw [decide_eq_true h2]; rfl
            · rw [decide_eq_false h2, cond_false]; exact decide_eq_true (by omega)
        rw [this]
        cases !F86_0 z 0 (i64.wrap (w - 1)) <;> rfl
    · rfl
theorem wnd_eq (x0 x1 x2 x3 : Int) : F118_0 x0 x1 x2 x3 = bif bif bif bif bif decide (x0 < 0) then true else decide (x1 <= x0) then true else decide (1000 < x1) then true else decide (x2 < 0) then true else decide (x3 <= x2) then true else decide (1000 < x3) := by
  have key : ∀ a b : Int, ((bif !F86_0 b 1 1000 then F86_0 a 0 (i64.wrap (b - 1)) else true) = true) ↔ (a < 0 ∨ b <= a ∨ 1000 < b) := by
    intro a b
    unfold F86_0
    by_cases h1 : b < 1
    · rw [decide_eq_true h1]; simp; omega
    · rw [decide_eq_false h1]
      by_cases h2 : 1000 < b
      · rw [decide_eq_true h2]; simp; omega
      · rw [decide_eq_false h2, wrapI (by omega) (by omega)]
        simp only [cond_false, Bool.not_false, cond_true, Bool.cond_eq_ite]
        split <;> simp_all <;> omega
  have e1 := key x0 x1
  have e2 := key x2 x3
  have : F118_0 x0 x1 x2 x3 = (bif !(bif !F86_0 x1 1 1000 then F86_0 x0 0 (i64.wrap (x1 - 1)) else true) then (bif !F86_0 x3 1 1000 then F86_0 x2 0 (i64.wrap (x3 - 1)) else true) else true) := by
    unfold F118_0
    cases F86_0 x1 1 1000 <;> cases F86_0 x0 0 (i64.wrap (x1 - 1)) <;> rfl
  rw [this]
  generalize (bif !F86_0 x1 1 1000 then F86_0 x0 0 (i64.wrap (x1 - 1)) else true) = p at e1 ⊢
  generalize (bif !F86_0 x3 1 1000 then F86_0 x2 0 (i64.wrap (x3 - 1)) else true) = q at e2 ⊢
  rw [Bool.eq_iff_iff]
  simp only [Bool.cond_eq_ite]
  cases p <;> cases q <;> simp_all <;> omega
theorem front_eq (n4 : Nat) (f4 : FnV) (i : Nat) : c66 n4 (elV tyF f4) i = cF f4 i := by
  show F67_0 (iv (hdV (f4 i))) (iv (hdV (tlV (f4 i)))) (iv (hdV (tlV (tlV (f4 i))))) (iv (hdV (tlV (tlV (tlV (f4 i)))))) (lenV (hdV (tlV (tlV (tlV (tlV (f4 i))))))) (fun j => views tp4 (atV (hdV (tlV (tlV (tlV (tlV (f4 i)))))) j)) = _
  unfold cF F67_0 F72
  rw [wild_placed]
  have : ∀ n (f : Nat -> List V), F119_0 n f = exB n fun j => badW (f j) := by
    intro n f
    unfold F119_0 F148; rw [idx_geq]
    exact exB_congr fun j _ => by rw [wnd_eq]; rfl
  rw [this]
  rfl
theorem colx (p q r t : Bool) (B : Int) : (bif p then bif !q then bif !r then bif t then 7 else B else 7 else 7 else 7) = (bif bif bif bif !p then true else q then true else r then true else t then 7 else B) := by
  cases p <;> cases q <;> cases r <;> cases t <;> rfl
theorem col_eq (n6 : Nat) (f6 : FnV) (i : Nat) : c68 n6 (elV tyC f6) i = cC n6 f6 i := by
  unfold c68 cC F69_0 F73
  rw [name_eq, dupC_eq, wild_placed]
  simp only [Int.toNat_natCast, Nat.sub_zero, Nat.zero_add]
  unfold colE
  simp only [out_from, Bool.not_not]
  rw [colx]
  rfl
theorem first_congr {n : Nat} {c d : Nat -> Int} (h : ∀ i, c i = d i) : firstI n c = firstI n d /\ firstE n c = firstE n d := by
  have : c = d := funext h
  rw [this]; exact ⟨rfl, rfl⟩
theorem check_eq (n0 : Nat) (f0 : FnV) (n2 : Nat) (f2 : FnV) (n4 : Nat) (f4 : FnV) (n6 : Nat) (f6 : FnV) :
    (F23_0 n0 f0 n2 f2 n4 f4 n6 f6, F23_1 n0 f0 n2 f2 n4 f4 n6 f6, F23_2 n0 f0 n2 f2 n4 f4 n6 f6) = F24 n0 f0 n2 f2 n4 f4 n6 f6 := by
  unfold F23_0 F23_1 F23_2 F24 long z1 z2 z3 r24 F62_0 F62_1 F64_0 F64_1 F66_0 F66_1 F68_0 F68_1
  rw [(first_congr (road_eq n0 f0)).1, (first_congr (road_eq n0 f0)).2, (first_congr (tree_eq n2 f2)).1, (first_congr (tree_eq n2 f2)).2, (first_congr (front_eq n4 f4)).1, (first_congr (front_eq n4 f4)).2, (first_congr (col_eq n6 f6)).1, (first_congr (col_eq n6 f6)).2]
  cases (bif bif bif decide (8 < (n0 : Int)) then true else decide (12 < (n2 : Int)) then true else decide (8 < (n4 : Int)) then true else decide (24 < (n6 : Int)))
  · simp only [cond_false]
    cases h1 : firstE n0 (cR n0 f0) != 0
    · simp only [cond_false]
      cases h2 : firstE n2 (cT f2) != 0
      · simp only [cond_false]
        cases h3 : firstE n4 (cF f4) != 0
        · simp only [cond_false]
          cases h4 : firstE n6 (cC n6 f6) != 0
          · rfl
          · rfl
        · rfl
      · rfl
    · rfl
  · rfl
end
end Go.Dx
namespace Go.Dx
open Go.IntKind (i64 u64 u8)
open Go.Sx
noncomputable section
set_option linter.unusedSimpArgs false
theorem elV2 (ts : List Ty) (f : Nat -> List V) : elV ts (elV ts f) = elV ts f := by
  funext i; exact views_idem ts _
theorem firstE_zero {n : Nat} {c : Nat -> Int} (h : firstE n c = 0) : ∀ i, i < n -> c i = 0 := by
  unfold firstE at h
  rcases idx_ex (n := n) (p := fun i => c i != 0) with ⟨_, h2⟩ | ⟨j, h1, h2, h3, _⟩
  · intro i hi
    have := h2 i hi
    simpa using this
  · rw [h2] at h
    have : ((j : Int) == -1) = false := by rw [beq_eq_false_iff_ne]; omega
    rw [this, cond_false, Int.toNat_natCast] at h
    rw [h] at h3; cases h3
section
variable {n0 : Nat} {f0 : Nat -> List V} {n2 : Nat} {f2 : Nat -> List V} {n4 : Nat} {f4 : Nat -> List V} {n6 : Nat} {f6 : Nat -> List V} {i j m l : Int}
structure Valid (n0 : Nat) (f0 : FnV) (n2 : Nat) (f2 : FnV) (n4 : Nat) (f4 : FnV) (n6 : Nat) (f6 : FnV) : Prop where
  l0 : n0 <= 8
  l2 : n2 <= 12
  l4 : n4 <= 8
  l6 : n6 <= 24
  rd : ∀ i, i < n0 -> cR n0 f0 i = 0
  tr : ∀ i, i < n2 -> cT f2 i = 0
  fr : ∀ i, i < n4 -> cF f4 i = 0
  cl : ∀ i, i < n6 -> cC n6 f6 i = 0
theorem r24_zero {n : Nat} {c : Nat -> Int} {k : Int} {z : Int × Int × Int} (h : (r24 n c k z).2.2 = 0) : (∀ i, i < n -> c i = 0) /\ z.2.2 = 0 := by
  unfold r24 at h
  cases hb : firstE n c != 0 with
  | true => rw [hb] at h; simp only [cond_true] at h; rw [h] at hb; cases hb
  | false =>
    rw [hb] at h
    exact ⟨firstE_zero (by simpa using hb), h⟩
theorem valid (h : F24_2 n0 f0 n2 f2 n4 f4 n6 f6 = 0) : Valid n0 f0 n2 f2 n4 f4 n6 f6 := by
  unfold F24_2 F24 at h
  cases hl : long n0 f0 n2 f2 n4 f4 n6 f6 with
  | true => rw [hl] at h; cases h
  | false =>
    rw [hl, cond_false] at h
    obtain ⟨h1, h⟩ := r24_zero h
    unfold z1 at h
    obtain ⟨h2, h⟩ := r24_zero h
    unfold z2 at h
    obtain ⟨h3, h⟩ := r24_zero h
    unfold z3 at h
    obtain ⟨h4, _⟩ := r24_zero h
    unfold long at hl
    simp only [Bool.cond_eq_ite, Bool.ite_eq_false_distrib] at hl
    have : n0 <= 8 /\ n2 <= 12 /\ n4 <= 8 /\ n6 <= 24 := by
      refine ⟨?_, ?_, ?_, ?_⟩ <;> (apply Classical.byContradiction; intro hn) <;> simp_all <;> omega
    exact ⟨this.1, this.2.1, this.2.2.1, this.2.2.2, h1, h2, h3, h4⟩
def bad1 (i m : Int) : Bool := bif decide (i < 0) then true else decide (m <= i)
def ix1 (e i m : Int) : Int := bif e == 0 then (bif bad1 i m then 4 else 0) else e
def ix2 (e i m j l : Int) : Int := bif e == 0 then (bif bif bad1 i m then true else bad1 j l then 4 else 0) else e
theorem F23_24 : F23_2 n0 f0 n2 f2 n4 f4 n6 f6 = F24_2 n0 f0 n2 f2 n4 f4 n6 f6 := congrArg (fun t => t.2.2) (check_eq n0 f0 n2 f2 n4 f4 n6 f6)
theorem out_bad {i : Int} {m : Nat} (hm : m <= 9223372036854775807) : F86_0 i 0 (i64.wrap ((m : Int) - 1)) = bad1 i m := by
  unfold F86_0 bad1
  rw [wrapI (by omega) (by omega)]
  by_cases h : i < 0
  · rw [decide_eq_true h]; rfl
  · rw [decide_eq_false h, cond_false, cond_false]
    by_cases g : (m : Int) <= i
    · rw [decide_eq_true g]; exact decide_eq_true (by omega)
    · rw [decide_eq_false g]; exact decide_eq_false (by omega)
theorem chk2 {i : Int} {m : Nat} (hm : F24_2 n0 (elV tyR f0) n2 (elV tyT f2) n4 (elV tyF f4) n6 (elV tyC f6) = 0 -> m <= 9223372036854775807) :
    F44 n0 (elV tyR f0) n2 (elV tyT f2) n4 (elV tyF f4) n6 (elV tyC f6) 2 (elV tp1 (secF [vi i, vi m] 0 1)) = ix1 (F24_2 n0 (elV tyR f0) n2 (elV tyT f2) n4 (elV tyF f4) n6 (elV tyC f6)) i m := by
  unfold F44 outs ix1
  simp only [elV2, F23_24]
  cases he : F24_2 n0 (elV tyR f0) n2 (elV tyT f2) n4 (elV tyF f4) n6 (elV tyC f6) == 0 with
  | false => rfl
  | true =>
    rw [cond_true, cond_true]
    have := hm (eq_of_beq he)
    rw [← out_bad this]
    show (bif !(true && !F86_0 i 0 (i64.wrap ((m : Int) - 1))) then _ else _) = _
    rw [Bool.true_and, Bool.not_not]
theorem chk4 {i j : Int} {m l : Nat} (hm : F24_2 n0 (elV tyR f0) n2 (elV tyT f2) n4 (elV tyF f4) n6 (elV tyC f6) = 0 -> m <= 9223372036854775807 /\ l <= 9223372036854775807) :
    F44 n0 (elV tyR f0) n2 (elV tyT f2) n4 (elV tyF f4) n6 (elV tyC f6) 4 (elV tp1 (secF [vi i, vi m, vi j, vi l] 0 1)) = ix2 (F24_2 n0 (elV tyR f0) n2 (elV tyT f2) n4 (elV tyF f4) n6 (elV tyC f6)) i m j l := by
  unfold F44 outs ix2
  simp only [elV2, F23_24]
  cases he : F24_2 n0 (elV tyR f0) n2 (elV tyT f2) n4 (elV tyF f4) n6 (elV tyC f6) == 0 with
  | false => rfl
  | true =>
    rw [cond_true, cond_true]
    have := hm (eq_of_beq he)
    rw [← out_bad this.1, ← out_bad this.2]
    show (bif !((true && !F86_0 i 0 (i64.wrap ((m : Int) - 1))) && !F86_0 j 0 (i64.wrap ((l : Int) - 1))) then _ else _) = _
    cases F86_0 i 0 (i64.wrap ((m : Int) - 1)) <;> cases F86_0 j 0 (i64.wrap ((l : Int) - 1)) <;> rfl
theorem chk50 {i m : Int} : F50_0 n0 (elV tyR f0) n2 (elV tyT f2) n4 (elV tyF f4) n6 (elV tyC f6) i m = ix1 (F24_2 n0 (elV tyR f0) n2 (elV tyT f2) n4 (elV tyF f4) n6 (elV tyC f6)) i m := by
  unfold F50_0 F91_0 ix1 bad1
  simp only [elV2]
  generalize F24_2 n0 (elV tyR f0) n2 (elV tyT f2) n4 (elV tyF f4) n6 (elV tyC f6) = e
  by_cases he : e = 0
  · subst he
    cases (bif decide (i < 0) then true else decide (m <= i)) <;> rfl
  · rw [show (e == 0) = false from by simpa using he]; rfl
end
end
end Go.Dx
namespace Go.Dx
open Go.IntKind (i64 u64 u8)
open Go.Sx
noncomputable section
set_option linter.unusedSimpArgs false
theorem ediv_q {n d q r : Int} (hd : 0 < d) (h : n = d * q + r) (h1 : 0 <= r) (h2 : r < d) : n / d = q := by
  rw [h, Int.add_comm, Int.add_mul_ediv_left _ _ (by omega), Int.ediv_eq_zero_of_lt h1 h2]; omega
theorem ediv_bd {n d B : Int} (hd : 0 < d) (h1 : -B <= n) (h2 : n <= B) : -B <= n / d /\ n / d <= B := by
  constructor
  · have : -B <= n / d ↔ -B * d <= n := Int.le_ediv_iff_mul_le hd
    rw [this]
    by_cases hB : 0 <= B
    · have : B * 1 <= B * d := Int.mul_le_mul_of_nonneg_left (by omega) hB
      have e : -B * d = -(B * d) := Int.neg_mul _ _
      omega
    · omega
  · have hB : 0 <= B := by omega
    have : n / d < B + 1 ↔ n < (B + 1) * d := Int.ediv_lt_iff_lt_mul hd
    have h3 : (B + 1) * 1 <= (B + 1) * d := Int.mul_le_mul_of_nonneg_left (by omega) (by omega)
    have := this.2 (by omega)
    omega
theorem down_p {n d : Int} (hd : 0 < d) (hd2 : d <= 1000000000) (h1 : -1000000000000 <= n) (h2 : n <= 1000000000000) : F81_0 n d = n / d := by
  have hb := ediv_bd hd h1 h2
  unfold F81_0
  by_cases hn : n < 0
  · rw [decide_eq_true hn, cond_true, wrapI (x := d - 1) (by omega) (by omega), wrapI (x := d - 1 - n) (by omega) (by omega), Int.tdiv_eq_ediv_of_nonneg (by omega)]
    have e := Int.mul_ediv_add_emod n d
    have r1 := Int.emod_nonneg n (by omega : d ≠ 0)
    have r2 := Int.emod_lt_of_pos n hd
    have : (d - 1 - n) / d = -(n / d) := ediv_q (r := d - 1 - n % d) hd (by have : d * -(n / d) = -(d * (n / d)) := Int.mul_neg _ _; omega) (by omega) (by omega)
    rw [this, wrapI (x := -(n / d)) (by omega) (by omega), wrapI (by omega) (by omega)]; omega
  · rw [decide_eq_false hn, cond_false, Int.tdiv_eq_ediv_of_nonneg (by omega), wrapI (by omega) (by omega)]
theorem down_r {n d : Int} (hd : 0 < d) (hd2 : d <= 1000000000) (h1 : -1000000000000 <= n) (h2 : n <= 1000000000000) : F88_0 n d = n / d := by
  have hb := ediv_bd hd h1 h2
  unfold F88_0
  by_cases hn : n < 0
  · rw [decide_eq_true hn, cond_true]
    have e := Int.mul_ediv_add_emod n d
    have r1 := Int.emod_nonneg n (by omega : d ≠ 0)
    have r2 := Int.emod_lt_of_pos n hd
    have ht : n.tdiv d = -((-n) / d) := by
      have : n = -(-n) := by omega
      rw [this, Int.neg_tdiv, Int.tdiv_eq_ediv_of_nonneg (by omega)]; simp
    have hm : n.tmod d = n - d * n.tdiv d := Int.tmod_def n d
    by_cases hr : n % d = 0
    · have hq : (-n) / d = -(n / d) := ediv_q (r := 0) hd (by have : d * -(n / d) = -(d * (n / d)) := Int.mul_neg _ _; omega) (by omega) (by omega)
      have ht' : n.tdiv d = n / d := by rw [ht, hq]; omega
      have hm0 : n.tmod d = 0 := by rw [hm, ht']; omega
      rw [hm0, ht']
      exact wrapI (by omega) (by omega)
    · have h0 : d * (-(n / d) - 1) = -(d * (n / d)) - d := by rw [Int.mul_sub, Int.mul_neg]; omega
      have hq : (-n) / d = -(n / d) - 1 := ediv_q (r := d - n % d) hd (by omega) (by omega) (by omega)
      have ht' : n.tdiv d = n / d + 1 := by rw [ht, hq]; omega
      have hm0 : (n.tmod d != 0) = true := by
        rw [bne_iff_ne, hm, ht', Int.mul_add]; omega
      rw [hm0, ht', cond_true]
      have hb1 : n / d < 0 := by
        have := ediv_bd (n := n) hd h1 h2
        rw [Int.ediv_lt_iff_lt_mul hd]; omega
      rw [wrapI (x := n / d + 1) (by omega) (by omega), wrapI (by omega) (by omega)]; omega
  · rw [decide_eq_false hn, cond_false, cond_false, Int.tdiv_eq_ediv_of_nonneg (by omega), wrapI (by omega) (by omega)]
theorem mulB {x p A B : Int} (h1 : -A <= x) (h2 : x <= A) (h3 : 0 <= p) (h4 : p <= B) : -(A * B) <= x * p /\ x * p <= A * B := by
  have hA : 0 <= A := by omega
  have a1 : x * p <= A * p := Int.mul_le_mul_of_nonneg_right h2 h3
  have a2 : A * p <= A * B := Int.mul_le_mul_of_nonneg_left h4 hA
  have a3 : -A * p <= x * p := Int.mul_le_mul_of_nonneg_right h1 h3
  rw [Int.neg_mul] at a3
  exact ⟨by omega, by omega⟩
theorem from_in {a l h : Int} (hf : F71_0 a l h = true) : l <= a /\ a <= h := by
  unfold F71_0 at hf
  by_cases h1 : l <= a
  · rw [decide_eq_true h1, cond_true] at hf; exact ⟨h1, of_decide_eq_true hf⟩
  · rw [decide_eq_false h1] at hf; cases hf
theorem front_in {f4 : Nat -> List V} {i : Nat} (h : cF f4 i = 0) :
    (∀ x, x ∈ [iv (hdV (f4 i)), iv (hdV (tlV (f4 i))), iv (hdV (tlV (tlV (f4 i)))), iv (hdV (tlV (tlV (tlV (f4 i)))))] -> -100000 <= x /\ x <= 100000) /\ lenV (hdV (tlV (tlV (tlV (tlV (f4 i)))))) <= 6 /\ ∀ j, j < lenV (hdV (tlV (tlV (tlV (tlV (f4 i)))))) -> badW (views tp4 (atV (hdV (tlV (tlV (tlV (tlV (f4 i)))))) j)) = false := by
  unfold cF F72 at h
  generalize iv (hdV (f4 i)) = a at h ⊢
  generalize iv (hdV (tlV (f4 i))) = b at h ⊢
  generalize iv (hdV (tlV (tlV (f4 i)))) = c at h ⊢
  generalize iv (hdV (tlV (tlV (tlV (f4 i))))) = d at h ⊢
  generalize lenV (hdV (tlV (tlV (tlV (tlV (f4 i)))))) = n at h ⊢
  generalize hdV (tlV (tlV (tlV (tlV (f4 i))))) = w at h ⊢
  cases hp : F51 4 (elV tp1 (secF [V.int .i64 a, V.int .i64 b, V.int .i64 c, V.int .i64 d] 0 ((1 + 1 + 1 + 1 - 0) / 4))) with
  | false => rw [hp] at h; cases h
  | true =>
    rw [hp, Bool.not_true, cond_false] at h
    cases he : (a == c && (b == d && true)) with
    | true => rw [he] at h; cases h
    | false =>
      rw [he, cond_false] at h
      by_cases hn : 6 < (n : Int)
      · rw [decide_eq_true hn] at h; cases h
      · rw [decide_eq_false hn, cond_false] at h
        cases hw : exB n (fun j => badW (views tp4 (atV w j))) with
        | true => rw [hw] at h; cases h
        | false =>
          unfold F51 at hp
          have h0 := from_in (allB_ok hp 0 (by omega))
          have h1 := from_in (allB_ok hp 1 (by omega))
          have h2 := from_in (allB_ok hp 2 (by omega))
          have h3 := from_in (allB_ok hp 3 (by omega))
          refine ⟨fun x hx => ?_, by omega, fun j hj => ?_⟩
          · simp only [List.mem_cons, List.not_mem_nil, or_false] at hx
            rcases hx with rfl | rfl | rfl | rfl
            · exact h0
            · exact h1
            · exact h2
            · exact h3
          · cases hb : badW (views tp4 (atV w j)) with
            | false => rfl
            | true => rw [exB_true j hj hb] at hw; cases hw
end
end Go.Dx
namespace Go.Dx
open Go.IntKind (i64 u64 u8)
open Go.Sx
noncomputable section
set_option linter.unusedVariables false
set_option linter.unusedSimpArgs false
section
variable {ax ay bx b2 px py r : Int}
theorem sd_p (h1 : sm ax) (h2 : sm ay) (h3 : sm bx) (h4 : sm b2) (h5 : sm px) (h6 : sm py) : F127_0 (F84_0 bx ax) (F84_1 b2 ay) (F84_0 px ax) (F84_1 py ay) = sd ax ay bx b2 px py /\ -4611686018427387904 <= sd ax ay bx b2 px py /\ sd ax ay bx b2 px py <= 4611686018427387904 := by
  unfold sm at *
  unfold sd F127_0 F84_0 F84_1
  rw [wrapI (x := bx - ax) (by omega) (by omega), wrapI (x := b2 - ay) (by omega) (by omega), wrapI (x := px - ax) (by omega) (by omega), wrapI (x := py - ay) (by omega) (by omega)]
  have c1 := mulS (x := bx - ax) (y := py - ay) (A := 1073741824) (B := 1073741824) (by omega) (by omega) (by omega) (by omega)
  have c2 := mulS (x := b2 - ay) (y := px - ax) (A := 1073741824) (B := 1073741824) (by omega) (by omega) (by omega) (by omega)
  rw [wrapI (x := (bx - ax) * (py - ay)) (by omega) (by omega), wrapI (x := (b2 - ay) * (px - ax)) (by omega) (by omega), wrapI (by omega) (by omega)]
  exact ⟨rfl, by omega, by omega⟩
theorem near_on (hr : 0 <= r) (hb : Btw px py ax ay bx b2) (hf : sd ax ay bx b2 px py = 0) : nr ax ay bx b2 px py r = true := by
  unfold sd at hf
  unfold Btw at hb
  unfold nr
  have hr0 : 0 <= r * r := Int.mul_nonneg hr hr
  have q : ∀ a b p : Int, min a b <= p -> p <= max a b -> 0 <= (p - a) * (b - a) /\ (p - a) * (b - a) <= (b - a) * (b - a) /\ ((p - a) * (b - a) = 0 -> p - a = 0 ) /\ ((p - a) * (b - a) = (b - a) * (b - a) -> p - b = 0) := by
    intro a b p h1 h2
    have s : 0 <= (p - a) * (b - a) /\ 0 <= (b - p) * (b - a) := by
      by_cases h : a <= b
      · exact ⟨Int.mul_nonneg (by omega) (by omega), Int.mul_nonneg (by omega) (by omega)⟩
      · constructor
        · rw [← Int.neg_mul_neg]; exact Int.mul_nonneg (by omega) (by omega)
        · rw [← Int.neg_mul_neg]; exact Int.mul_nonneg (by omega) (by omega)
    have e : (b - p) * (b - a) = (b - a) * (b - a) - (p - a) * (b - a) := by grind
    refine ⟨s.1, by omega, fun h => ?_, fun h => ?_⟩
    · rcases Int.mul_eq_zero.1 h with h | h <;> omega
    · have : (b - p) * (b - a) = 0 := by omega
      rcases Int.mul_eq_zero.1 this with h | h <;> omega
  obtain ⟨x1, x2, x3, x4⟩ := q ax bx px hb.1 hb.2.1
  obtain ⟨y1, y2, y3, y4⟩ := q ay b2 py hb.2.2.1 hb.2.2.2
  by_cases h1 : (px - ax) * (bx - ax) + (py - ay) * (b2 - ay) <= 0
  · rw [decide_eq_true h1, cond_true, x3 (by omega), y3 (by omega)]
    exact decide_eq_true (by omega)
  · rw [decide_eq_false h1, cond_false]
    by_cases h2 : (bx - ax) * (bx - ax) + (b2 - ay) * (b2 - ay) <= (px - ax) * (bx - ax) + (py - ay) * (b2 - ay)
    · rw [decide_eq_true h2, cond_true, x4 (by omega), y4 (by omega)]
      exact decide_eq_true (by omega)
    · rw [decide_eq_false h2, cond_false, hf]
      have : 0 <= r * r * ((bx - ax) * (bx - ax) + (b2 - ay) * (b2 - ay)) := Int.mul_nonneg hr0 (by have := sqN (bx - ax); have := sqN (b2 - ay); omega)
      exact decide_eq_true (by omega)
theorem sg_cases (n : Int) : (F144_0 n = 0 /\ n = 0) ∨ (F144_0 n = 1 /\ 0 < n) ∨ (F144_0 n = -1 /\ n < 0) := by unfold F144_0; omega
theorem btw_b (px py ax ay bx b2 : Int) : F171_0 px py ax ay bx b2 = true ↔ Btw px py ax ay bx b2 := by
  unfold F171_0 F71_0 Btw
  simp only [Bool.cond_eq_ite, decide_eq_true_eq]
  split <;> (try split) <;> simp_all <;> omega
theorem btw_f {px py ax ay bx b2 : Int} (h : ¬ Btw px py ax ay bx b2) : F171_0 px py ax ay bx b2 = false := by
  cases hb : F171_0 px py ax ay bx b2 with
  | false => rfl
  | true => exact (h ((btw_b _ _ _ _ _ _).1 hb)).elim
theorem crs0 (p q u t : Int) : (bif decide (i64.wrap (F144_0 p * F144_0 q) < 0) then decide (i64.wrap (F144_0 u * F144_0 t) < 0) else false) = true ↔ (((0 < p /\ q < 0) ∨ (p < 0 /\ 0 < q)) /\ ((0 < u /\ t < 0) ∨ (u < 0 /\ 0 < t))) := by
  have k : ∀ a b : Int, (i64.wrap (F144_0 a * F144_0 b) < 0) ↔ ((0 < a /\ b < 0) ∨ (a < 0 /\ 0 < b)) := by
    intro a b
    rcases sg_cases a with ⟨h, h0⟩ | ⟨h, h0⟩ | ⟨h, h0⟩ <;> rcases sg_cases b with ⟨g, g0⟩ | ⟨g, g0⟩ | ⟨g, g0⟩ <;> rw [h, g, wrapI (by decide) (by decide)] <;> omega
  rw [← k p q, ← k u t]
  by_cases h : i64.wrap (F144_0 p * F144_0 q) < 0
  · rw [decide_eq_true h, cond_true, decide_eq_true_eq]; exact ⟨fun g => ⟨h, g⟩, fun g => g.2⟩
  · rw [decide_eq_false h, cond_false]; exact ⟨(fun g => by cases g), fun g => (h g.1).elim⟩
theorem crs {cx cy dx dy : Int} (h1 : sm ax) (h2 : sm ay) (h3 : sm bx) (h4 : sm b2) (h5 : sm cx) (h6 : sm cy) (h7 : sm dx) (h8 : sm dy)
    (n1 : ¬ (sd ax ay bx b2 cx cy = 0 /\ Btw cx cy ax ay bx b2)) (n2 : ¬ (sd ax ay bx b2 dx dy = 0 /\ Btw dx dy ax ay bx b2)) (n3 : ¬ Btw ax ay cx cy dx dy) (n4 : ¬ Btw bx b2 cx cy dx dy) :
    F151 ax ay bx b2 cx cy dx dy = true ↔ (((0 < sd ax ay bx b2 cx cy /\ sd ax ay bx b2 dx dy < 0) ∨ (sd ax ay bx b2 cx cy < 0 /\ 0 < sd ax ay bx b2 dx dy)) /\ ((0 < sd cx cy dx dy ax ay /\ sd cx cy dx dy bx b2 < 0) ∨ (sd cx cy dx dy ax ay < 0 /\ 0 < sd cx cy dx dy bx b2))) := by
  unfold F151
  rw [btw_f n3, btw_f n4]
  rw [show F79_0 (F93_0 bx ax) (F93_1 b2 ay) (F93_0 cx ax) (F93_1 cy ay) = sd ax ay bx b2 cx cy from (sd_p h1 h2 h3 h4 h5 h6).1]
  rw [show F79_0 (F93_0 bx ax) (F93_1 b2 ay) (F93_0 dx ax) (F93_1 dy ay) = sd ax ay bx b2 dx dy from (sd_p h1 h2 h3 h4 h7 h8).1]
  rw [show F79_0 (F93_0 dx cx) (F93_1 dy cy) (F93_0 ax cx) (F93_1 ay cy) = sd cx cy dx dy ax ay from (sd_p h5 h6 h7 h8 h1 h2).1]
  rw [show F79_0 (F93_0 dx cx) (F93_1 dy cy) (F93_0 bx cx) (F93_1 b2 cy) = sd cx cy dx dy bx b2 from (sd_p h5 h6 h7 h8 h3 h4).1]
  have z : ∀ (p : Int) (b : Bool) (B : Prop), (b = true ↔ B) -> ¬ (p = 0 /\ B) -> ((F144_0 p == 0) && b) = false := by
    intro p b B hb hn
    rw [Bool.and_eq_false_iff]
    rcases sg_cases p with ⟨h, h0⟩ | ⟨h, h0⟩ | ⟨h, h0⟩
    · right
      cases b with
      | false => rfl
      | true => exact (hn ⟨h0, hb.1 rfl⟩).elim
    · left; rw [h]; rfl
    · left; rw [h]; rfl
  rw [z _ _ _ (btw_b _ _ _ _ _ _) n1, z _ _ _ (btw_b _ _ _ _ _ _) n2]
  simp only [Bool.and_false, Bool.or_false]
  exact crs0 _ _ _ _
theorem thr_crs {X0 Y0 X1 Y1 : Int} (h1 : sm ax) (h2 : sm ay) (h3 : sm bx) (h4 : sm b2) (g1 : sm X0) (g2 : sm Y0) (g3 : sm X1) (g4 : sm Y1) (hX : X0 <= X1) (hY : Y0 <= Y1) (hr : 0 <= r)
    (oa : Out ax ay X0 Y0 X1 Y1) (ob : Out bx b2 X0 Y0 X1 Y1) (c00 : nr ax ay bx b2 X0 Y0 r = false) (c10 : nr ax ay bx b2 X1 Y0 r = false) (c11 : nr ax ay bx b2 X1 Y1 r = false) (c01 : nr ax ay bx b2 X0 Y1 r = false) :
    (Bx ax ay bx b2 X0 Y0 X1 Y1 /\ (0 <= sd ax ay bx b2 X0 Y0 ∨ 0 <= sd ax ay bx b2 X1 Y0 ∨ 0 <= sd ax ay bx b2 X1 Y1 ∨ 0 <= sd ax ay bx b2 X0 Y1) /\ (sd ax ay bx b2 X0 Y0 <= 0 ∨ sd ax ay bx b2 X1 Y0 <= 0 ∨ sd ax ay bx b2 X1 Y1 <= 0 ∨ sd ax ay bx b2 X0 Y1 <= 0))
    ↔ (F151 ax ay bx b2 X0 Y0 X1 Y1 = true ∨ F151 ax ay bx b2 X1 Y0 X0 Y1 = true) := by
  have nc : ∀ cx cy, nr ax ay bx b2 cx cy r = false -> ¬ (sd ax ay bx b2 cx cy = 0 /\ Btw cx cy ax ay bx b2) := fun cx cy h hn => by
    rw [near_on hr hn.2 hn.1] at h; cases h
  have no : ∀ qx qy, Out qx qy X0 Y0 X1 Y1 -> ¬ Btw qx qy X0 Y0 X1 Y1 /\ ¬ Btw qx qy X1 Y0 X0 Y1 := fun qx qy h => by
    unfold Out at h; unfold Btw; omega
  have hs : sd ax ay bx b2 X0 Y0 + sd ax ay bx b2 X1 Y1 = sd ax ay bx b2 X1 Y0 + sd ax ay bx b2 X0 Y1 := by unfold sd; grind
  have k1 := crs h1 h2 h3 h4 g1 g2 g3 g4 (nc _ _ c00) (nc _ _ c11) (no _ _ oa).1 (no _ _ ob).1
  have k2 := crs h1 h2 h3 h4 g3 g2 g1 g4 (nc _ _ c10) (nc _ _ c01) (no _ _ oa).2 (no _ _ ob).2
  rw [k1, k2]
  have i00 : X0 <= X0 /\ X0 <= X1 /\ Y0 <= Y0 /\ Y0 <= Y1 := by omega
  have i10 : X0 <= X1 /\ X1 <= X1 /\ Y0 <= Y0 /\ Y0 <= Y1 := by omega
  have i11 : X0 <= X1 /\ X1 <= X1 /\ Y0 <= Y1 /\ Y1 <= Y1 := by omega
  have i01 : X0 <= X0 /\ X0 <= X1 /\ Y0 <= Y1 /\ Y1 <= Y1 := by omega
  constructor
  · rintro ⟨hB, hl, hr'⟩
    have d1 := diagB i00 i11 oa ob hB
    have d2 := diagB i10 i01 oa ob hB
    have nz : ∀ cx cy, X0 <= cx /\ cx <= X1 /\ Y0 <= cy /\ cy <= Y1 -> nr ax ay bx b2 cx cy r = false -> sd ax ay bx b2 cx cy ≠ 0 := fun cx cy hi h h0 =>
      nc cx cy h ⟨h0, cornB hi.1 hi.2.1 hi.2.2.1 hi.2.2.2 oa ob hB h0⟩
    have z1 := nz _ _ i00 c00
    have z2 := nz _ _ i10 c10
    have z3 := nz _ _ i11 c11
    have z4 := nz _ _ i01 c01
    by_cases hd : (0 < sd ax ay bx b2 X0 Y0 /\ sd ax ay bx b2 X1 Y1 < 0) ∨ (sd ax ay bx b2 X0 Y0 < 0 /\ 0 < sd ax ay bx b2 X1 Y1)
    · exact .inl ⟨hd, d1 hd⟩
    · have hd2 : (0 < sd ax ay bx b2 X1 Y0 /\ sd ax ay bx b2 X0 Y1 < 0) ∨ (sd ax ay bx b2 X1 Y0 < 0 /\ 0 < sd ax ay bx b2 X0 Y1) := by omega
      exact .inr ⟨hd2, d2 hd2⟩
  · rintro (⟨a, b⟩ | ⟨a, b⟩)
    · exact ⟨diagM i00 i11 a b, by omega, by omega⟩
    · exact ⟨diagM i10 i01 a b, by omega, by omega⟩
end
end
end Go.Dx
namespace Go.Dx
open Go.IntKind (i64 u64 u8)
open Go.Sx
noncomputable section
set_option linter.unusedSimpArgs false
theorem ix1_zero {e i m : Int} (h : ix1 e i m = 0) : e = 0 /\ 0 <= i /\ i < m := by
  unfold ix1 at h
  cases he : e == 0 with
  | false => rw [he, cond_false] at h; rw [h] at he; cases he
  | true =>
    rw [he, cond_true] at h
    refine ⟨eq_of_beq he, ?_⟩
    unfold bad1 at h
    by_cases h1 : i < 0
    · rw [decide_eq_true h1] at h; cases h
    · rw [decide_eq_false h1, cond_false] at h
      by_cases h2 : m <= i
      · rw [decide_eq_true h2] at h; cases h
      · omega
end
end Go.Dx
namespace Go.Dx
open Go.IntKind (i64 u64 u8)
open Go.Sx
noncomputable section
set_option linter.unusedVariables false
set_option linter.unusedSimpArgs false
def crn (ax ay bx b2 w px py : Int) : Bool := F106_0 (F125_0 px) (F125_1 py) ax ay bx b2 w
def far2 (ax ay X0 Y0 X1 Y1 : Int) : Int := i64.wrap (i64.wrap (max (max 0 (i64.wrap (i64.wrap (2 * X0) - ax))) (i64.wrap (ax - i64.wrap (2 * X1))) * max (max 0 (i64.wrap (i64.wrap (2 * X0) - ax))) (i64.wrap (ax - i64.wrap (2 * X1)))) + i64.wrap (max (max 0 (i64.wrap (i64.wrap (2 * Y0) - ay))) (i64.wrap (ay - i64.wrap (2 * Y1))) * max (max 0 (i64.wrap (i64.wrap (2 * Y0) - ay))) (i64.wrap (ay - i64.wrap (2 * Y1)))))
def tch (ax ay bx b2 w X0 Y0 X1 Y1 : Int) : Bool := bif crn ax ay bx b2 w X0 Y0 then true else bif crn ax ay bx b2 w X1 Y0 then true else bif crn ax ay bx b2 w X1 Y1 then true else bif crn ax ay bx b2 w X0 Y1 then true else bif decide (far2 ax ay X0 Y0 X1 Y1 <= i64.wrap (w * w)) then true else bif decide (far2 bx b2 X0 Y0 X1 Y1 <= i64.wrap (w * w)) then true else bif !F151 ax ay bx b2 (F125_0 X0) (F125_1 Y0) (F125_0 X1) (F125_1 Y1) then F151 ax ay bx b2 (F125_0 X1) (F125_1 Y0) (F125_0 X0) (F125_1 Y1) else true
theorem tch_eq (f2 : FnV) (x4 x5 x6 x7 x8 x9 : Int) : F126_0 f2 x4 x5 x6 x7 x8 x9 = tch (F150_0 (elV tp2 f2) x5) (F150_1 (elV tp2 f2) x5) (F150_2 (elV tp2 f2) x5) (F150_3 (elV tp2 f2) x5) x4 x6 x7 x8 x9 := rfl
section
variable {ax ay bx b2 w X0 Y0 X1 Y1 px py : Int}
def pl (x : Int) : Prop := -100000000 <= x /\ x <= 100000000
theorem dbl {x : Int} (h : pl x) : i64.wrap (2 * x) = 2 * x /\ sm (2 * x) := by
  unfold pl at h; unfold sm
  exact ⟨wrapI (by omega) (by omega), by omega⟩
theorem corner_p (h1 : sm ax) (h2 : sm ay) (h3 : sm bx) (h4 : sm b2) (h7 : 0 <= w) (h8 : w <= 1073741824) (hx : pl px) (hy : pl py) : F123_0 ax ay bx b2 w px py = nr ax ay bx b2 (2 * px) (2 * py) w := by
  unfold F123_0
  rw [(dbl hx).1, (dbl hy).1]
  exact near_p h1 h2 h3 h4 (dbl hx).2 (dbl hy).2 h7 h8
theorem corner_r (h1 : sm ax) (h2 : sm ay) (h3 : sm bx) (h4 : sm b2) (h7 : 0 <= w) (h8 : w <= 1073741824) (hx : pl px) (hy : pl py) : crn ax ay bx b2 w px py = nr ax ay bx b2 (2 * px) (2 * py) w := by
  unfold crn F125_0 F125_1
  rw [(dbl hx).1, (dbl hy).1]
  exact near_r h1 h2 h3 h4 (dbl hx).2 (dbl hy).2 h7 h8
theorem far_p (ax ay X0 Y0 X1 Y1 : Int) : F85_0 (max (max (i64.wrap (i64.wrap (2 * X0) - ax)) 0) (i64.wrap (ax - i64.wrap (2 * X1)))) (max (max (i64.wrap (i64.wrap (2 * Y0) - ay)) 0) (i64.wrap (ay - i64.wrap (2 * Y1)))) (max (max (i64.wrap (i64.wrap (2 * X0) - ax)) 0) (i64.wrap (ax - i64.wrap (2 * X1)))) (max (max (i64.wrap (i64.wrap (2 * Y0) - ay)) 0) (i64.wrap (ay - i64.wrap (2 * Y1)))) = far2 ax ay X0 Y0 X1 Y1 := by
  unfold F85_0 far2
  rw [Int.max_comm (i64.wrap (i64.wrap (2 * X0) - ax)) 0, Int.max_comm (i64.wrap (i64.wrap (2 * Y0) - ay)) 0]
theorem far_out (h1 : sm ax) (h2 : sm ay) (g1 : pl X0) (g2 : pl Y0) (g3 : pl X1) (g4 : pl Y1) (h7 : 0 <= w) (h8 : w <= 1073741824) (h : ¬ far2 ax ay X0 Y0 X1 Y1 <= i64.wrap (w * w)) : Out ax ay (2 * X0) (2 * Y0) (2 * X1) (2 * Y1) := by
  apply Classical.byContradiction
  intro hn
  apply h
  unfold far2
  rw [(dbl g1).1, (dbl g2).1, (dbl g3).1, (dbl g4).1]
  unfold sm at h1 h2
  unfold pl at g1 g2 g3 g4
  unfold Out at hn
  rw [wrapI (x := 2 * X0 - ax) (by omega) (by omega), wrapI (x := ax - 2 * X1) (by omega) (by omega), wrapI (x := 2 * Y0 - ay) (by omega) (by omega), wrapI (x := ay - 2 * Y1) (by omega) (by omega)]
  rw [show max (max 0 (2 * X0 - ax)) (ax - 2 * X1) = 0 from by omega, show max (max 0 (2 * Y0 - ay)) (ay - 2 * Y1) = 0 from by omega]
  have hr := mulS (x := w) (y := w) (A := 1073741824) (B := 1073741824) (by omega) h8 (by omega) h8
  have hr0 : 0 <= w * w := Int.mul_nonneg h7 h7
  rw [wrapI (x := w * w) (by omega) (by omega), wrapI (x := 0 * 0) (by decide) (by decide), wrapI (x := 0 * 0 + 0 * 0) (by decide) (by decide)]
  simpa using hr0
theorem thr_p (h1 : sm ax) (h2 : sm ay) (h3 : sm bx) (h4 : sm b2) (g1 : pl X0) (g2 : pl Y0) (g3 : pl X1) (g4 : pl Y1) :
    F145_0 ax ay bx b2 X0 Y0 X1 Y1 = true ↔ (Bx ax ay bx b2 (2 * X0) (2 * Y0) (2 * X1) (2 * Y1) /\ (0 <= sd ax ay bx b2 (2 * X0) (2 * Y0) ∨ 0 <= sd ax ay bx b2 (2 * X1) (2 * Y0) ∨ 0 <= sd ax ay bx b2 (2 * X1) (2 * Y1) ∨ 0 <= sd ax ay bx b2 (2 * X0) (2 * Y1)) /\ (sd ax ay bx b2 (2 * X0) (2 * Y0) <= 0 ∨ sd ax ay bx b2 (2 * X1) (2 * Y0) <= 0 ∨ sd ax ay bx b2 (2 * X1) (2 * Y1) <= 0 ∨ sd ax ay bx b2 (2 * X0) (2 * Y1) <= 0)) := by
  have s : ∀ px py, pl px -> pl py -> F78_0 ax ay bx b2 (F101_0 px 2) (F101_1 py 2) = sd ax ay bx b2 (2 * px) (2 * py) := fun px py hx hy => by
    unfold F78_0 F101_0 F101_1
    rw [(dbl hx).1, (dbl hy).1]
    exact (sd_p h1 h2 h3 h4 (dbl hx).2 (dbl hy).2).1
  unfold F145_0
  rw [s _ _ g1 g2, s _ _ g3 g2, s _ _ g3 g4, s _ _ g1 g4, (dbl g1).1, (dbl g2).1, (dbl g3).1, (dbl g4).1]
  generalize sd ax ay bx b2 (2 * X0) (2 * Y0) = p
  generalize sd ax ay bx b2 (2 * X1) (2 * Y0) = q
  generalize sd ax ay bx b2 (2 * X1) (2 * Y1) = u
  generalize sd ax ay bx b2 (2 * X0) (2 * Y1) = t
  unfold Bx
  have o4 : ∀ a b c d : Bool, (bif bif bif a then true else b then true else c then true else d) = true ↔ (a = true ∨ b = true ∨ c = true ∨ d = true) := by
    intro a b c d; cases a <;> cases b <;> cases c <;> cases d <;> simp
  have e1 := o4 (decide (max ax bx < 2 * X0)) (decide (2 * X1 < min ax bx)) (decide (max ay b2 < 2 * Y0)) (decide (2 * Y1 < min ay b2))
  have e2 := o4 (decide (0 <= p)) (decide (0 <= q)) (decide (0 <= u)) (decide (0 <= t))
  have e3 := o4 (decide (p <= 0)) (decide (q <= 0)) (decide (u <= 0)) (decide (t <= 0))
  simp only [decide_eq_true_eq] at e1 e2 e3
  rw [← e1, ← e2, ← e3]
  generalize (bif bif bif decide (max ax bx < 2 * X0) then true else decide (2 * X1 < min ax bx) then true else decide (max ay b2 < 2 * Y0) then true else decide (2 * Y1 < min ay b2)) = A
  generalize (bif bif bif decide (0 <= p) then true else decide (0 <= q) then true else decide (0 <= u) then true else decide (0 <= t)) = B
  generalize (bif bif bif decide (p <= 0) then true else decide (q <= 0) then true else decide (u <= 0) then true else decide (t <= 0)) = C
  cases A <;> cases B <;> cases C <;> simp
theorem piece_eq (h1 : sm ax) (h2 : sm ay) (h3 : sm bx) (h4 : sm b2) (g1 : pl X0) (g2 : pl Y0) (g3 : pl X1) (g4 : pl Y1) (hX : X0 <= X1) (hY : Y0 <= Y1) (h7 : 0 <= w) (h8 : w <= 1073741824) :
    F111_0 ax ay bx b2 w X0 Y0 X1 Y1 = bif crn ax ay bx b2 w X0 Y0 && (crn ax ay bx b2 w X1 Y0 && (crn ax ay bx b2 w X1 Y1 && crn ax ay bx b2 w X0 Y1)) then 2 else bif tch ax ay bx b2 w X0 Y0 X1 Y1 then 1 else 0 := by
  have ht : nr ax ay bx b2 (2 * X0) (2 * Y0) w = false -> nr ax ay bx b2 (2 * X1) (2 * Y0) w = false -> nr ax ay bx b2 (2 * X1) (2 * Y1) w = false -> nr ax ay bx b2 (2 * X0) (2 * Y1) w = false -> ¬ far2 ax ay X0 Y0 X1 Y1 <= i64.wrap (w * w) -> ¬ far2 bx b2 X0 Y0 X1 Y1 <= i64.wrap (w * w) ->
      F145_0 ax ay bx b2 X0 Y0 X1 Y1 = bif !F151 ax ay bx b2 (F125_0 X0) (F125_1 Y0) (F125_0 X1) (F125_1 Y1) then F151 ax ay bx b2 (F125_0 X1) (F125_1 Y0) (F125_0 X0) (F125_1 Y1) else true := by
    intro n0 n1 n2 n3 m1 m2
    unfold F125_0 F125_1
    rw [(dbl g1).1, (dbl g2).1, (dbl g3).1, (dbl g4).1]
    have k := thr_crs h1 h2 h3 h4 (dbl g1).2 (dbl g2).2 (dbl g3).2 (dbl g4).2 (by omega) (by omega) h7 (far_out h1 h2 g1 g2 g3 g4 h7 h8 m1) (far_out h3 h4 g1 g2 g3 g4 h7 h8 m2) n0 n1 n2 n3
    rw [← thr_p h1 h2 h3 h4 g1 g2 g3 g4] at k
    generalize F145_0 ax ay bx b2 X0 Y0 X1 Y1 = a at k ⊢
    generalize F151 ax ay bx b2 (2 * X0) (2 * Y0) (2 * X1) (2 * Y1) = b at k ⊢
    generalize F151 ax ay bx b2 (2 * X1) (2 * Y0) (2 * X0) (2 * Y1) = c at k ⊢
    cases a <;> cases b <;> cases c <;> simp_all
  unfold F111_0 tch
  rw [far_p, far_p]
  rw [corner_p h1 h2 h3 h4 h7 h8 g1 g2, corner_p h1 h2 h3 h4 h7 h8 g3 g2, corner_p h1 h2 h3 h4 h7 h8 g3 g4, corner_p h1 h2 h3 h4 h7 h8 g1 g4, corner_r h1 h2 h3 h4 h7 h8 g1 g2, corner_r h1 h2 h3 h4 h7 h8 g3 g2, corner_r h1 h2 h3 h4 h7 h8 g3 g4, corner_r h1 h2 h3 h4 h7 h8 g1 g4]
  generalize nr ax ay bx b2 (2 * X0) (2 * Y0) w = n0 at ht ⊢
  generalize nr ax ay bx b2 (2 * X1) (2 * Y0) w = n1 at ht ⊢
  generalize nr ax ay bx b2 (2 * X1) (2 * Y1) w = n2 at ht ⊢
  generalize nr ax ay bx b2 (2 * X0) (2 * Y1) w = n3 at ht ⊢
  cases n0
  · cases n1
    · cases n2
      · cases n3
        · by_cases m1 : far2 ax ay X0 Y0 X1 Y1 <= i64.wrap (w * w)
          · rw [decide_eq_true m1]; rfl
          · rw [decide_eq_false m1]
            by_cases m2 : far2 bx b2 X0 Y0 X1 Y1 <= i64.wrap (w * w)
            · rw [decide_eq_true m2]; rfl
            · rw [decide_eq_false m2, ht rfl rfl rfl rfl m1 m2]; rfl
        · rfl
      · rfl
    · rfl
  · cases n1
    · cases n2 <;> cases n3 <;> rfl
    · cases n2
      · cases n3 <;> rfl
      · cases n3 <;> rfl
end
end
end Go.Dx
