/- Part 4 of a proof. No conditions. -/
import Derived.Test.YtkdokmjehblpoaaGreatDoorCv3
import Derived.IntWalk
import Derived.WalkKit
import Derived.Ground.NamesProg
import Derived.Shelf.Strings.SlTrimAscii
import Derived.Laws.MathBits
set_option maxRecDepth 100000
set_option linter.unusedVariables false
set_option linter.unusedSimpArgs false
namespace Go.Dx
open Go.IntKind (i64 u64 u8)
open Go.Sx Go.Proofs
def ctB1 : CTab := []
theorem tabB1 : TabOk Tryz.prog eqs its ctB1 := .nil
def m84 (x0 x1 x2 x3 : Int) : RT Empty := .ret (V.agg [vi (i64.wrap (x0 - x2)), vi (i64.wrap (x1 - x3))])
theorem run84 (x0 x1 x2 x3 : Int) : Fit noD (runL JJ ctB1 u0 s84 [V.agg [vi x0, vi x1], V.agg [vi x2, vi x3]]) (m84 x0 x1 x2 x3) := ⟨by kernel_rfl, by kernel_rfl⟩
def F84_0 (x0 x2 : Int) : Int := i64.wrap (x0 - x2)
def F84_1 (x1 x3 : Int) : Int := i64.wrap (x1 - x3)
def R84 (x0 x1 x2 x3 : Int) : V := .agg [.int i64 (F84_0 x0 x2), .int i64 (F84_1 x1 x3)]
theorem ev84 (x0 x1 x2 x3 : Int) : evR noE (m84 x0 x1 x2 x3) (R84 x0 x1 x2 x3) := evRet (by unfold R84 F84_0 F84_1; rfl)
def C84 : PCon := mkC [.agg tp2, .agg tp2] (fun _ => True) fun
 | [.agg [.int _ x0, .int _ x1], .agg [.int _ x2, .int _ x3]] => R84 x0 x1 x2 x3
 | _ => .any
theorem ok84 : (vP C84).Ok Tryz.prog 84 := mkE tabB1 Tryz.func84 (by kernel_rfl) fun ds hp => rf0 (run84 ..) (ev84 _ _ _ _)
def m85 (x0 x1 x2 x3 : Int) : RT Empty := .ret (vi (i64.wrap (i64.wrap (x0 * x2) + i64.wrap (x1 * x3))))
theorem run85 (x0 x1 x2 x3 : Int) : Fit noD (runL JJ ctB1 u0 s85 [V.agg [vi x0, vi x1], V.agg [vi x2, vi x3]]) (m85 x0 x1 x2 x3) := ⟨by kernel_rfl, by kernel_rfl⟩
def F85_0 (x0 x1 x2 x3 : Int) : Int := i64.wrap (i64.wrap (x0 * x2) + i64.wrap (x1 * x3))
def R85 (x0 x1 x2 x3 : Int) : V := .int i64 (F85_0 x0 x1 x2 x3)
theorem ev85 (x0 x1 x2 x3 : Int) : evR noE (m85 x0 x1 x2 x3) (R85 x0 x1 x2 x3) := evRet (by unfold R85 F85_0; rfl)
def C85 : PCon := mkC [.agg tp2, .agg tp2] (fun _ => True) fun
 | [.agg [.int _ x0, .int _ x1], .agg [.int _ x2, .int _ x3]] => R85 x0 x1 x2 x3
 | _ => .any
theorem ok85 : (vP C85).Ok Tryz.prog 85 := mkE tabB1 Tryz.func85 (by kernel_rfl) fun ds hp => rf0 (run85 ..) (ev85 _ _ _ _)
def m127 (x0 x1 x2 x3 : Int) : RT Empty := .ret (vi (i64.wrap (i64.wrap (x0 * x3) - i64.wrap (x1 * x2))))
theorem run127 (x0 x1 x2 x3 : Int) : Fit noD (runL JJ ctB1 u0 s127 [V.agg [vi x0, vi x1], V.agg [vi x2, vi x3]]) (m127 x0 x1 x2 x3) := ⟨by kernel_rfl, by kernel_rfl⟩
def F127_0 (x0 x1 x2 x3 : Int) : Int := i64.wrap (i64.wrap (x0 * x3) - i64.wrap (x1 * x2))
def R127 (x0 x1 x2 x3 : Int) : V := .int i64 (F127_0 x0 x1 x2 x3)
theorem ev127 (x0 x1 x2 x3 : Int) : evR noE (m127 x0 x1 x2 x3) (R127 x0 x1 x2 x3) := evRet (by unfold R127 F127_0; rfl)
def C127 : PCon := mkC [.agg tp2, .agg tp2] (fun _ => True) fun
 | [.agg [.int _ x0, .int _ x1], .agg [.int _ x2, .int _ x3]] => R127 x0 x1 x2 x3
 | _ => .any
theorem ok127 : (vP C127).Ok Tryz.prog 127 := mkE tabB1 Tryz.func127 (by kernel_rfl) fun ds hp => rf0 (run127 ..) (ev127 _ _ _ _)
def m101 (x0 x1 x2 : Int) : RT Empty := .ret (V.agg [vi (i64.wrap (x2 * x0)), vi (i64.wrap (x2 * x1))])
theorem run101 (x0 x1 x2 : Int) : Fit noD (runL JJ ctB1 u0 s101 [V.agg [vi x0, vi x1], vi x2]) (m101 x0 x1 x2) := ⟨by kernel_rfl, by kernel_rfl⟩
def F101_0 (x0 x2 : Int) : Int := i64.wrap (x2 * x0)
def F101_1 (x1 x2 : Int) : Int := i64.wrap (x2 * x1)
def R101 (x0 x1 x2 : Int) : V := .agg [.int i64 (F101_0 x0 x2), .int i64 (F101_1 x1 x2)]
theorem ev101 (x0 x1 x2 : Int) : evR noE (m101 x0 x1 x2) (R101 x0 x1 x2) := evRet (by unfold R101 F101_0 F101_1; rfl)
def C101 : PCon := mkC [.agg tp2, .int .i64] (fun _ => True) fun
 | [.agg [.int _ x0, .int _ x1], .int _ x2] => R101 x0 x1 x2
 | _ => .any
theorem ok101 : (vP C101).Ok Tryz.prog 101 := mkE tabB1 Tryz.func101 (by kernel_rfl) fun ds hp => rf0 (run101 ..) (ev101 _ _ _)
def m86 (x0 x1 x2 : Int) : RT Empty := .obi (.obi (.obi (.ret (V.bool (bif decide (x0 < x1) then true else decide (x2 < x0))))))
theorem run86 (x0 x1 x2 : Int) : Fit noD (runL JJ ctB1 u0 s86 [vi x0, vi x1, vi x2]) (m86 x0 x1 x2) := ⟨by kernel_rfl, by kernel_rfl⟩
def F86_0 (x0 x1 x2 : Int) : Bool := bif decide (x0 < x1) then true else decide (x2 < x0)
def R86 (x0 x1 x2 : Int) : V := .bool (F86_0 x0 x1 x2)
theorem ev86 (x0 x1 x2 : Int) : evR noE (m86 x0 x1 x2) (R86 x0 x1 x2) := evObi (evObi (evObi (evRet (by unfold R86 F86_0; rfl))))
def C86 : PCon := mkC [.int .i64, .int .i64, .int .i64] (fun _ => True) fun
 | [.int _ x0, .int _ x1, .int _ x2] => R86 x0 x1 x2
 | _ => .any
theorem ok86 : (vP C86).Ok Tryz.prog 86 := mkE tabB1 Tryz.func86 (by kernel_rfl) fun ds hp => rf0 (run86 ..) (ev86 _ _ _)
def m71 (x0 x1 x2 : Int) : RT Empty := .obi (.obi (.obi (.ret (V.bool (bif decide (x1 <= x0) then decide (x0 <= x2) else false)))))
theorem run71 (x0 x1 x2 : Int) : Fit noD (runL JJ ctB1 u0 s71 [vi x0, vi x1, vi x2]) (m71 x0 x1 x2) := ⟨by kernel_rfl, by kernel_rfl⟩
def F71_0 (x0 x1 x2 : Int) : Bool := bif decide (x1 <= x0) then decide (x0 <= x2) else false
def R71 (x0 x1 x2 : Int) : V := .bool (F71_0 x0 x1 x2)
theorem ev71 (x0 x1 x2 : Int) : evR noE (m71 x0 x1 x2) (R71 x0 x1 x2) := evObi (evObi (evObi (evRet (by unfold R71 F71_0; rfl))))
def C71 : PCon := mkC [.int .i64, .int .i64, .int .i64] (fun _ => True) fun
 | [.int _ x0, .int _ x1, .int _ x2] => R71 x0 x1 x2
 | _ => .any
theorem ok71 : (vP C71).Ok Tryz.prog 71 := mkE tabB1 Tryz.func71 (by kernel_rfl) fun ds hp => rf0 (run71 ..) (ev71 _ _ _)
def m162 (x0 x1 : Int) : RT Empty := .obt (.obt (.obt (.obt (.obt (.ret (V.tup [V.int u64 (u64.wrap (u64.wrap (u64.wrap (x0.fdiv (2 ^ 32) * x1.fdiv (2 ^ 32)) + (u64.wrap (u64.wrap (x0.fdiv (2 ^ 32) * bits BinOp.and u64 x1 4294967295) + (u64.wrap (bits BinOp.and u64 x0 4294967295 * bits BinOp.and u64 x1 4294967295)).fdiv (2 ^ 32))).fdiv (2 ^ 32)) + (u64.wrap (bits BinOp.and u64 (u64.wrap (u64.wrap (x0.fdiv (2 ^ 32) * bits BinOp.and u64 x1 4294967295) + (u64.wrap (bits BinOp.and u64 x0 4294967295 * bits BinOp.and u64 x1 4294967295)).fdiv (2 ^ 32))) 4294967295 + u64.wrap (bits BinOp.and u64 x0 4294967295 * x1.fdiv (2 ^ 32)))).fdiv (2 ^ 32))), V.int u64 (u64.wrap (x0 * x1))]))))))
theorem run162 (x0 x1 : Int) : Fit noD (runL JJ ctB1 u0 s162 [V.int u64 x0, V.int u64 x1]) (m162 x0 x1) := ⟨by kernel_rfl, by kernel_rfl⟩
def F162_0 (x0 x1 : Int) : Int := u64.wrap (u64.wrap (u64.wrap (x0.fdiv (2 ^ 32) * x1.fdiv (2 ^ 32)) + (u64.wrap (u64.wrap (x0.fdiv (2 ^ 32) * bits BinOp.and u64 x1 4294967295) + (u64.wrap (bits BinOp.and u64 x0 4294967295 * bits BinOp.and u64 x1 4294967295)).fdiv (2 ^ 32))).fdiv (2 ^ 32)) + (u64.wrap (bits BinOp.and u64 (u64.wrap (u64.wrap (x0.fdiv (2 ^ 32) * bits BinOp.and u64 x1 4294967295) + (u64.wrap (bits BinOp.and u64 x0 4294967295 * bits BinOp.and u64 x1 4294967295)).fdiv (2 ^ 32))) 4294967295 + u64.wrap (bits BinOp.and u64 x0 4294967295 * x1.fdiv (2 ^ 32)))).fdiv (2 ^ 32))
def F162_1 (x0 x1 : Int) : Int := u64.wrap (x0 * x1)
def R162 (x0 x1 : Int) : V := .tup [.int u64 (F162_0 x0 x1), .int u64 (F162_1 x0 x1)]
theorem ev162 (x0 x1 : Int) : evR noE (m162 x0 x1) (R162 x0 x1) := evObt (evObt (evObt (evObt (evObt (evRet (by unfold R162 F162_0 F162_1; rfl))))))
def C162 : PCon := mkC [.int .u64, .int .u64] (fun _ => True) fun
 | [.int _ x0, .int _ x1] => R162 x0 x1
 | _ => .any
theorem ok162 : (vP C162).Ok Tryz.prog 162 := mkE tabB1 Tryz.func162 (by kernel_rfl) fun ds hp => rf0 (run162 ..) (ev162 _ _)
def ctB2 : CTab := [(84, .con C84), (85, .con C85), (127, .con C127), (101, .con C101), (86, .con C86), (71, .con C71), (162, .con C162)]
theorem tabB2 : TabOk Tryz.prog eqs its ctB2 := .con ok84 (.con ok85 (.con ok127 (.con ok101 (.con ok86 (.con ok71 (.con ok162 (.nil)))))))
def m134 (x0 x1 : Int) : RT Empty := .obc (.obt (.ret (V.agg [V.int u64 (F162_0 (u64.wrap x0) (u64.wrap x1)), V.int u64 (F162_1 (u64.wrap x0) (u64.wrap x1))])))
theorem run134 (x0 x1 : Int) : Fit noD (runL JJ ctB2 u0 s134 [vi x0, vi x1]) (m134 x0 x1) := ⟨by kernel_rfl, by kernel_rfl⟩
def F134_0 (x0 x1 : Int) : Int := F162_0 (u64.wrap x0) (u64.wrap x1)
def F134_1 (x0 x1 : Int) : Int := F162_1 (u64.wrap x0) (u64.wrap x1)
def R134 (x0 x1 : Int) : V := .agg [.int u64 (F134_0 x0 x1), .int u64 (F134_1 x0 x1)]
theorem ev134 (x0 x1 : Int) : evR noE (m134 x0 x1) (R134 x0 x1) := evObc (evObt (evRet (by unfold R134 F134_0 F134_1; rfl)))
def C134 : PCon := mkC tp2 (fun _ => True) fun
 | [.int _ x0, .int _ x1] => R134 x0 x1
 | _ => .any
theorem ok134 : (vP C134).Ok Tryz.prog 134 := mkE tabB2 Tryz.func134 (by kernel_rfl) fun ds hp => rf0 (run134 ..) (ev134 _ _)
def m135 (x0 x1 x2 x3 : Int) : RT Empty := .obi (.obi (.obi (.obi (.obi (.obi (.obi (.obi (.obi (.obi (.obi (.obi (.obi (.obi (.obi (.obi (.obi (.ret (V.bool (bif bif x0 == x2 && (x1 == x3 && true) then true else decide (x0 < x2) then true else bif x0 == x2 then decide (x1 < x3) else false)))))))))))))))))))
theorem run135 (x0 x1 x2 x3 : Int) : Fit noD (runL JJ ctB2 u0 s135 [V.agg [V.int u64 x0, V.int u64 x1], V.agg [V.int u64 x2, V.int u64 x3]]) (m135 x0 x1 x2 x3) := ⟨by kernel_rfl, by kernel_rfl⟩
def F135_0 (x0 x1 x2 x3 : Int) : Bool := bif bif x0 == x2 && (x1 == x3 && true) then true else decide (x0 < x2) then true else bif x0 == x2 then decide (x1 < x3) else false
def R135 (x0 x1 x2 x3 : Int) : V := .bool (F135_0 x0 x1 x2 x3)
theorem ev135 (x0 x1 x2 x3 : Int) : evR noE (m135 x0 x1 x2 x3) (R135 x0 x1 x2 x3) := evObi (evObi (evObi (evObi (evObi (evObi (evObi (evObi (evObi (evObi (evObi (evObi (evObi (evObi (evObi (evObi (evObi (evRet (by unfold R135 F135_0; rfl))))))))))))))))))
def C135 : PCon := mkC [.agg [.int .u64, .int .u64], .agg [.int .u64, .int .u64]] (fun _ => True) fun
 | [.agg [.int _ x0, .int _ x1], .agg [.int _ x2, .int _ x3]] => R135 x0 x1 x2 x3
 | _ => .any
theorem ok135 : (vP C135).Ok Tryz.prog 135 := mkE tabB2 Tryz.func135 (by kernel_rfl) fun ds hp => rf0 (run135 ..) (ev135 _ _ _ _)
def m78 (x0 x1 x2 x3 x4 x5 : Int) : RT Empty := .obc (.obt (.obc (.obt (.obc (.obt (.ret (vi (F127_0 (F84_0 x2 x0) (F84_1 x3 x1) (F84_0 x4 x0) (F84_1 x5 x1)))))))))
theorem run78 (x0 x1 x2 x3 x4 x5 : Int) : Fit noD (runL JJ ctB2 u0 s78 [V.agg [vi x0, vi x1, vi x2, vi x3], V.agg [vi x4, vi x5]]) (m78 x0 x1 x2 x3 x4 x5) := ⟨by kernel_rfl, by kernel_rfl⟩
def F78_0 (x0 x1 x2 x3 x4 x5 : Int) : Int := F127_0 (F84_0 x2 x0) (F84_1 x3 x1) (F84_0 x4 x0) (F84_1 x5 x1)
def R78 (x0 x1 x2 x3 x4 x5 : Int) : V := .int i64 (F78_0 x0 x1 x2 x3 x4 x5)
theorem ev78 (x0 x1 x2 x3 x4 x5 : Int) : evR noE (m78 x0 x1 x2 x3 x4 x5) (R78 x0 x1 x2 x3 x4 x5) := evObc (evObt (evObc (evObt (evObc (evObt (evRet (by unfold R78 F78_0; rfl)))))))
def C78 : PCon := mkC [.agg tp4, .agg tp2] (fun _ => True) fun
 | [.agg [.int _ x0, .int _ x1, .int _ x2, .int _ x3], .agg [.int _ x4, .int _ x5]] => R78 x0 x1 x2 x3 x4 x5
 | _ => .any
theorem ok78 : (vP C78).Ok Tryz.prog 78 := mkE tabB2 Tryz.func78 (by kernel_rfl) fun ds hp => rf0 (run78 ..) (ev78 _ _ _ _ _ _)
def m54 (x0 x1 x2 x3 : Int) : RT Empty := .ret (V.agg [vi x0, vi x1, vi x2, vi x1, vi x2, vi x3, vi x0, vi x3])
theorem run54 (x0 x1 x2 x3 : Int) : Fit noD (runL JJ ctB2 u0 s54 [V.agg [vi x0, vi x1, vi x2, vi x3]]) (m54 x0 x1 x2 x3) := ⟨by kernel_rfl, by kernel_rfl⟩
def R54 (x0 x1 x2 x3 : Int) : V := .agg [.int i64 (x0), .int i64 (x1), .int i64 (x2), .int i64 (x1), .int i64 (x2), .int i64 (x3), .int i64 (x0), .int i64 (x3)]
theorem ev54 (x0 x1 x2 x3 : Int) : evR noE (m54 x0 x1 x2 x3) (R54 x0 x1 x2 x3) := evRet (by unfold R54 ; rfl)
def C54 : PCon := mkC [.agg tp4] (fun _ => True) fun
 | [.agg [.int _ x0, .int _ x1, .int _ x2, .int _ x3]] => R54 x0 x1 x2 x3
 | _ => .any
theorem ok54 : (vP C54).Ok Tryz.prog 54 := mkE tabB2 Tryz.func54 (by kernel_rfl) fun ds hp => rf0 (run54 ..) (ev54 _ _ _ _)
def m48 (s0 : ByteArray) (x1 x2 x3 x4 x5 x6 x7 x8 x9 x10 : Int) : RT Empty := .obc (.obt (.ret (V.agg [vi x1, vi x2, vi x3, vi (max 0 (i64.wrap (x3 - x10))), vi (i64.wrap (x3 - x9)), vi (F101_0 x6 x3), vi (F101_1 x7 x3), vi (i64.wrap (x8 * x3)), V.bool (decide (x3 < x9))])))
theorem run48 (s0 : ByteArray) (x1 x2 x3 x4 x5 x6 x7 x8 x9 x10 : Int) : Fit noD (runL JJ ctB2 u0 s48 [V.agg [V.str s0, vi x1, vi x2, vi x3, vi x4, vi x5], V.agg [vi x6, vi x7, vi x8, vi x9, vi x10]]) (m48 s0 x1 x2 x3 x4 x5 x6 x7 x8 x9 x10) := ⟨by kernel_rfl, by kernel_rfl⟩
def F48_0 (x3 x10 : Int) : Int := max 0 (i64.wrap (x3 - x10))
def F48_1 (x3 x9 : Int) : Int := i64.wrap (x3 - x9)
def F48_2 (x3 x6 : Int) : Int := F101_0 x6 x3
def F48_3 (x3 x7 : Int) : Int := F101_1 x7 x3
def F48_4 (x3 x8 : Int) : Int := i64.wrap (x8 * x3)
def F48_5 (x3 x9 : Int) : Bool := decide (x3 < x9)
def R48 (s0 : ByteArray) (x1 x2 x3 x4 x5 x6 x7 x8 x9 x10 : Int) : V := .agg [.int i64 (x1), .int i64 (x2), .int i64 (x3), .int i64 (F48_0 x3 x10), .int i64 (F48_1 x3 x9), .int i64 (F48_2 x3 x6), .int i64 (F48_3 x3 x7), .int i64 (F48_4 x3 x8), .bool (F48_5 x3 x9)]
theorem ev48 (s0 : ByteArray) (x1 x2 x3 x4 x5 x6 x7 x8 x9 x10 : Int) : evR noE (m48 s0 x1 x2 x3 x4 x5 x6 x7 x8 x9 x10) (R48 s0 x1 x2 x3 x4 x5 x6 x7 x8 x9 x10) := evObc (evObt (evRet (by unfold R48 F48_0 F48_1 F48_2 F48_3 F48_4 F48_5; rfl)))
def C48 : PCon := mkC [.agg tyC, .agg tyT] (fun _ => True) fun
 | [.agg [.str s0, .int _ x1, .int _ x2, .int _ x3, .int _ x4, .int _ x5], .agg [.int _ x6, .int _ x7, .int _ x8, .int _ x9, .int _ x10]] => R48 s0 x1 x2 x3 x4 x5 x6 x7 x8 x9 x10
 | _ => .any
theorem ok48 : (vP C48).Ok Tryz.prog 48 := mkE tabB2 Tryz.func48 (by kernel_rfl) fun ds hp => rf0 (run48 ..) (ev48 _ _ _ _ _ _ _ _ _ _ _)
def m102 (x0 x1 x2 x3 x4 x5 x6 x7 : Int) (b8 : Bool) (x9 x10 x11 : Int) : RT Empty := .obc (.obt (.ret (V.agg [vi (i64.wrap (i64.wrap (x2 * x0) + i64.wrap (x11 * F84_0 x9 x0))), vi (i64.wrap (i64.wrap (x2 * x1) + i64.wrap (x11 * F84_1 x10 x1)))])))
theorem run102 (x0 x1 x2 x3 x4 x5 x6 x7 : Int) (b8 : Bool) (x9 x10 x11 : Int) : Fit noD (runL JJ ctB2 u0 s102 [V.agg [vi x0, vi x1, vi x2, vi x3, vi x4, vi x5, vi x6, vi x7, V.bool b8], V.agg [vi x9, vi x10], vi x11]) (m102 x0 x1 x2 x3 x4 x5 x6 x7 b8 x9 x10 x11) := ⟨by kernel_rfl, by kernel_rfl⟩
def F102_0 (x0 x2 x9 x11 : Int) : Int := i64.wrap (i64.wrap (x2 * x0) + i64.wrap (x11 * F84_0 x9 x0))
def F102_1 (x1 x2 x10 x11 : Int) : Int := i64.wrap (i64.wrap (x2 * x1) + i64.wrap (x11 * F84_1 x10 x1))
def R102 (x0 x1 x2 x3 x4 x5 x6 x7 : Int) (b8 : Bool) (x9 x10 x11 : Int) : V := .agg [.int i64 (F102_0 x0 x2 x9 x11), .int i64 (F102_1 x1 x2 x10 x11)]
theorem ev102 (x0 x1 x2 x3 x4 x5 x6 x7 : Int) (b8 : Bool) (x9 x10 x11 : Int) : evR noE (m102 x0 x1 x2 x3 x4 x5 x6 x7 b8 x9 x10 x11) (R102 x0 x1 x2 x3 x4 x5 x6 x7 b8 x9 x10 x11) := evObc (evObt (evRet (by unfold R102 F102_0 F102_1; rfl)))
def C102 : PCon := mkC [.agg [.int .i64, .int .i64, .int .i64, .int .i64, .int .i64, .int .i64, .int .i64, .int .i64, .bool], .agg tp2, .int .i64] (fun _ => True) fun
 | [.agg [.int _ x0, .int _ x1, .int _ x2, .int _ x3, .int _ x4, .int _ x5, .int _ x6, .int _ x7, .bool b8], .agg [.int _ x9, .int _ x10], .int _ x11] => R102 x0 x1 x2 x3 x4 x5 x6 x7 b8 x9 x10 x11
 | _ => .any
theorem ok102 : (vP C102).Ok Tryz.prog 102 := mkE tabB2 Tryz.func102 (by kernel_rfl) fun ds hp => rf0 (run102 ..) (ev102 _ _ _ _ _ _ _ _ _ _ _ _)
def m81 (x0 x1 : Int) : RT Empty := .br (decide (x0 < 0)) (.ob (decide (x1 ≠ 0)) (.ret (vi (i64.wrap (0 - i64.wrap ((i64.wrap (i64.wrap (x1 - 1) - x0)).tdiv x1)))))) (.ob (decide (x1 ≠ 0)) (.ret (vi (i64.wrap (x0.tdiv x1)))))
theorem run81 (x0 x1 : Int) : Fit noD (runL JJ ctB2 u0 s81 [vi x0, vi x1]) (m81 x0 x1) := ⟨by kernel_rfl, by kernel_rfl⟩
def F81_0 (x0 x1 : Int) : Int := bif decide (x0 < 0) then i64.wrap (0 - i64.wrap ((i64.wrap (i64.wrap (x1 - 1) - x0)).tdiv x1)) else i64.wrap (x0.tdiv x1)
def R81 (x0 x1 : Int) : V := .int i64 (F81_0 x0 x1)
theorem ev81 (x0 x1 : Int) (hp : x1 ≠ 0) : evR noE (m81 x0 x1) (R81 x0 x1) := evBr (fun h0 => evOb (by first | assumption | (simp [hp])) (evRet (by unfold R81 F81_0; try rw [h0]; rfl))) (fun h0 => evOb (by first | assumption | (simp [hp])) (evRet (by unfold R81 F81_0; try rw [h0]; rfl)))
def C81 : PCon := mkC tp2 (fun
 | [.int _ x0, .int _ x1] => x1 ≠ 0
 | _ => False) fun
 | [.int _ x0, .int _ x1] => R81 x0 x1
 | _ => .any
theorem ok81 : (vP C81).Ok Tryz.prog 81 := mkE tabB2 Tryz.func81 (by kernel_rfl) fun ds hp => rf0 (run81 ..) (ev81 _ _ hp)
end Go.Dx
namespace Go.Dx
open Go.IntKind (i64 u64 u8)
open Go.Sx
theorem up_ind {n : Nat} {P : Nat -> Prop} (h : ∀ i, i <= n -> (i < n -> P (i + 1)) -> P i) : ∀ i, i <= n -> P i := by
 have key : ∀ k i, i + k = n -> P i := by
  intro k
  induction k with
  | zero => intro i e; exact h i (by omega) fun h => by omega
  | succ k ih => intro i e; exact h i (by omega) fun _ => ih (i + 1) (by omega)
 exact fun i hi => key (n - i) i (by omega)
theorem wrapI {x : Int} (h1 : -9223372036854775808 <= x) (h2 : x <= 9223372036854775807) : i64.wrap x = x := IntWalk.i64_in _ (by omega)
theorem wrapS {i n : Nat} (h : i < n) (hn : n <= 9223372036854775807) : i64.wrap ((i : Int) + 1) = ((i + 1 : Nat) : Int) := by
 rw [wrapI (by omega) (by omega)]; omega
theorem allB_true {n : Nat} {p : Nat -> Bool} : allB n p = true ↔ ∀ i, i < n -> p i = true := ⟨allB_ok, allB_of⟩
theorem allB_false {n : Nat} {p : Nat -> Bool} (i : Nat) (hi : i < n) (h : p i = false) : allB n p = false := by
 cases hb : allB n p with
 | false => rfl
 | true => rw [allB_ok hb i hi] at h; cases h
def idxN (p : Nat -> Bool) : Nat -> Nat -> Int
 | 0, _ => -1
 | k + 1, i => bif p i then (i : Int) else idxN p k (i + 1)
def idx (n : Nat) (p : Nat -> Bool) : Int := idxN p n 0
theorem idxN_none {p : Nat -> Bool} : ∀ (k i : Nat), (∀ j, i <= j -> j < i + k -> p j = false) -> idxN p k i = -1
 | 0, _, _ => rfl
 | k + 1, i, h => by simp only [idxN, h i (Nat.le_refl _) (by omega), cond_false]; exact idxN_none k (i + 1) fun j h1 h2 => h j (by omega) (by omega)
theorem idxN_some {p : Nat -> Bool} {j : Nat} (hj : p j = true) : ∀ (k i : Nat), i <= j -> j < i + k -> (∀ l, i <= l -> l < j -> p l = false) -> idxN p k i = j
 | 0, i, h1, h2, _ => by omega
 | k + 1, i, h1, h2, h => by
   by_cases e : i = j
   ·subst e; simp only [idxN, hj, cond_true]
   ·simp only [idxN, h i (Nat.le_refl _) (by omega), cond_false]
    exact idxN_some hj k (i + 1) (by omega) (by omega) fun l h3 h4 => h l (by omega) h4
theorem idx_none {n : Nat} {p : Nat -> Bool} (h : ∀ j, j < n -> p j = false) : idx n p = -1 := idxN_none n 0 fun j _ h2 => h j (by omega)
theorem idx_some {n : Nat} {p : Nat -> Bool} {j : Nat} (hj : p j = true) (h1 : j < n) (h : ∀ l, l < j -> p l = false) : idx n p = j := idxN_some hj n 0 (by omega) (by omega) fun l _ h4 => h l h4
theorem idx_ex {n : Nat} {p : Nat -> Bool} : (idx n p = -1 /\ ∀ j, j < n -> p j = false) ∨ ∃ j, j < n /\ idx n p = (j : Int) /\ p j = true /\ ∀ l, l < j -> p l = false := by
 by_cases h : ∀ j, j < n -> p j = false
 ·exact .inl ⟨idx_none h, h⟩
 ·right
  have : ∃ j, j < n /\ p j = true := by
   simp only [Classical.not_forall] at h
   obtain ⟨j, hj, hp⟩ := h
   exact ⟨j, hj, by simpa using hp⟩
  have key : ∀ m, (∃ j, j < m /\ j < n /\ p j = true) -> ∃ j, j < n /\ p j = true /\ ∀ l, l < j -> p l = false := by
   intro m
   induction m with
   | zero => rintro ⟨j, hj, _⟩; omega
   | succ m ih =>
     rintro ⟨j, hj, hn, hp⟩
     by_cases hm : ∃ j, j < m /\ j < n /\ p j = true
     ·exact ih hm
     ·refine ⟨j, hn, hp, fun l hl => ?_⟩
      cases hb : p l with
      | false => rfl
      | true => exact (hm ⟨l, by omega, by omega, hb⟩).elim
  obtain ⟨j, hj, hp⟩ := this
  obtain ⟨j, h1, h2, h3⟩ := key n ⟨j, hj, hj, hp⟩
  exact ⟨j, h1, idx_some h2 h1 h3, h2, h3⟩
def exB (n : Nat) (p : Nat -> Bool) : Bool := !allB n fun i => !p i
theorem idx_geq {n : Nat} {p : Nat -> Bool} : decide (0 <= idx n p) = exB n p := by
 rcases idx_ex (n := n) (p := p) with ⟨h1, h2⟩ | ⟨j, h1, h2, h3, _⟩
 ·rw [h1]; unfold exB; rw [allB_of fun i hi => by rw [h2 i hi]; rfl]; rfl
 ·rw [h2]; unfold exB; rw [allB_false j h1 (by rw [h3]; rfl)]; simp
section
variable {S : Type} {step : S -> RT S} {r : V}
theorem Ev.st {s : S} (h0 : noAll (step s) = true) (h : evR (Ev step) (step s) r) : Ev step s r := Ev.of h0 h
end
end Go.Dx
namespace Go.Dx
open Go.IntKind (i64 u64 u8)
open Go.Sx
section
variable {S : Type} {step : S -> RT S}
theorem idx_ev {L : Int -> S} {n : Nat} {p : Nat -> Bool} (hn : n <= 9223372036854775807)
 (hst : ∀ i : Nat, step (L i) = .br (decide ((i : Int) < (n : Int))) (.ob (decide (0 <= (i : Int) /\ (i : Int) < (n : Int))) (.obc (.obt (.br (p i) (.ret (.int .i64 i)) (.next [] (L (i64.wrap ((i : Int) + 1))) []))))) (.ret (.int .i64 (-1)))) :
 Ev step (L 0) (.int .i64 (idx n p)) := by
 have key := up_ind (n := n) (P := fun i => (∀ j, j < i -> p j = false) -> Ev step (L i) (.int .i64 (idx n p))) fun i hi ih hj => by
  refine Ev.of (by rw [hst]; rfl) ?_
  rw [hst]
  refine evBr (fun h => ?_) (fun h => ?_)
  ·have hlt : i < n := by simpa using h
   refine evOb (by simpa using hlt) (evObc (evObt (evBr (fun hb => evRet ?_) (fun hb => evNext ?_))))
   ·rw [idx_some hb hlt hj]
   ·rw [wrapS hlt hn]
    exact ih hlt fun j h1 => by
     by_cases e : j = i
     ·subst e; exact hb
     ·exact hj j (by omega)
  ·have : i = n := by have : ¬ i < n := by simpa using h
                      omega
   subst this
   refine evRet ?_
   rw [idx_none hj]
 exact key 0 (Nat.zero_le _) fun j hj => by omega
end
end Go.Dx
namespace Go.Dx
open Go.IntKind (i64 u64 u8)
open Go.Sx
theorem scan {n : Nat} (hn : n <= 9223372036854775807) (p : Nat -> Bool) {P : Int -> Prop} (hstep : ∀ i : Nat, i < n -> (∀ j, j < i -> p j = false) -> (p i = false -> P (i64.wrap ((i : Int) + 1))) -> P i) (hend : (∀ j, j < n -> p j = false) -> P n) : P 0 := by
 have key := up_ind (n := n) (P := fun i => (∀ j, j < i -> p j = false) -> P i) fun i hi ih hj => by
  by_cases hlt : i < n
  ·refine hstep i hlt hj fun hp => ?_
   rw [wrapS hlt hn]
   exact ih hlt fun j h1 => by
    by_cases e : j = i
    ·subst e; exact hp
    ·exact hj j (by omega)
  ·have : i = n := by omega
   subst this; exact hend hj
 exact key 0 (Nat.zero_le _) fun j hj => by omega
section
variable {S : Type} {Nx : S -> V -> Prop} {r : V} {x y : RT S} {i n : Nat}
theorem evBrLt (h : i < n) (hx : evR Nx x r) : evR Nx (.br (decide ((i : Int) < (n : Int))) x y) r := ⟨fun _ => hx, fun k => by have := of_decide_eq_false k; omega⟩
theorem evBrGe (hy : evR Nx y r) : evR Nx (.br (decide ((n : Int) < (n : Int))) x y) r := ⟨(fun k => by have := of_decide_eq_true k; omega), fun _ => hy⟩
theorem evObLt (h : i < n) (hx : evR Nx x r) : evR Nx (.ob (decide (0 <= (i : Int) /\ (i : Int) < (n : Int))) x) r := ⟨decide_eq_true (by omega), hx⟩
theorem evObjLt {c : Bool} (h : i < n) (hx : evR Nx x r) : evR Nx (.obj c (decide (0 <= (i : Int) /\ (i : Int) < (n : Int))) x) r := ⟨fun _ => decide_eq_true (by omega), hx⟩
theorem evBrT {b : Bool} (h : b = true) (hx : evR Nx x r) : evR Nx (.br b x y) r := ⟨fun _ => hx, fun k => by rw [h] at k; cases k⟩
theorem evBrF {b : Bool} (h : b = false) (hy : evR Nx y r) : evR Nx (.br b x y) r := ⟨(fun k => by rw [h] at k; cases k), fun _ => hy⟩
end
end Go.Dx
namespace Go.Dx
open Go.IntKind (i64 u64 u8)
theorem exB_true {n : Nat} {p : Nat -> Bool} (i : Nat) (hi : i < n) (h : p i = true) : exB n p = true := by
 unfold exB; rw [allB_false i hi (by rw [h]; rfl)]; rfl
theorem exB_false {n : Nat} {p : Nat -> Bool} (h : ∀ i, i < n -> p i = false) : exB n p = false := by
 unfold exB; rw [allB_of fun i hi => by rw [h i hi]; rfl]; rfl
theorem exB_iff {n : Nat} {p : Nat -> Bool} : exB n p = true ↔ ∃ i, i < n /\ p i = true := by
 constructor
 ·intro h
  apply Classical.byContradiction
  intro hn
  rw [exB_false fun i hi => by
   cases hp : p i with
   | false => rfl
   | true => exact (hn ⟨i, hi, hp⟩).elim] at h
  cases h
 ·rintro ⟨i, hi, h⟩; exact exB_true i hi h
end Go.Dx
namespace Go.Dx
open Go.IntKind (i64 u64 u8)
open Go.Sx
def firstI (n : Nat) (c : Nat -> Int) : Int := bif idx n (fun i => c i != 0) == -1 then 0 else idx n fun i => c i != 0
def firstE (n : Nat) (c : Nat -> Int) : Int := bif idx n (fun i => c i != 0) == -1 then 0 else c (idx n fun i => c i != 0).toNat
theorem first_none {n : Nat} {c : Nat -> Int} (h : ∀ j, j < n -> (c j != 0) = false) : firstI n c = 0 /\ firstE n c = 0 := by
 unfold firstI firstE; rw [idx_none h]; exact ⟨rfl, rfl⟩
theorem first_some {n : Nat} {c : Nat -> Int} {i : Nat} (hi : i < n) (hc : (c i != 0) = true) (h : ∀ j, j < i -> (c j != 0) = false) : firstI n c = i /\ firstE n c = c i := by
 unfold firstI firstE; rw [idx_some hc hi h]
 have : ((i : Int) == -1) = false := by rw [beq_eq_false_iff_ne]; omega
 rw [this]; exact ⟨rfl, rfl⟩
section
variable {S : Type} {step : S -> RT S}
theorem first_ev {L : Int -> S} {n : Nat} {c : Nat -> Int} {Q : Nat -> Prop} {ρ : Rho} (W : Nat -> RT S -> RT S) (hW : ∀ i x r, Q i -> evR (Ev step) x r -> evR (Ev step) (W i x) r) (hWn : ∀ i x, noAll (W i x) = noAll x) (hn : n <= 9223372036854775807) (hQ : ∀ i, i < n -> Q i)
 (hst : ∀ i : Nat, step (L i) = .br (decide ((i : Int) < (n : Int))) (.ob (decide (0 <= (i : Int) /\ (i : Int) < (n : Int))) (.ob (decide (0 <= (i : Int) /\ (i : Int) <= (n : Int))) (W i (.br (c i != 0) (.ret (.tup [.int .i64 i, .int .i64 (c i)])) (.next ρ (L (i64.wrap ((i : Int) + 1))) []))))) (.ret (.tup [.int .i64 0, .int .i64 0]))) :
 Ev step (L 0) (.tup [.int .i64 (firstI n c), .int .i64 (firstE n c)]) :=
 scan hn (fun i => c i != 0) (P := fun i => Ev step (L i) (.tup [.int .i64 (firstI n c), .int .i64 (firstE n c)])) (fun i hlt hj next => Ev.of (by rw [hst]; simp only [noAll, hWn, Bool.and_self]) (by
  rw [hst]
  refine evBrLt hlt (evObLt hlt (evOb (decide_eq_true (by omega)) (hW i _ _ (hQ i hlt) (evBr (fun hb => evRet ?_) (fun hb => evNext (next hb))))))
  rw [(first_some hlt hb hj).1, (first_some hlt hb hj).2])) (fun hj => Ev.of (by rw [hst]; simp only [noAll, hWn, Bool.and_self]) (by
  rw [hst]
  refine evBrGe (evRet ?_)
  rw [(first_none hj).1, (first_none hj).2]))
end
def SzOk (n : Nat) (f : Nat -> List V) : Prop := ∀ i, i < n -> (sv (hdV (f i))).size <= 9223372036854775807
end Go.Dx
namespace Go.Dx
open Go.IntKind (i64 u64 u8)
theorem ng {b : Bool} (h : (!!b) = true) : (!b) = false := by cases b <;> first | rfl | cases h
theorem ng' {b : Bool} (h : (!!b) = false) : (!b) = true := by cases b <;> first | rfl | cases h
end Go.Dx
namespace Go.Dx
open Go.IntKind (i64 u64 u8)
open Go.Sx Go.Proofs
def ctB3 : CTab := (134, .con C134) :: (135, .con C135) :: (78, .con C78) :: (54, .con C54) :: (48, .con C48) :: (102, .con C102) :: (81, .con C81) :: ctB2
theorem tabB3 : TabOk Tryz.prog eqs its ctB3 := .con ok134 (.con ok135 (.con ok78 (.con ok54 (.con ok48 (.con ok102 (.con ok81 (tabB2)))))))
def m103 (x0 x1 x2 x3 x4 x5 x6 : Int) : RT Empty := .obc (.obt (.obc (.obt (.obc (.obt (.obc (.obt (.br (decide (F85_0 (F84_0 x4 x0) (F84_1 x5 x1) (F84_0 x2 x0) (F84_1 x3 x1) <= 0)) (.obc (.obt (.ret (V.bool (decide (F85_0 (F84_0 x4 x0) (F84_1 x5 x1) (F84_0 x4 x0) (F84_1 x5 x1) <= i64.wrap (x6 * x6))))))) (.br (decide (F85_0 (F84_0 x2 x0) (F84_1 x3 x1) (F84_0 x2 x0) (F84_1 x3 x1) <= F85_0 (F84_0 x4 x0) (F84_1 x5 x1) (F84_0 x2 x0) (F84_1 x3 x1))) (.obc (.obt (.obc (.obt (.ret (V.bool (decide (F85_0 (F84_0 x4 x2) (F84_1 x5 x3) (F84_0 x4 x2) (F84_1 x5 x3) <= i64.wrap (x6 * x6))))))))) (.obc (.obt (.obc (.obt (.obc (.obt (.obc (.obt (.ret (V.bool (F135_0 (F134_0 (max (F127_0 (F84_0 x2 x0) (F84_1 x3 x1) (F84_0 x4 x0) (F84_1 x5 x1)) (i64.wrap (0 - F127_0 (F84_0 x2 x0) (F84_1 x3 x1) (F84_0 x4 x0) (F84_1 x5 x1)))) (max (F127_0 (F84_0 x2 x0) (F84_1 x3 x1) (F84_0 x4 x0) (F84_1 x5 x1)) (i64.wrap (0 - F127_0 (F84_0 x2 x0) (F84_1 x3 x1) (F84_0 x4 x0) (F84_1 x5 x1))))) (F134_1 (max (F127_0 (F84_0 x2 x0) (F84_1 x3 x1) (F84_0 x4 x0) (F84_1 x5 x1)) (i64.wrap (0 - F127_0 (F84_0 x2 x0) (F84_1 x3 x1) (F84_0 x4 x0) (F84_1 x5 x1)))) (max (F127_0 (F84_0 x2 x0) (F84_1 x3 x1) (F84_0 x4 x0) (F84_1 x5 x1)) (i64.wrap (0 - F127_0 (F84_0 x2 x0) (F84_1 x3 x1) (F84_0 x4 x0) (F84_1 x5 x1))))) (F134_0 (i64.wrap (x6 * x6)) (F85_0 (F84_0 x2 x0) (F84_1 x3 x1) (F84_0 x2 x0) (F84_1 x3 x1))) (F134_1 (i64.wrap (x6 * x6)) (F85_0 (F84_0 x2 x0) (F84_1 x3 x1) (F84_0 x2 x0) (F84_1 x3 x1)))))))))))))))))))))))
theorem run103 (x0 x1 x2 x3 x4 x5 x6 : Int) : Fit noD (runL JJ ctB3 u0 s103 [V.agg [vi x0, vi x1, vi x2, vi x3], V.agg [vi x4, vi x5], vi x6]) (m103 x0 x1 x2 x3 x4 x5 x6) := ⟨by kernel_rfl, by kernel_rfl⟩
def F103_0 (x0 x1 x2 x3 x4 x5 x6 : Int) : Bool := bif decide (F85_0 (F84_0 x4 x0) (F84_1 x5 x1) (F84_0 x2 x0) (F84_1 x3 x1) <= 0) then decide (F85_0 (F84_0 x4 x0) (F84_1 x5 x1) (F84_0 x4 x0) (F84_1 x5 x1) <= i64.wrap (x6 * x6)) else bif decide (F85_0 (F84_0 x2 x0) (F84_1 x3 x1) (F84_0 x2 x0) (F84_1 x3 x1) <= F85_0 (F84_0 x4 x0) (F84_1 x5 x1) (F84_0 x2 x0) (F84_1 x3 x1)) then decide (F85_0 (F84_0 x4 x2) (F84_1 x5 x3) (F84_0 x4 x2) (F84_1 x5 x3) <= i64.wrap (x6 * x6)) else F135_0 (F134_0 (max (F127_0 (F84_0 x2 x0) (F84_1 x3 x1) (F84_0 x4 x0) (F84_1 x5 x1)) (i64.wrap (0 - F127_0 (F84_0 x2 x0) (F84_1 x3 x1) (F84_0 x4 x0) (F84_1 x5 x1)))) (max (F127_0 (F84_0 x2 x0) (F84_1 x3 x1) (F84_0 x4 x0) (F84_1 x5 x1)) (i64.wrap (0 - F127_0 (F84_0 x2 x0) (F84_1 x3 x1) (F84_0 x4 x0) (F84_1 x5 x1))))) (F134_1 (max (F127_0 (F84_0 x2 x0) (F84_1 x3 x1) (F84_0 x4 x0) (F84_1 x5 x1)) (i64.wrap (0 - F127_0 (F84_0 x2 x0) (F84_1 x3 x1) (F84_0 x4 x0) (F84_1 x5 x1)))) (max (F127_0 (F84_0 x2 x0) (F84_1 x3 x1) (F84_0 x4 x0) (F84_1 x5 x1)) (i64.wrap (0 - F127_0 (F84_0 x2 x0) (F84_1 x3 x1) (F84_0 x4 x0) (F84_1 x5 x1))))) (F134_0 (i64.wrap (x6 * x6)) (F85_0 (F84_0 x2 x0) (F84_1 x3 x1) (F84_0 x2 x0) (F84_1 x3 x1))) (F134_1 (i64.wrap (x6 * x6)) (F85_0 (F84_0 x2 x0) (F84_1 x3 x1) (F84_0 x2 x0) (F84_1 x3 x1)))
def R103 (x0 x1 x2 x3 x4 x5 x6 : Int) : V := .bool (F103_0 x0 x1 x2 x3 x4 x5 x6)
theorem ev103 (x0 x1 x2 x3 x4 x5 x6 : Int) : evR noE (m103 x0 x1 x2 x3 x4 x5 x6) (R103 x0 x1 x2 x3 x4 x5 x6) := evObc (evObt (evObc (evObt (evObc (evObt (evObc (evObt (evBr (fun h0 => evObc (evObt (evRet (by unfold R103 F103_0; try rw [h0]; rfl)))) (fun h0 => evBr (fun h1 => evObc (evObt (evObc (evObt (evRet (by unfold R103 F103_0; try rw [h0]; try rw [h1]; rfl)))))) (fun h1 => evObc (evObt (evObc (evObt (evObc (evObt (evObc (evObt (evRet (by unfold R103 F103_0; try rw [h0]; try rw [h1]; rfl)))))))))))))))))))
def C103 : PCon := mkC [.agg tp4, .agg tp2, .int .i64] (fun _ => True) fun
 | [.agg [.int _ x0, .int _ x1, .int _ x2, .int _ x3], .agg [.int _ x4, .int _ x5], .int _ x6] => R103 x0 x1 x2 x3 x4 x5 x6
 | _ => .any
theorem ok103 : (vP C103).Ok Tryz.prog 103 := mkE tabB3 Tryz.func103 (by kernel_rfl) fun ds hp => rf0 (run103 ..) (ev103 _ _ _ _ _ _ _)
def m100 (x0 : Int) : RT Empty := .obc (.obt (.ret (V.bool (F86_0 x0 (-100000) 100000))))
theorem run100 (x0 : Int) : Fit noD (runL JJ ctB3 u0 s100 [vi x0]) (m100 x0) := ⟨by kernel_rfl, by kernel_rfl⟩
def F100_0 (x0 : Int) : Bool := F86_0 x0 (-100000) 100000
def R100 (x0 : Int) : V := .bool (F100_0 x0)
theorem ev100 (x0 : Int) : evR noE (m100 x0) (R100 x0) := evObc (evObt (evRet (by unfold R100 F100_0; rfl)))
def C100 : PCon := mkC tp1 (fun _ => True) fun
 | [.int _ x0] => R100 x0
 | _ => .any
theorem ok100 : (vP C100).Ok Tryz.prog 100 := mkE tabB3 Tryz.func100 (by kernel_rfl) fun ds hp => rf0 (run100 ..) (ev100 _)
def ctB4 : CTab := (103, .con C103) :: (100, .con C100) :: ctB3
theorem tabB4 : TabOk Tryz.prog eqs its ctB4 := .con ok103 (.con ok100 (tabB3))
def m112 (s0 : ByteArray) (x1 : Int) (n2 : Nat) (f2 : FnV) (x4 : Int) (s5 : ByteArray) (x6 : Int) (n7 : Nat) (f7 : FnV) (x9 : Int) : RT Empty := .ret (V.bool (s0.toList == s5.toList))
theorem run112 (s0 : ByteArray) (x1 : Int) (n2 : Nat) (f2 : FnV) (x4 : Int) (s5 : ByteArray) (x6 : Int) (n7 : Nat) (f7 : FnV) (x9 : Int) : Fit noD (runL JJ ctB4 u0 s112 [V.agg [V.str s0, vi x1, V.sl n2 (elV tp2 f2), vi x4], V.pd [V.str s5, vi x6, V.sl n7 (elV tp2 f7), vi x9]]) (m112 s0 x1 n2 f2 x4 s5 x6 n7 f7 x9) := ⟨by kernel_rfl, by kernel_rfl⟩
def F112_0 (s0 : ByteArray) (s5 : ByteArray) : Bool := s0.toList == s5.toList
def R112 (s0 : ByteArray) (x1 : Int) (n2 : Nat) (f2 : FnV) (x4 : Int) (s5 : ByteArray) (x6 : Int) (n7 : Nat) (f7 : FnV) (x9 : Int) : V := .bool (F112_0 s0 s5)
theorem ev112 (s0 : ByteArray) (x1 : Int) (n2 : Nat) (f2 : FnV) (x4 : Int) (s5 : ByteArray) (x6 : Int) (n7 : Nat) (f7 : FnV) (x9 : Int) : evR noE (m112 s0 x1 n2 f2 x4 s5 x6 n7 f7 x9) (R112 s0 x1 n2 f2 x4 s5 x6 n7 f7 x9) := evRet (by unfold R112 F112_0; rfl)
def C112 : PCon := mkC [.agg tyR, .pd tyR] (fun _ => True) fun
 | [.agg [.str s0, .int _ x1, .sl n2 f2, .int _ x4], .pd [.str s5, .int _ x6, .sl n7 f7, .int _ x9]] => R112 s0 x1 n2 f2 x4 s5 x6 n7 f7 x9
 | _ => .any
theorem ok112 : (vP C112).Ok Tryz.prog 112 := mkE tabB4 Tryz.func112 (by kernel_rfl) fun ds hp => rf0 (run112 ..) (ev112 _ _ _ _ _ _ _ _ _ _)
def m118 (x0 x1 x2 x3 : Int) : RT Empty := .obc (.obt (.obi (.obi (.obi (.br (!F86_0 x1 1 1000) (.ob (!F86_0 x1 1 1000) (.ob (!F86_0 x1 1 1000) (.obc (.obt (.obi (.br (!F86_0 x0 0 (i64.wrap (x1 - 1))) (.ob (!F86_0 x0 0 (i64.wrap (x1 - 1))) (.obc (.obt (.obi (.obi (.obi (.br (!F86_0 x3 1 1000) (.ob (!F86_0 x3 1 1000) (.ob (!F86_0 x3 1 1000) (.obc (.obt (.ret (V.bool (F86_0 x2 0 (i64.wrap (x3 - 1))))))))) (.ret (V.kb true))))))))) (.ret (V.kb true)))))))) (.ret (V.kb true)))))))
theorem run118 (x0 x1 x2 x3 : Int) : Fit noD (runL JJ ctB4 u0 s118 [V.agg [vi x0, vi x1, vi x2, vi x3]]) (m118 x0 x1 x2 x3) := ⟨by kernel_rfl, by kernel_rfl⟩
def F118_0 (x0 x1 x2 x3 : Int) : Bool := bif !F86_0 x1 1 1000 then bif !F86_0 x0 0 (i64.wrap (x1 - 1)) then bif !F86_0 x3 1 1000 then F86_0 x2 0 (i64.wrap (x3 - 1)) else true else true else true
def R118 (x0 x1 x2 x3 : Int) : V := .bool (F118_0 x0 x1 x2 x3)
theorem ev118 (x0 x1 x2 x3 : Int) : evR noE (m118 x0 x1 x2 x3) (R118 x0 x1 x2 x3) := evObc (evObt (evObi (evObi (evObi (evBr (fun h0 => evOb (by first | assumption | (fail)) (evOb (by first | assumption | (fail)) (evObc (evObt (evObi (evBr (fun h1 => evOb (by first | assumption | (fail)) (evObc (evObt (evObi (evObi (evObi (evBr (fun h2 => evOb (by first | assumption | (fail)) (evOb (by first | assumption | (fail)) (evObc (evObt (evRet (by unfold R118 F118_0; try rw [h0]; try rw [h1]; try rw [h2]; rfl)))))) (fun h2 => evRet (by unfold R118 F118_0; try rw [h0]; try rw [h1]; try rw [h2]; rfl))))))))) (fun h1 => evRet (by unfold R118 F118_0; try rw [h0]; try rw [h1]; rfl)))))))) (fun h0 => evRet (by unfold R118 F118_0; try rw [h0]; rfl)))))))
def C118 : PCon := mkC [.agg tp4] (fun _ => True) fun
 | [.agg [.int _ x0, .int _ x1, .int _ x2, .int _ x3]] => R118 x0 x1 x2 x3
 | _ => .any
theorem ok118 : (vP C118).Ok Tryz.prog 118 := mkE tabB4 Tryz.func118 (by kernel_rfl) fun ds hp => rf0 (run118 ..) (ev118 _ _ _ _)
def m120 (s0 : ByteArray) (x1 x2 x3 x4 x5 : Int) (s6 : ByteArray) (x7 x8 x9 x10 x11 : Int) : RT Empty := .ret (V.bool (s0.toList == s6.toList))
theorem run120 (s0 : ByteArray) (x1 x2 x3 x4 x5 : Int) (s6 : ByteArray) (x7 x8 x9 x10 x11 : Int) : Fit noD (runL JJ ctB4 u0 s120 [V.agg [V.str s0, vi x1, vi x2, vi x3, vi x4, vi x5], V.pd [V.str s6, vi x7, vi x8, vi x9, vi x10, vi x11]]) (m120 s0 x1 x2 x3 x4 x5 s6 x7 x8 x9 x10 x11) := ⟨by kernel_rfl, by kernel_rfl⟩
def F120_0 (s0 : ByteArray) (s6 : ByteArray) : Bool := s0.toList == s6.toList
def R120 (s0 : ByteArray) (x1 x2 x3 x4 x5 : Int) (s6 : ByteArray) (x7 x8 x9 x10 x11 : Int) : V := .bool (F120_0 s0 s6)
theorem ev120 (s0 : ByteArray) (x1 x2 x3 x4 x5 : Int) (s6 : ByteArray) (x7 x8 x9 x10 x11 : Int) : evR noE (m120 s0 x1 x2 x3 x4 x5 s6 x7 x8 x9 x10 x11) (R120 s0 x1 x2 x3 x4 x5 s6 x7 x8 x9 x10 x11) := evRet (by unfold R120 F120_0; rfl)
def C120 : PCon := mkC [.agg tyC, .pd tyC] (fun _ => True) fun
 | [.agg [.str s0, .int _ x1, .int _ x2, .int _ x3, .int _ x4, .int _ x5], .pd [.str s6, .int _ x7, .int _ x8, .int _ x9, .int _ x10, .int _ x11]] => R120 s0 x1 x2 x3 x4 x5 s6 x7 x8 x9 x10 x11
 | _ => .any
theorem ok120 : (vP C120).Ok Tryz.prog 120 := mkE tabB4 Tryz.func120 (by kernel_rfl) fun ds hp => rf0 (run120 ..) (ev120 _ _ _ _ _ _ _ _ _ _ _ _)
inductive S51 where
 | L0 (ia0 : Int)
def inv51 (n0 : Nat) (f0 : FnV) : S51 -> Env × List O × Option Ex
 | .L0 ia0 => ([(3, vi ia0), (2, V.kb false), (0, V.sl n0 (elV tp1 f0))], [], none)
def id51 : S51 -> JJ
 | .L0 ia0 => (0, [])
def rl51 (n0 : Nat) (f0 : FnV) : T (Leaf JJ) := runL JJ ctB4 u0 s51 [V.sl n0 (elV tp1 f0)]
def lp51_0 (n0 : Nat) (f0 : FnV) (cx : List Cx) : Lp JJ := lpT (atT (rl51 n0 f0) [])
def lp51 (n0 : Nat) (f0 : FnV) : JJ -> Lp JJ
 | (0, cx) => lp51_0 n0 f0 cx
 | (_, cx) => lp51_0 n0 f0 cx
def D51 (n0 : Nat) (f0 : FnV) : LD JJ S51 := ⟨id51, lp51 n0 f0, inv51 n0 f0⟩
def st51 (n0 : Nat) (f0 : FnV) : S51 -> RT S51
 | .L0 ia0 => .asm (true = true -> n0 <= 9223372036854775807) (.br (decide (ia0 < (↑n0 : Int))) (.ob (decide (0 <= ia0 /\ ia0 < (↑n0 : Int))) (.obc (.obt (.br (!F71_0 (jv0 (f0 ia0.toNat)) (-100000) 100000) (.ret (V.kb false)) (.next [] (S51.L0 (i64.wrap (ia0 + 1))) []))))) (.ret (V.kb true)))
def m51 (n0 : Nat) (f0 : FnV) : RT S51 := .enter [] (S51.L0 (0)) []
theorem run51 (n0 : Nat) (f0 : FnV) : Fits ctB4 u0 (D51 n0 f0) (rl51 n0 f0) (m51 n0 f0) (st51 n0 f0) := ⟨⟨by kernel_rfl, by kernel_rfl⟩, fun s => by cases s <;> exact ⟨by kernel_rfl, by kernel_rfl⟩⟩
def F51 (n0 : Nat) (f0 : FnV) : Bool := allB n0 fun i => F71_0 (jv0 (f0 i)) (-100000) 100000
theorem ev51_0 (n0 : Nat) (f0 : FnV) : evR (Ev (st51 n0 f0)) (m51 n0 f0) (.bool (F51 n0 f0)) := by
 refine evEnter ?_
 have key := up_ind (n := n0) (P := fun i => (∀ j, j < i -> F71_0 (jv0 (f0 j)) (-100000) 100000 = true) -> Ev (st51 n0 f0) (.L0 i) (.bool (F51 n0 f0))) fun i hi ih hj => by
  refine Ev.of rfl (evAsm1 fun hn => evBr (fun h => ?_) (fun h => evRet ?_))
  ·have hlt : i < n0 := by simpa using h
   refine evOb (by simpa using hlt) (evObc (evObt (evBr (fun hb => evRet ?_) (fun hb => evNext ?_))))
   ·simp only [toA]; unfold F51; rw [allB_false i hlt (by simpa using hb)]
   ·rw [wrapS hlt hn]; exact ih hlt fun j h1 => by
     by_cases e : j = i
     ·subst e; simpa using hb
     ·exact hj j (by omega)
  ·have : i = n0 := by
    have : ¬ i < n0 := by simpa using h
    omega
   subst this
   simp only [toA]; unfold F51; rw [allB_of hj]
 exact key 0 (Nat.zero_le _) fun j hj => by omega
theorem ev51 (n0 : Nat) (f0 : FnV) : evR (Ev (st51 n0 f0)) (m51 n0 f0) (.bool (F51 n0 (elV tp1 f0))) := ev51_0 n0 f0
def C51 : PCon := mkC [.sl tp1] (fun _ => True) fun
 | [.sl n0 f0] => .bool (F51 n0 f0)
 | _ => .any
theorem ok51 : (vP C51).Ok Tryz.prog 51 := mkE tabB4 Tryz.func51 (by kernel_rfl) fun ds hp => rfs (run51 ..) (ev51 _ _)
inductive S133 where
 | L0 (ia0 : Int)
def inv133 (n0 : Nat) (f0 : FnV) : S133 -> Env × List O × Option Ex
 | .L0 ia0 => ([(8, vi ia0), (7, vi (↑n0 : Int)), (6, V.sl n0 (elV tp1 f0)), (4, vi 0), (0, V.sl n0 (elV tp1 f0)), (1, V.fn 100 [] [])], [], none)
def id133 : S133 -> JJ
 | .L0 ia0 => (0, [])
def rl133 (n0 : Nat) (f0 : FnV) : T (Leaf JJ) := runL JJ ctB4 u0 s133 [V.sl n0 (elV tp1 f0), V.fn 100 [] []]
def lp133_0 (n0 : Nat) (f0 : FnV) (cx : List Cx) : Lp JJ := lpT (atT (rl133 n0 f0) [])
def lp133 (n0 : Nat) (f0 : FnV) : JJ -> Lp JJ
 | (0, cx) => lp133_0 n0 f0 cx
 | (_, cx) => lp133_0 n0 f0 cx
def D133 (n0 : Nat) (f0 : FnV) : LD JJ S133 := ⟨id133, lp133 n0 f0, inv133 n0 f0⟩
def st133 (n0 : Nat) (f0 : FnV) : S133 -> RT S133
 | .L0 ia0 => .br (decide (ia0 < (↑n0 : Int))) (.ob (decide (0 <= ia0 /\ ia0 < (↑n0 : Int))) (.obc (.obt (.br (F100_0 (jv0 (f0 ia0.toNat))) (.ret (vi ia0)) (.next [] (S133.L0 (i64.wrap (ia0 + 1))) []))))) (.ret (vi (-1)))
def m133 (n0 : Nat) (f0 : FnV) : RT S133 := .asm (true = true -> n0 <= 9223372036854775807) (.enter [] (S133.L0 (0)) [])
theorem run133 (n0 : Nat) (f0 : FnV) : Fits ctB4 u0 (D133 n0 f0) (rl133 n0 f0) (m133 n0 f0) (st133 n0 f0) := ⟨⟨by kernel_rfl, by kernel_rfl⟩, fun s => by cases s <;> exact ⟨by kernel_rfl, by kernel_rfl⟩⟩
def F133 (n0 : Nat) (f0 : FnV) : Int   := idx n0 fun ii => F100_0 (jv0 (f0 ii))
theorem ev133_0 (n0 : Nat) (f0 : FnV) : evR (Ev (st133 n0 f0)) (m133 n0 f0) (.int .i64 (F133 n0 f0)) := evAsm1 fun hn => evEnter (idx_ev hn fun i => rfl)
theorem ev133 (n0 : Nat) (f0 : FnV) : evR (Ev (st133 n0 f0)) (m133 n0 f0) (.int .i64 (F133 n0 (elV tp1 f0))) := ev133_0 n0 f0
def C133 : PCon := mkC [.sl tp1, .fn 100 [] []] (fun _ => True) fun
 | [.sl n0 f0, .fn _ [] []] => .int .i64 (F133 n0 f0)
 | _ => .any
theorem ok133 : (vP C133).Ok Tryz.prog 133 := mkE tabB4 Tryz.func133 (by kernel_rfl) fun ds hp => rfs (run133 ..) (ev133 _ _)
def ctB5 : CTab := (112, .con C112) :: (118, .con C118) :: (120, .con C120) :: (51, .con C51) :: (133, .con C133) :: ctB4
theorem tabB5 : TabOk Tryz.prog eqs its ctB5 := .con ok112 (.con ok118 (.con ok120 (.con ok51 (.con ok133 (tabB4)))))
def m99 (n0 : Nat) (f0 : FnV) : RT Empty := .obc (.obt (.ret (V.bool (decide (0 <= F133 n0 (elV tp1 f0))))))
theorem run99 (n0 : Nat) (f0 : FnV) : Fit noD (runL JJ ctB5 u0 s99 [V.sl n0 (elV tp1 f0), V.fn 100 [] []]) (m99 n0 f0) := ⟨by kernel_rfl, by kernel_rfl⟩
def F99_0 (n0 : Nat) (f0 : FnV) : Bool := decide (0 <= F133 n0 (elV tp1 f0))
def R99 (n0 : Nat) (f0 : FnV) : V := .bool (F99_0 n0 f0)
theorem ev99 (n0 : Nat) (f0 : FnV) : evR noE (m99 n0 f0) (R99 n0 f0) := evObc (evObt (evRet (by unfold R99 F99_0; rfl)))
def C99 : PCon := mkC [.sl tp1, .fn 100 [] []] (fun _ => True) fun
 | [.sl n0 f0, .fn _ [] []] => R99 n0 f0
 | _ => .any
theorem ok99 : (vP C99).Ok Tryz.prog 99 := mkE tabB5 Tryz.func99 (by kernel_rfl) fun ds hp => rf0 (run99 ..) (ev99 _ _)
inductive S129 where
 | L0 (ia0 : Int)
def inv129 (n0 : Nat) (f0 : FnV) (s2 : ByteArray) (x3 : Int) (n4 : Nat) (f4 : FnV) (x6 : Int) : S129 -> Env × List O × Option Ex
 | .L0 ia0 => ([(8, vi ia0), (7, vi (↑n0 : Int)), (6, V.sl n0 (elV tyR f0)), (4, vi 0), (0, V.sl n0 (elV tyR f0)), (1, V.fn 112 [] [V.pd [V.str s2, vi x3, V.sl n4 (elV tp2 f4), vi x6]])], [], none)
def id129 : S129 -> JJ
 | .L0 ia0 => (0, [])
def rl129 (n0 : Nat) (f0 : FnV) (s2 : ByteArray) (x3 : Int) (n4 : Nat) (f4 : FnV) (x6 : Int) : T (Leaf JJ) := runL JJ ctB5 u0 s129 [V.sl n0 (elV tyR f0), V.fn 112 [] [V.pd [V.str s2, vi x3, V.sl n4 (elV tp2 f4), vi x6]]]
def lp129_0 (n0 : Nat) (f0 : FnV) (s2 : ByteArray) (x3 : Int) (n4 : Nat) (f4 : FnV) (x6 : Int) (cx : List Cx) : Lp JJ := lpT (atT (rl129 n0 f0 s2 x3 n4 f4 x6) [])
def lp129 (n0 : Nat) (f0 : FnV) (s2 : ByteArray) (x3 : Int) (n4 : Nat) (f4 : FnV) (x6 : Int) : JJ -> Lp JJ
 | (0, cx) => lp129_0 n0 f0 s2 x3 n4 f4 x6 cx
 | (_, cx) => lp129_0 n0 f0 s2 x3 n4 f4 x6 cx
def D129 (n0 : Nat) (f0 : FnV) (s2 : ByteArray) (x3 : Int) (n4 : Nat) (f4 : FnV) (x6 : Int) : LD JJ S129 := ⟨id129, lp129 n0 f0 s2 x3 n4 f4 x6, inv129 n0 f0 s2 x3 n4 f4 x6⟩
def st129 (n0 : Nat) (f0 : FnV) (s2 : ByteArray) (x3 : Int) (n4 : Nat) (f4 : FnV) (x6 : Int) : S129 -> RT S129
 | .L0 ia0 => .br (decide (ia0 < (↑n0 : Int))) (.ob (decide (0 <= ia0 /\ ia0 < (↑n0 : Int))) (.obc (.obt (.br (F112_0 (sv (hdV (f0 ia0.toNat))) s2) (.ret (vi ia0)) (.next [] (S129.L0 (i64.wrap (ia0 + 1))) []))))) (.ret (vi (-1)))
def m129 (n0 : Nat) (f0 : FnV) (s2 : ByteArray) (x3 : Int) (n4 : Nat) (f4 : FnV) (x6 : Int) : RT S129 := .asm (true = true -> n0 <= 9223372036854775807) (.enter [] (S129.L0 (0)) [])
theorem run129 (n0 : Nat) (f0 : FnV) (s2 : ByteArray) (x3 : Int) (n4 : Nat) (f4 : FnV) (x6 : Int) : Fits ctB5 u0 (D129 n0 f0 s2 x3 n4 f4 x6) (rl129 n0 f0 s2 x3 n4 f4 x6) (m129 n0 f0 s2 x3 n4 f4 x6) (st129 n0 f0 s2 x3 n4 f4 x6) := ⟨⟨by kernel_rfl, by kernel_rfl⟩, fun s => by cases s <;> exact ⟨by kernel_rfl, by kernel_rfl⟩⟩
def F129 (n0 : Nat) (f0 : FnV) (s2 : ByteArray) : Int   := idx n0 fun ii => F112_0 (sv (hdV (f0 ii))) s2
theorem ev129_0 (n0 : Nat) (f0 : FnV) (s2 : ByteArray) (x3 : Int) (n4 : Nat) (f4 : FnV) (x6 : Int) : evR (Ev (st129 n0 f0 s2 x3 n4 f4 x6)) (m129 n0 f0 s2 x3 n4 f4 x6) (.int .i64 (F129 n0 f0 s2)) := evAsm1 fun hn => evEnter (idx_ev hn fun i => rfl)
theorem ev129 (n0 : Nat) (f0 : FnV) (s2 : ByteArray) (x3 : Int) (n4 : Nat) (f4 : FnV) (x6 : Int) : evR (Ev (st129 n0 f0 s2 x3 n4 f4 x6)) (m129 n0 f0 s2 x3 n4 f4 x6) (.int .i64 (F129 n0 (elV tyR f0) s2)) := ev129_0 n0 f0 s2 x3 n4 f4 x6
def C129 : PCon := mkC [.sl tyR, .fn 112 [] [.pd tyR]] (fun _ => True) fun
 | [.sl n0 f0, .fn _ [] [.pd [.str s2, .int _ x3, .sl n4 f4, .int _ x6]]] => .int .i64 (F129 n0 f0 s2)
 | _ => .any
theorem ok129 : (vP C129).Ok Tryz.prog 129 := mkE tabB5 Tryz.func129 (by kernel_rfl) fun ds hp => rfs (run129 ..) (ev129 _ _ _ _ _ _ _)
inductive S148 where
 | L0 (ia0 : Int)
def inv148 (n0 : Nat) (f0 : FnV) : S148 -> Env × List O × Option Ex
 | .L0 ia0 => ([(8, vi ia0), (7, vi (↑n0 : Int)), (6, V.sl n0 (elV tp4 f0)), (4, vi 0), (0, V.sl n0 (elV tp4 f0)), (1, V.fn 118 [] [])], [], none)
def id148 : S148 -> JJ
 | .L0 ia0 => (0, [])
def rl148 (n0 : Nat) (f0 : FnV) : T (Leaf JJ) := runL JJ ctB5 u0 s148 [V.sl n0 (elV tp4 f0), V.fn 118 [] []]
def lp148_0 (n0 : Nat) (f0 : FnV) (cx : List Cx) : Lp JJ := lpT (atT (rl148 n0 f0) [])
def lp148 (n0 : Nat) (f0 : FnV) : JJ -> Lp JJ
 | (0, cx) => lp148_0 n0 f0 cx
 | (_, cx) => lp148_0 n0 f0 cx
def D148 (n0 : Nat) (f0 : FnV) : LD JJ S148 := ⟨id148, lp148 n0 f0, inv148 n0 f0⟩
def st148 (n0 : Nat) (f0 : FnV) : S148 -> RT S148
 | .L0 ia0 => .br (decide (ia0 < (↑n0 : Int))) (.ob (decide (0 <= ia0 /\ ia0 < (↑n0 : Int))) (.obc (.obt (.br (F118_0 (jv0 (f0 ia0.toNat)) (jv1 (f0 ia0.toNat)) (jv2 (f0 ia0.toNat)) (jv3 (f0 ia0.toNat))) (.ret (vi ia0)) (.next [] (S148.L0 (i64.wrap (ia0 + 1))) []))))) (.ret (vi (-1)))
def m148 (n0 : Nat) (f0 : FnV) : RT S148 := .asm (true = true -> n0 <= 9223372036854775807) (.enter [] (S148.L0 (0)) [])
theorem run148 (n0 : Nat) (f0 : FnV) : Fits ctB5 u0 (D148 n0 f0) (rl148 n0 f0) (m148 n0 f0) (st148 n0 f0) := ⟨⟨by kernel_rfl, by kernel_rfl⟩, fun s => by cases s <;> exact ⟨by kernel_rfl, by kernel_rfl⟩⟩
def F148 (n0 : Nat) (f0 : FnV) : Int   := idx n0 fun ii => F118_0 (jv0 (f0 ii)) (jv1 (f0 ii)) (jv2 (f0 ii)) (jv3 (f0 ii))
theorem ev148_0 (n0 : Nat) (f0 : FnV) : evR (Ev (st148 n0 f0)) (m148 n0 f0) (.int .i64 (F148 n0 f0)) := evAsm1 fun hn => evEnter (idx_ev hn fun i => rfl)
theorem ev148 (n0 : Nat) (f0 : FnV) : evR (Ev (st148 n0 f0)) (m148 n0 f0) (.int .i64 (F148 n0 (elV tp4 f0))) := ev148_0 n0 f0
def C148 : PCon := mkC [.sl tp4, .fn 118 [] []] (fun _ => True) fun
 | [.sl n0 f0, .fn _ [] []] => .int .i64 (F148 n0 f0)
 | _ => .any
theorem ok148 : (vP C148).Ok Tryz.prog 148 := mkE tabB5 Tryz.func148 (by kernel_rfl) fun ds hp => rfs (run148 ..) (ev148 _ _)
inductive S149 where
 | L0 (ia0 : Int)
def inv149 (n0 : Nat) (f0 : FnV) (s2 : ByteArray) (x3 x4 x5 x6 x7 : Int) : S149 -> Env × List O × Option Ex
 | .L0 ia0 => ([(8, vi ia0), (7, vi (↑n0 : Int)), (6, V.sl n0 (elV tyC f0)), (4, vi 0), (0, V.sl n0 (elV tyC f0)), (1, V.fn 120 [] [V.pd [V.str s2, vi x3, vi x4, vi x5, vi x6, vi x7]])], [], none)
def id149 : S149 -> JJ
 | .L0 ia0 => (0, [])
def rl149 (n0 : Nat) (f0 : FnV) (s2 : ByteArray) (x3 x4 x5 x6 x7 : Int) : T (Leaf JJ) := runL JJ ctB5 u0 s149 [V.sl n0 (elV tyC f0), V.fn 120 [] [V.pd [V.str s2, vi x3, vi x4, vi x5, vi x6, vi x7]]]
def lp149_0 (n0 : Nat) (f0 : FnV) (s2 : ByteArray) (x3 x4 x5 x6 x7 : Int) (cx : List Cx) : Lp JJ := lpT (atT (rl149 n0 f0 s2 x3 x4 x5 x6 x7) [])
def lp149 (n0 : Nat) (f0 : FnV) (s2 : ByteArray) (x3 x4 x5 x6 x7 : Int) : JJ -> Lp JJ
 | (0, cx) => lp149_0 n0 f0 s2 x3 x4 x5 x6 x7 cx
 | (_, cx) => lp149_0 n0 f0 s2 x3 x4 x5 x6 x7 cx
def D149 (n0 : Nat) (f0 : FnV) (s2 : ByteArray) (x3 x4 x5 x6 x7 : Int) : LD JJ S149 := ⟨id149, lp149 n0 f0 s2 x3 x4 x5 x6 x7, inv149 n0 f0 s2 x3 x4 x5 x6 x7⟩
def st149 (n0 : Nat) (f0 : FnV) (s2 : ByteArray) (x3 x4 x5 x6 x7 : Int) : S149 -> RT S149
 | .L0 ia0 => .br (decide (ia0 < (↑n0 : Int))) (.ob (decide (0 <= ia0 /\ ia0 < (↑n0 : Int))) (.obc (.obt (.br (F120_0 (sv (hdV (f0 ia0.toNat))) s2) (.ret (vi ia0)) (.next [] (S149.L0 (i64.wrap (ia0 + 1))) []))))) (.ret (vi (-1)))
def m149 (n0 : Nat) (f0 : FnV) (s2 : ByteArray) (x3 x4 x5 x6 x7 : Int) : RT S149 := .asm (true = true -> n0 <= 9223372036854775807) (.enter [] (S149.L0 (0)) [])
theorem run149 (n0 : Nat) (f0 : FnV) (s2 : ByteArray) (x3 x4 x5 x6 x7 : Int) : Fits ctB5 u0 (D149 n0 f0 s2 x3 x4 x5 x6 x7) (rl149 n0 f0 s2 x3 x4 x5 x6 x7) (m149 n0 f0 s2 x3 x4 x5 x6 x7) (st149 n0 f0 s2 x3 x4 x5 x6 x7) := ⟨⟨by kernel_rfl, by kernel_rfl⟩, fun s => by cases s <;> exact ⟨by kernel_rfl, by kernel_rfl⟩⟩
def F149 (n0 : Nat) (f0 : FnV) (s2 : ByteArray) : Int   := idx n0 fun ii => F120_0 (sv (hdV (f0 ii))) s2
theorem ev149_0 (n0 : Nat) (f0 : FnV) (s2 : ByteArray) (x3 x4 x5 x6 x7 : Int) : evR (Ev (st149 n0 f0 s2 x3 x4 x5 x6 x7)) (m149 n0 f0 s2 x3 x4 x5 x6 x7) (.int .i64 (F149 n0 f0 s2)) := evAsm1 fun hn => evEnter (idx_ev hn fun i => rfl)
theorem ev149 (n0 : Nat) (f0 : FnV) (s2 : ByteArray) (x3 x4 x5 x6 x7 : Int) : evR (Ev (st149 n0 f0 s2 x3 x4 x5 x6 x7)) (m149 n0 f0 s2 x3 x4 x5 x6 x7) (.int .i64 (F149 n0 (elV tyC f0) s2)) := ev149_0 n0 f0 s2 x3 x4 x5 x6 x7
def C149 : PCon := mkC [.sl tyC, .fn 120 [] [.pd tyC]] (fun _ => True) fun
 | [.sl n0 f0, .fn _ [] [.pd [.str s2, .int _ x3, .int _ x4, .int _ x5, .int _ x6, .int _ x7]]] => .int .i64 (F149 n0 f0 s2)
 | _ => .any
theorem ok149 : (vP C149).Ok Tryz.prog 149 := mkE tabB5 Tryz.func149 (by kernel_rfl) fun ds hp => rfs (run149 ..) (ev149 _ _ _ _ _ _ _ _)
def ctB6 : CTab := (99, .con C99) :: (129, .con C129) :: (148, .con C148) :: (149, .con C149) :: ctB5
theorem tabB6 : TabOk Tryz.prog eqs its ctB6 := .con ok99 (.con ok129 (.con ok148 (.con ok149 (tabB5))))
def m45 (n0 : Nat) (f0 : FnV) : RT Empty := .obc (.obt (.ret (V.bool (F99_0 n0 (elV tp1 f0)))))
theorem run45 (n0 : Nat) (f0 : FnV) : Fit noD (runL JJ ctB6 u0 s45 [V.sl n0 (elV tp1 f0)]) (m45 n0 f0) := ⟨by kernel_rfl, by kernel_rfl⟩
def F45_0 (n0 : Nat) (f0 : FnV) : Bool := F99_0 n0 (elV tp1 f0)
def R45 (n0 : Nat) (f0 : FnV) : V := .bool (F45_0 n0 f0)
theorem ev45 (n0 : Nat) (f0 : FnV) : evR noE (m45 n0 f0) (R45 n0 f0) := evObc (evObt (evRet (by unfold R45 F45_0; rfl)))
def C45 : PCon := mkC [.sl tp1] (fun _ => True) fun
 | [.sl n0 f0] => R45 n0 f0
 | _ => .any
theorem ok45 : (vP C45).Ok Tryz.prog 45 := mkE tabB6 Tryz.func45 (by kernel_rfl) fun ds hp => rf0 (run45 ..) (ev45 _ _)
def m90 (n0 : Nat) (f0 : FnV) (s2 : ByteArray) (x3 : Int) (n4 : Nat) (f4 : FnV) (x6 : Int) : RT Empty := .obc (.obt (.ret (V.bool (decide (0 <= F129 n0 (elV tyR f0) s2)))))
theorem run90 (n0 : Nat) (f0 : FnV) (s2 : ByteArray) (x3 : Int) (n4 : Nat) (f4 : FnV) (x6 : Int) : Fit noD (runL JJ ctB6 u0 s90 [V.sl n0 (elV tyR f0), V.fn 112 [] [V.pd [V.str s2, vi x3, V.sl n4 (elV tp2 f4), vi x6]]]) (m90 n0 f0 s2 x3 n4 f4 x6) := ⟨by kernel_rfl, by kernel_rfl⟩
def F90_0 (n0 : Nat) (f0 : FnV) (s2 : ByteArray) : Bool := decide (0 <= F129 n0 (elV tyR f0) s2)
def R90 (n0 : Nat) (f0 : FnV) (s2 : ByteArray) (x3 : Int) (n4 : Nat) (f4 : FnV) (x6 : Int) : V := .bool (F90_0 n0 f0 s2)
theorem ev90 (n0 : Nat) (f0 : FnV) (s2 : ByteArray) (x3 : Int) (n4 : Nat) (f4 : FnV) (x6 : Int) : evR noE (m90 n0 f0 s2 x3 n4 f4 x6) (R90 n0 f0 s2 x3 n4 f4 x6) := evObc (evObt (evRet (by unfold R90 F90_0; rfl)))
def C90 : PCon := mkC [.sl tyR, .fn 112 [] [.pd tyR]] (fun _ => True) fun
 | [.sl n0 f0, .fn _ [] [.pd [.str s2, .int _ x3, .sl n4 f4, .int _ x6]]] => R90 n0 f0 s2 x3 n4 f4 x6
 | _ => .any
theorem ok90 : (vP C90).Ok Tryz.prog 90 := mkE tabB6 Tryz.func90 (by kernel_rfl) fun ds hp => rf0 (run90 ..) (ev90 _ _ _ _ _ _ _)
def m119 (n0 : Nat) (f0 : FnV) : RT Empty := .obc (.obt (.ret (V.bool (decide (0 <= F148 n0 (elV tp4 f0))))))
theorem run119 (n0 : Nat) (f0 : FnV) : Fit noD (runL JJ ctB6 u0 s119 [V.sl n0 (elV tp4 f0), V.fn 118 [] []]) (m119 n0 f0) := ⟨by kernel_rfl, by kernel_rfl⟩
def F119_0 (n0 : Nat) (f0 : FnV) : Bool := decide (0 <= F148 n0 (elV tp4 f0))
def R119 (n0 : Nat) (f0 : FnV) : V := .bool (F119_0 n0 f0)
theorem ev119 (n0 : Nat) (f0 : FnV) : evR noE (m119 n0 f0) (R119 n0 f0) := evObc (evObt (evRet (by unfold R119 F119_0; rfl)))
def C119 : PCon := mkC [.sl tp4, .fn 118 [] []] (fun _ => True) fun
 | [.sl n0 f0, .fn _ [] []] => R119 n0 f0
 | _ => .any
theorem ok119 : (vP C119).Ok Tryz.prog 119 := mkE tabB6 Tryz.func119 (by kernel_rfl) fun ds hp => rf0 (run119 ..) (ev119 _ _)
def m121 (n0 : Nat) (f0 : FnV) (s2 : ByteArray) (x3 x4 x5 x6 x7 : Int) : RT Empty := .obc (.obt (.ret (V.bool (decide (0 <= F149 n0 (elV tyC f0) s2)))))
theorem run121 (n0 : Nat) (f0 : FnV) (s2 : ByteArray) (x3 x4 x5 x6 x7 : Int) : Fit noD (runL JJ ctB6 u0 s121 [V.sl n0 (elV tyC f0), V.fn 120 [] [V.pd [V.str s2, vi x3, vi x4, vi x5, vi x6, vi x7]]]) (m121 n0 f0 s2 x3 x4 x5 x6 x7) := ⟨by kernel_rfl, by kernel_rfl⟩
def F121_0 (n0 : Nat) (f0 : FnV) (s2 : ByteArray) : Bool := decide (0 <= F149 n0 (elV tyC f0) s2)
def R121 (n0 : Nat) (f0 : FnV) (s2 : ByteArray) (x3 x4 x5 x6 x7 : Int) : V := .bool (F121_0 n0 f0 s2)
theorem ev121 (n0 : Nat) (f0 : FnV) (s2 : ByteArray) (x3 x4 x5 x6 x7 : Int) : evR noE (m121 n0 f0 s2 x3 x4 x5 x6 x7) (R121 n0 f0 s2 x3 x4 x5 x6 x7) := evObc (evObt (evRet (by unfold R121 F121_0; rfl)))
def C121 : PCon := mkC [.sl tyC, .fn 120 [] [.pd tyC]] (fun _ => True) fun
 | [.sl n0 f0, .fn _ [] [.pd [.str s2, .int _ x3, .int _ x4, .int _ x5, .int _ x6, .int _ x7]]] => R121 n0 f0 s2 x3 x4 x5 x6 x7
 | _ => .any
theorem ok121 : (vP C121).Ok Tryz.prog 121 := mkE tabB6 Tryz.func121 (by kernel_rfl) fun ds hp => rf0 (run121 ..) (ev121 _ _ _ _ _ _ _ _)
def ctB7 : CTab := (45, .con C45) :: (90, .con C90) :: (119, .con C119) :: (121, .con C121) :: ctB6
theorem tabB7 : TabOk Tryz.prog eqs its ctB7 := .con ok45 (.con ok90 (.con ok119 (.con ok121 (tabB6))))
def m113 (x0 x1 : Int) : RT Empty := .obt (.obt (.obc (.obt (.ret (V.bool (F45_0 2 (elV tp1 (secF [vi x0, vi x1] 0 1))))))))
theorem run113 (x0 x1 : Int) : Fit noD (runL JJ ctB7 u0 s113 [V.agg [vi x0, vi x1]]) (m113 x0 x1) := ⟨by kernel_rfl, by kernel_rfl⟩
def F113_0 (x0 x1 : Int) : Bool := F45_0 2 (elV tp1 (secF [vi x0, vi x1] 0 1))
def R113 (x0 x1 : Int) : V := .bool (F113_0 x0 x1)
theorem ev113 (x0 x1 : Int) : evR noE (m113 x0 x1) (R113 x0 x1) := evObt (evObt (evObc (evObt (evRet (by unfold R113 F113_0; rfl)))))
def C113 : PCon := mkC [.agg tp2] (fun _ => True) fun
 | [.agg [.int _ x0, .int _ x1]] => R113 x0 x1
 | _ => .any
theorem ok113 : (vP C113).Ok Tryz.prog 113 := mkE tabB7 Tryz.func113 (by kernel_rfl) fun ds hp => rf0 (run113 ..) (ev113 _ _)
def m65 (n0 : Nat) (f0 : FnV) (x2 x3 x4 x5 x6 : Int) : RT Empty := .obc (.obt (.obi (.br (!F45_0 2 (elV tp1 (secF [vi x2, vi x3] 0 1))) (.ob (!F45_0 2 (elV tp1 (secF [vi x2, vi x3] 0 1))) (.obc (.obt (.obi (.obi (.obi (.br (!F86_0 x4 1 20000) (.ob (!F86_0 x4 1 20000) (.ob (!F86_0 x4 1 20000) (.obc (.obt (.obi (.br (!F86_0 x5 0 (i64.wrap (x6 - 1))) (.ob (!F86_0 x5 0 (i64.wrap (x6 - 1))) (.obc (.obt (.br (F86_0 x6 1 1000) (.ret (vi 7)) (.ret (vi 0)))))) (.ret (vi 7)))))))) (.ret (vi 7))))))))) (.ret (vi 7)))))
theorem run65 (n0 : Nat) (f0 : FnV) (x2 x3 x4 x5 x6 : Int) : Fit noD (runL JJ ctB7 u0 s65 [V.sl n0 (elV tyT f0), V.agg [vi x2, vi x3, vi x4, vi x5, vi x6]]) (m65 n0 f0 x2 x3 x4 x5 x6) := ⟨by kernel_rfl, by kernel_rfl⟩
def F65_0 (x2 x3 x4 x5 x6 : Int) : Int := bif !F45_0 2 (elV tp1 (secF [vi x2, vi x3] 0 1)) then bif !F86_0 x4 1 20000 then bif !F86_0 x5 0 (i64.wrap (x6 - 1)) then bif F86_0 x6 1 1000 then 7 else 0 else 7 else 7 else 7
def R65 (n0 : Nat) (f0 : FnV) (x2 x3 x4 x5 x6 : Int) : V := .int i64 (F65_0 x2 x3 x4 x5 x6)
theorem ev65 (n0 : Nat) (f0 : FnV) (x2 x3 x4 x5 x6 : Int) : evR noE (m65 n0 f0 x2 x3 x4 x5 x6) (R65 n0 f0 x2 x3 x4 x5 x6) := evObc (evObt (evObi (evBr (fun h0 => evOb (by first | assumption | (fail)) (evObc (evObt (evObi (evObi (evObi (evBr (fun h1 => evOb (by first | assumption | (fail)) (evOb (by first | assumption | (fail)) (evObc (evObt (evObi (evBr (fun h2 => evOb (by first | assumption | (fail)) (evObc (evObt (evBr (fun h3 => evRet (by unfold R65 F65_0; try rw [h0]; try rw [h1]; try rw [h2]; try rw [h3]; rfl)) (fun h3 => evRet (by unfold R65 F65_0; try rw [h0]; try rw [h1]; try rw [h2]; try rw [h3]; rfl)))))) (fun h2 => evRet (by unfold R65 F65_0; try rw [h0]; try rw [h1]; try rw [h2]; rfl)))))))) (fun h1 => evRet (by unfold R65 F65_0; try rw [h0]; try rw [h1]; rfl))))))))) (fun h0 => evRet (by unfold R65 F65_0; try rw [h0]; rfl)))))
def C65 : PCon := mkC [.sl tyT, .agg tyT] (fun _ => True) fun
 | [.sl n0 f0, .agg [.int _ x2, .int _ x3, .int _ x4, .int _ x5, .int _ x6]] => R65 n0 f0 x2 x3 x4 x5 x6
 | _ => .any
theorem ok65 : (vP C65).Ok Tryz.prog 65 := mkE tabB7 Tryz.func65 (by kernel_rfl) fun ds hp => rf0 (run65 ..) (ev65 _ _ _ _ _ _ _)
def m67 (n0 : Nat) (f0 : FnV) (x2 x3 x4 x5 : Int) (n6 : Nat) (f6 : FnV) : RT Empty := .obt (.obt (.obt (.obt (.obc (.obt (.br (F45_0 4 (elV tp1 (secF [vi x2, vi x3, vi x4, vi x5] 0 1))) (.ret (vi 7)) (.br (x2 == x4 && (x3 == x5 && true)) (.ret (vi 2)) (.asm (true = true -> n6 <= 9223372036854775807) (.br (decide (6 < (↑n6 : Int))) (.ret (vi 3)) (.obc (.obt (.br (F119_0 n6 (elV tp4 f6)) (.ret (vi 7)) (.ret (vi 0))))))))))))))
theorem run67 (n0 : Nat) (f0 : FnV) (x2 x3 x4 x5 : Int) (n6 : Nat) (f6 : FnV) : Fit noD (runL JJ ctB7 u0 s67 [V.sl n0 (elV tyF f0), V.agg [vi x2, vi x3, vi x4, vi x5, V.sl n6 (elV tp4 f6)]]) (m67 n0 f0 x2 x3 x4 x5 n6 f6) := ⟨by kernel_rfl, by kernel_rfl⟩
def F67_0 (x2 x3 x4 x5 : Int) (n6 : Nat) (f6 : FnV) : Int := bif F45_0 4 (elV tp1 (secF [vi x2, vi x3, vi x4, vi x5] 0 1)) then 7 else bif x2 == x4 && (x3 == x5 && true) then 2 else bif decide (6 < (↑n6 : Int)) then 3 else bif F119_0 n6 (elV tp4 f6) then 7 else 0
def R67 (n0 : Nat) (f0 : FnV) (x2 x3 x4 x5 : Int) (n6 : Nat) (f6 : FnV) : V := .int i64 (F67_0 x2 x3 x4 x5 n6 f6)
theorem ev67 (n0 : Nat) (f0 : FnV) (x2 x3 x4 x5 : Int) (n6 : Nat) (f6 : FnV) : evR noE (m67 n0 f0 x2 x3 x4 x5 n6 f6) (R67 n0 f0 x2 x3 x4 x5 n6 f6) := evObt (evObt (evObt (evObt (evObc (evObt (evBr (fun h0 => evRet (by unfold R67 F67_0; try rw [h0]; rfl)) (fun h0 => evBr (fun h1 => evRet (by unfold R67 F67_0; try rw [h0]; try rw [h1]; rfl)) (fun h1 => evAsm (fun a2 => evBr (fun h2 => evRet (by unfold R67 F67_0; try rw [h0]; try rw [h1]; try rw [h2]; rfl)) (fun h2 => evObc (evObt (evBr (fun h3 => evRet (by unfold R67 F67_0; try rw [h0]; try rw [h1]; try rw [h2]; try rw [h3]; rfl)) (fun h3 => evRet (by unfold R67 F67_0; try rw [h0]; try rw [h1]; try rw [h2]; try rw [h3]; rfl))))))))))))))
def C67 : PCon := mkC [.sl tyF, .agg tyF] (fun _ => True) fun
 | [.sl n0 f0, .agg [.int _ x2, .int _ x3, .int _ x4, .int _ x5, .sl n6 f6]] => R67 n0 f0 x2 x3 x4 x5 n6 f6
 | _ => .any
theorem ok67 : (vP C67).Ok Tryz.prog 67 := mkE tabB7 Tryz.func67 (by kernel_rfl) fun ds hp => rf0 (run67 ..) (ev67 _ _ _ _ _ _ _ _)
def m53 (x0 x1 x2 x3 : Int) : RT Empty := .obc (.obt (.obi (.obi (.obi (.obi (.obi (.obi (.obi (.obi (.obi (.obi (.ret (V.bool (bif bif F45_0 4 (elV tp1 (secF [vi x0, vi x1, vi x2, vi x3] 0 1)) then true else decide (x2 < x0) then true else decide (x3 < x1)))))))))))))))
theorem run53 (x0 x1 x2 x3 : Int) : Fit noD (runL JJ ctB7 u0 s53 [V.agg [vi x0, vi x1, vi x2, vi x3]]) (m53 x0 x1 x2 x3) := ⟨by kernel_rfl, by kernel_rfl⟩
def F53_0 (x0 x1 x2 x3 : Int) : Bool := bif bif F45_0 4 (elV tp1 (secF [vi x0, vi x1, vi x2, vi x3] 0 1)) then true else decide (x2 < x0) then true else decide (x3 < x1)
def R53 (x0 x1 x2 x3 : Int) : V := .bool (F53_0 x0 x1 x2 x3)
theorem ev53 (x0 x1 x2 x3 : Int) : evR noE (m53 x0 x1 x2 x3) (R53 x0 x1 x2 x3) := evObc (evObt (evObi (evObi (evObi (evObi (evObi (evObi (evObi (evObi (evObi (evObi (evRet (by unfold R53 F53_0; rfl)))))))))))))
def C53 : PCon := mkC [.agg tp4] (fun _ => True) fun
 | [.agg [.int _ x0, .int _ x1, .int _ x2, .int _ x3]] => R53 x0 x1 x2 x3
 | _ => .any
theorem ok53 : (vP C53).Ok Tryz.prog 53 := mkE tabB7 Tryz.func53 (by kernel_rfl) fun ds hp => rf0 (run53 ..) (ev53 _ _ _ _)
inductive S122 where
 | L0 (ia0 : Int)
def inv122 (s0 : ByteArray) : S122 -> Env × List O × Option Ex
 | .L0 ia0 => ([(3, vi ia0), (2, V.kb false), (0, V.str s0)], [], none)
def id122 : S122 -> JJ
 | .L0 ia0 => (0, [])
def rl122 (s0 : ByteArray) : T (Leaf JJ) := runL JJ ctB7 u0 s122 [V.str s0]
def lp122_0 (s0 : ByteArray) (cx : List Cx) : Lp JJ := lpT (atT (rl122 s0) [])
def lp122 (s0 : ByteArray) : JJ -> Lp JJ
 | (0, cx) => lp122_0 s0 cx
 | (_, cx) => lp122_0 s0 cx
def D122 (s0 : ByteArray) : LD JJ S122 := ⟨id122, lp122 s0, inv122 s0⟩
def st122 (s0 : ByteArray) : S122 -> RT S122
 | .L0 ia0 => .br (decide (ia0 < (↑s0.size : Int))) (.ob (decide (0 <= ia0 /\ ia0 < (↑s0.size : Int))) (.obi (.obi (.obj (decide (97 <= (↑(s0.data.1.getD ia0.toNat 0).toNat : Int))) (decide (0 <= ia0 /\ ia0 < (↑s0.size : Int))) (.obi (.obi (.obi (.obi (.obi (.obi (.obj ((!bif decide (97 <= (↑(s0.data.1.getD ia0.toNat 0).toNat : Int)) then decide ((↑(s0.data.1.getD ia0.toNat 0).toNat : Int) <= 122) else false) && !ia0 == 0) (decide (0 <= ia0 /\ ia0 < (↑s0.size : Int))) (.obi (.obi (.obi (.obi (.obj ((!bif decide (97 <= (↑(s0.data.1.getD ia0.toNat 0).toNat : Int)) then decide ((↑(s0.data.1.getD ia0.toNat 0).toNat : Int) <= 122) else false) && !ia0 == 0 && decide (48 <= (↑(s0.data.1.getD ia0.toNat 0).toNat : Int))) (decide (0 <= ia0 /\ ia0 < (↑s0.size : Int))) (.obi (.obi (.obi (.obi (.obi (.obi (.obi (.obj ((!bif decide (97 <= (↑(s0.data.1.getD ia0.toNat 0).toNat : Int)) then decide ((↑(s0.data.1.getD ia0.toNat 0).toNat : Int) <= 122) else false) && !ia0 == 0 && !bif decide (48 <= (↑(s0.data.1.getD ia0.toNat 0).toNat : Int)) then decide ((↑(s0.data.1.getD ia0.toNat 0).toNat : Int) <= 57) else false) (decide (0 <= ia0 /\ ia0 < (↑s0.size : Int))) (.obi (.obi (.obi (.obi (.obi (.obi (.br (bif !bif decide (97 <= (↑(s0.data.1.getD ia0.toNat 0).toNat : Int)) then decide ((↑(s0.data.1.getD ia0.toNat 0).toNat : Int) <= 122) else false then bif ia0 == 0 then true else bif !bif decide (48 <= (↑(s0.data.1.getD ia0.toNat 0).toNat : Int)) then decide ((↑(s0.data.1.getD ia0.toNat 0).toNat : Int) <= 57) else false then (↑(s0.data.1.getD ia0.toNat 0).toNat : Int) != 45 else false else false) (.ret (V.kb false)) (.next [] (S122.L0 (i64.wrap (ia0 + 1))) [])))))))))))))))))))))))))))))))) (.obi (.obi (.obi (.ret (V.bool (bif decide (0 < (↑s0.size : Int)) then decide ((↑s0.size : Int) <= 24) else false))))))
def m122 (s0 : ByteArray) : RT S122 := .enter [] (S122.L0 (0)) []
theorem run122 (s0 : ByteArray) : Fits ctB7 u0 (D122 s0) (rl122 s0) (m122 s0) (st122 s0) := ⟨⟨by kernel_rfl, by kernel_rfl⟩, fun s => by cases s <;> exact ⟨by kernel_rfl, by kernel_rfl⟩⟩
def badN (s0 : ByteArray) (i : Nat) : Bool := bif !bif decide (97 <= ((s0.data.toList.getD i 0).toNat : Int)) then decide (((s0.data.toList.getD i 0).toNat : Int) <= 122) else false then bif (i : Int) == 0 then true else bif !bif decide (48 <= ((s0.data.toList.getD i 0).toNat : Int)) then decide (((s0.data.toList.getD i 0).toNat : Int) <= 57) else false then ((s0.data.toList.getD i 0).toNat : Int) != 45 else false else false
def F122 (s0 : ByteArray) : Bool := allB s0.size (fun i => !badN s0 i) && bif decide (0 < (s0.size : Int)) then decide ((s0.size : Int) <= 24) else false
theorem scanS {n : Nat} (p : Nat -> Bool) {P : Int -> Prop} (hstep : ∀ i : Nat, i < n -> (∀ j, j < i -> p j = false) -> (p i = false -> P (i64.wrap ((i : Int) + 1))) -> P i) (hend : (∀ j, j < n -> p j = false) -> P n) (hn : n <= 9223372036854775807) : P 0 := scan hn p hstep hend
theorem ev122_0 (s0 : ByteArray) (hp : s0.size <= 9223372036854775807) : evR (Ev (st122 s0)) (m122 s0) (.bool (F122 s0)) := evEnter (scan hp (badN s0) (P := fun i => Ev (st122 s0) (.L0 i) (.bool (F122 s0))) (fun i hlt hj next => Ev.of rfl (evBrLt hlt (evObLt hlt (by
 repeat (first | refine evObi ?_ | refine evObjLt hlt ?_)
 refine evBr (fun hb => evRet ?_) (fun hb => evNext (next hb))
 simp only [toA]; unfold F122; rw [allB_false i hlt (by show (!badN s0 i) = false; rw [show badN s0 i = true from hb]; rfl)]; rfl))))
 (fun hj => Ev.of rfl (evBrGe (by
 repeat refine evObi ?_
 refine evRet ?_
 simp only [toA]; unfold F122; rw [allB_of fun i hi => by rw [hj i hi]; rfl]; rfl))))
theorem ev122 (s0 : ByteArray) (hp : s0.size <= 9223372036854775807) : evR (Ev (st122 s0)) (m122 s0) (.bool (F122 s0)) := ev122_0 s0 hp
def C122 : PCon := mkC [.str] (fun
 | [.str s0] => s0.size <= 9223372036854775807
 | _ => False) fun
 | [.str s0] => .bool (F122 s0)
 | _ => .any
theorem ok122 : (vP C122).Ok Tryz.prog 122 := mkE tabB7 Tryz.func122 (by kernel_rfl) fun ds hp => rfs (run122 ..) (ev122 _ hp)
inductive S72 where
 | L0 (ia0 : Int)
def inv72 (x0 x1 x2 x3 : Int) (n4 : Nat) (f4 : FnV) : S72 -> Env × List O × Option Ex
 | .L0 ia0 => ([(3, vi ia0), (28, V.kb false), (27, vi (↑n4 : Int)), (26, V.sl n4 (elV tp4 f4)), (25, V.pl 0 4), (24, V.kb false), (23, V.agg [vi x2, vi x3]), (22, V.pl 0 2), (21, V.agg [vi x0, vi x1]), (20, V.pl 0 0), (19, V.kb false), (18, V.bool (F51 4 (elV tp1 (secF [vi x0, vi x1, vi x2, vi x3] 0 1)))), (17, V.ss 1 0 4 4), (16, vi x3), (15, V.pl 0 3), (14, V.pl 0 2), (13, vi x2), (12, V.pl 0 2), (11, V.pl 0 2), (10, vi x1), (9, V.pl 0 1), (8, V.pl 0 0), (7, vi x0), (6, V.pl 0 0), (5, V.pl 0 0), (2, vi 0), (1, V.pl 0 0), (0, V.agg [vi x0, vi x1, vi x2, vi x3, V.sl n4 (elV tp4 f4)])], [O.cells [vi x0, vi x1, vi x2, vi x3, V.sl n4 (elV tp4 f4)] 123, O.cells [vi x0, vi x1, vi x2, vi x3] 3], none)
def id72 : S72 -> JJ
 | .L0 ia0 => (0, [])
def rl72 (x0 x1 x2 x3 : Int) (n4 : Nat) (f4 : FnV) : T (Leaf JJ) := runL JJ ctB7 u0 s72 [V.agg [vi x0, vi x1, vi x2, vi x3, V.sl n4 (elV tp4 f4)]]
def lp72_0 (x0 x1 x2 x3 : Int) (n4 : Nat) (f4 : FnV) (cx : List Cx) : Lp JJ := lpT (atT (rl72 x0 x1 x2 x3 n4 f4) [false, false, false])
def lp72 (x0 x1 x2 x3 : Int) (n4 : Nat) (f4 : FnV) : JJ -> Lp JJ
 | (0, cx) => lp72_0 x0 x1 x2 x3 n4 f4 cx
 | (_, cx) => lp72_0 x0 x1 x2 x3 n4 f4 cx
def D72 (x0 x1 x2 x3 : Int) (n4 : Nat) (f4 : FnV) : LD JJ S72 := ⟨id72, lp72 x0 x1 x2 x3 n4 f4, inv72 x0 x1 x2 x3 n4 f4⟩
def st72 (x0 x1 x2 x3 : Int) (n4 : Nat) (f4 : FnV) : S72 -> RT S72
 | .L0 ia0 => .asm (true = true -> n4 <= 9223372036854775807) (.br (decide (ia0 < (↑n4 : Int))) (.ob (decide (0 <= ia0 /\ ia0 < (↑n4 : Int))) (.obi (.obi (.obi (.obi (.obi (.obi (.obi (.obi (.obi (.obi (.obi (.obi (.obi (.obi (.obi (.obi (.obi (.obi (.obi (.br (bif bif bif bif bif decide (jv0 (f4 ia0.toNat) < 0) then true else decide (jv1 (f4 ia0.toNat) <= jv0 (f4 ia0.toNat)) then true else decide (1000 < jv1 (f4 ia0.toNat)) then true else decide (jv2 (f4 ia0.toNat) < 0) then true else decide (jv3 (f4 ia0.toNat) <= jv2 (f4 ia0.toNat)) then true else decide (1000 < jv3 (f4 ia0.toNat))) (.ret (vi 7)) (.next [some (some 0), some (some 1)] (S72.L0 (i64.wrap (ia0 + 1))) [])))))))))))))))))))))) (.ret (vi 0)))
def m72 (x0 x1 x2 x3 : Int) (n4 : Nat) (f4 : FnV) : RT S72 := .obt (.obt (.obt (.obt (.obc (.obt (.br (!F51 4 (elV tp1 (secF [vi x0, vi x1, vi x2, vi x3] 0 1))) (.ret (vi 7)) (.br (x0 == x2 && (x1 == x3 && true)) (.ret (vi 2)) (.asm (true = true -> n4 <= 9223372036854775807) (.br (decide (6 < (↑n4 : Int))) (.ret (vi 3)) (.enter [some (some 0), some (some 1)] (S72.L0 (0)) []))))))))))
theorem run72 (x0 x1 x2 x3 : Int) (n4 : Nat) (f4 : FnV) : Fits ctB7 u0 (D72 x0 x1 x2 x3 n4 f4) (rl72 x0 x1 x2 x3 n4 f4) (m72 x0 x1 x2 x3 n4 f4) (st72 x0 x1 x2 x3 n4 f4) := ⟨⟨by kernel_rfl, by kernel_rfl⟩, fun s => by cases s <;> exact ⟨by kernel_rfl, by kernel_rfl⟩⟩
def badW (l : List V) : Bool := bif bif bif bif bif decide (jv0 l < 0) then true else decide (jv1 l <= jv0 l) then true else decide (1000 < jv1 l) then true else decide (jv2 l < 0) then true else decide (jv3 l <= jv2 l) then true else decide (1000 < jv3 l)
def F72 (x0 x1 x2 x3 : Int) (n4 : Nat) (f4 : FnV) : Int := bif !F51 4 (elV tp1 (secF [V.int .i64 x0, V.int .i64 x1, V.int .i64 x2, V.int .i64 x3] 0 ((1 + 1 + 1 + 1 - 0) / 4))) then 7 else bif x0 == x2 && (x1 == x3 && true) then 2 else bif decide (6 < (n4 : Int)) then 3 else bif exB n4 (fun i => badW (f4 i)) then 7 else 0
theorem ev72_0 (x0 x1 x2 x3 : Int) (n4 : Nat) (f4 : FnV) : evR (Ev (st72 x0 x1 x2 x3 n4 f4)) (m72 x0 x1 x2 x3 n4 f4) (.int .i64 (F72 x0 x1 x2 x3 n4 f4)) := by
 unfold F72
 repeat (first | refine evObt ?_ | refine evObc ?_)
 refine evBr (fun h0 => evRet (by rw [h0]; rfl)) (fun h0 => ?_)
 rw [h0, cond_false]
 refine evBr (fun h1 => evRet (by rw [h1]; rfl)) (fun h1 => ?_)
 rw [h1, cond_false]
 refine evAsm1 fun hn => ?_
 refine evBr (fun h2 => evRet (by rw [h2]; rfl)) (fun h2 => ?_)
 rw [h2, cond_false]
 refine evEnter (scan hn (fun i => badW (f4 i)) (P := fun i => Ev (st72 x0 x1 x2 x3 n4 f4) (.L0 i) (.int .i64 (bif exB n4 (fun i => badW (f4 i)) then 7 else 0))) (fun i hlt hj next => Ev.of rfl (evAsm1 fun _ => evBrLt hlt (evObLt hlt (by
  repeat (first | refine evObi ?_ | refine evObjLt hlt ?_)
  refine evBr (fun hb => evRet ?_) (fun hb => evNext (next hb))
  rw [exB_true i hlt (show badW (f4 i) = true from hb)]; rfl))))
  (fun hj => Ev.of rfl (evAsm1 fun _ => evBrGe (evRet ?_))))
 rw [exB_false hj]; rfl
theorem ev72 (x0 x1 x2 x3 : Int) (n4 : Nat) (f4 : FnV) : evR (Ev (st72 x0 x1 x2 x3 n4 f4)) (m72 x0 x1 x2 x3 n4 f4) (.int .i64 (F72 x0 x1 x2 x3 n4 (elV tp4 f4))) := ev72_0 x0 x1 x2 x3 n4 f4
def C72 : PCon := mkC [.agg tyF] (fun _ => True) fun
 | [.agg [.int _ x0, .int _ x1, .int _ x2, .int _ x3, .sl n4 f4]] => .int .i64 (F72 x0 x1 x2 x3 n4 f4)
 | _ => .any
theorem ok72 : (vP C72).Ok Tryz.prog 72 := mkE tabB7 Tryz.func72 (by kernel_rfl) fun ds hp => rfs (run72 ..) (ev72 _ _ _ _ _ _)
def ctB8 : CTab := (113, .con C113) :: (65, .con C65) :: (67, .con C67) :: (53, .con C53) :: (122, .con C122) :: (72, .con C72) :: ctB7
theorem tabB8 : TabOk Tryz.prog eqs its ctB8 := .con ok113 (.con ok65 (.con ok67 (.con ok53 (.con ok122 (.con ok72 (tabB7))))))
inductive S147 where
 | L0 (ia0 : Int)
def inv147 (n0 : Nat) (f0 : FnV) : S147 -> Env × List O × Option Ex
 | .L0 ia0 => ([(8, vi ia0), (7, vi (↑n0 : Int)), (6, V.sl n0 (elV tp2 f0)), (4, vi 0), (0, V.sl n0 (elV tp2 f0)), (1, V.fn 113 [] [])], [], none)
def id147 : S147 -> JJ
 | .L0 ia0 => (0, [])
def rl147 (n0 : Nat) (f0 : FnV) : T (Leaf JJ) := runL JJ ctB8 u0 s147 [V.sl n0 (elV tp2 f0), V.fn 113 [] []]
def lp147_0 (n0 : Nat) (f0 : FnV) (cx : List Cx) : Lp JJ := lpT (atT (rl147 n0 f0) [])
def lp147 (n0 : Nat) (f0 : FnV) : JJ -> Lp JJ
 | (0, cx) => lp147_0 n0 f0 cx
 | (_, cx) => lp147_0 n0 f0 cx
def D147 (n0 : Nat) (f0 : FnV) : LD JJ S147 := ⟨id147, lp147 n0 f0, inv147 n0 f0⟩
def st147 (n0 : Nat) (f0 : FnV) : S147 -> RT S147
 | .L0 ia0 => .br (decide (ia0 < (↑n0 : Int))) (.ob (decide (0 <= ia0 /\ ia0 < (↑n0 : Int))) (.obc (.obt (.br (F113_0 (jv0 (f0 ia0.toNat)) (jv1 (f0 ia0.toNat))) (.ret (vi ia0)) (.next [] (S147.L0 (i64.wrap (ia0 + 1))) []))))) (.ret (vi (-1)))
def m147 (n0 : Nat) (f0 : FnV) : RT S147 := .asm (true = true -> n0 <= 9223372036854775807) (.enter [] (S147.L0 (0)) [])
theorem run147 (n0 : Nat) (f0 : FnV) : Fits ctB8 u0 (D147 n0 f0) (rl147 n0 f0) (m147 n0 f0) (st147 n0 f0) := ⟨⟨by kernel_rfl, by kernel_rfl⟩, fun s => by cases s <;> exact ⟨by kernel_rfl, by kernel_rfl⟩⟩
def F147 (n0 : Nat) (f0 : FnV) : Int   := idx n0 fun ii => F113_0 (jv0 (f0 ii)) (jv1 (f0 ii))
theorem ev147_0 (n0 : Nat) (f0 : FnV) : evR (Ev (st147 n0 f0)) (m147 n0 f0) (.int .i64 (F147 n0 f0)) := evAsm1 fun hn => evEnter (idx_ev hn fun i => rfl)
theorem ev147 (n0 : Nat) (f0 : FnV) : evR (Ev (st147 n0 f0)) (m147 n0 f0) (.int .i64 (F147 n0 (elV tp2 f0))) := ev147_0 n0 f0
def C147 : PCon := mkC [.sl tp2, .fn 113 [] []] (fun _ => True) fun
 | [.sl n0 f0, .fn _ [] []] => .int .i64 (F147 n0 f0)
 | _ => .any
theorem ok147 : (vP C147).Ok Tryz.prog 147 := mkE tabB8 Tryz.func147 (by kernel_rfl) fun ds hp => rfs (run147 ..) (ev147 _ _)
inductive S64 where
 | L0 (ia0 : Int)
def inv64 (n0 : Nat) (f0 : FnV) : S64 -> Env × List O × Option Ex
 | .L0 ia0 => ([(11, vi ia0), (10, vi (↑n0 : Int)), (9, V.sl n0 (elV tyT f0)), (5, vi 0), (4, vi 0), (0, V.sl n0 (elV tyT f0)), (1, V.fn 65 [] [])], [], none)
def id64 : S64 -> JJ
 | .L0 ia0 => (0, [])
def rl64 (n0 : Nat) (f0 : FnV) : T (Leaf JJ) := runL JJ ctB8 u0 s64 [V.sl n0 (elV tyT f0), V.fn 65 [] []]
def lp64_0 (n0 : Nat) (f0 : FnV) (cx : List Cx) : Lp JJ := lpT (atT (rl64 n0 f0) [])
def lp64 (n0 : Nat) (f0 : FnV) : JJ -> Lp JJ
 | (0, cx) => lp64_0 n0 f0 cx
 | (_, cx) => lp64_0 n0 f0 cx
def D64 (n0 : Nat) (f0 : FnV) : LD JJ S64 := ⟨id64, lp64 n0 f0, inv64 n0 f0⟩
def st64 (n0 : Nat) (f0 : FnV) : S64 -> RT S64
 | .L0 ia0 => .br (decide (ia0 < (↑n0 : Int))) (.ob (decide (0 <= ia0 /\ ia0 < (↑n0 : Int))) (.ob (decide (0 <= ia0 /\ ia0 <= (↑n0 : Int))) (.obc (.obt (.br (F65_0 (jv0 (f0 ia0.toNat)) (jv1 (f0 ia0.toNat)) (jv2 (f0 ia0.toNat)) (jv3 (f0 ia0.toNat)) (jv4 (f0 ia0.toNat)) != 0) (.ret (V.tup [vi ia0, vi (F65_0 (jv0 (f0 ia0.toNat)) (jv1 (f0 ia0.toNat)) (jv2 (f0 ia0.toNat)) (jv3 (f0 ia0.toNat)) (jv4 (f0 ia0.toNat)))])) (.next [] (S64.L0 (i64.wrap (ia0 + 1))) [])))))) (.ret (V.tup [vi 0, vi 0]))
def m64 (n0 : Nat) (f0 : FnV) : RT S64 := .asm (true = true -> n0 <= 9223372036854775807) (.enter [] (S64.L0 (0)) [])
theorem run64 (n0 : Nat) (f0 : FnV) : Fits ctB8 u0 (D64 n0 f0) (rl64 n0 f0) (m64 n0 f0) (st64 n0 f0) := ⟨⟨by kernel_rfl, by kernel_rfl⟩, fun s => by cases s <;> exact ⟨by kernel_rfl, by kernel_rfl⟩⟩
def c64 (n0 : Nat) (f0 : FnV) (ii : Nat) : Int := (F65_0 (jv0 (f0 ii)) (jv1 (f0 ii)) (jv2 (f0 ii)) (jv3 (f0 ii)) (jv4 (f0 ii)))
def F64_0 (n0 : Nat) (f0 : FnV) : Int := firstI n0 (c64 n0 f0)
def F64_1 (n0 : Nat) (f0 : FnV) : Int := firstE n0 (c64 n0 f0)
theorem ev64_0 (n0 : Nat) (f0 : FnV) : evR (Ev (st64 n0 f0)) (m64 n0 f0) (.tup [.int .i64 (F64_0 n0 f0), .int .i64 (F64_1 n0 f0)]) := evAsm1 fun hn => evEnter (first_ev (Q := fun _ => True) (fun _ x => .obc (.obt x)) (fun i x r h hx => evObc (evObt hx)) (fun _ _ => rfl) hn (fun _ _ => trivial) fun i => rfl)
theorem ev64 (n0 : Nat) (f0 : FnV) : evR (Ev (st64 n0 f0)) (m64 n0 f0) (.tup [.int .i64 (F64_0 n0 (elV tyT f0)), .int .i64 (F64_1 n0 (elV tyT f0))]) := ev64_0 n0 f0
def C64 : PCon := mkC [.sl tyT, .fn 65 [] []] (fun _ => True) fun
 | [.sl n0 f0, .fn _ [] []] => .tup [.int .i64 (F64_0 n0 f0), .int .i64 (F64_1 n0 f0)]
 | _ => .any
theorem ok64 : (vP C64).Ok Tryz.prog 64 := mkE tabB8 Tryz.func64 (by kernel_rfl) fun ds hp => rfs (run64 ..) (ev64 _ _)
inductive S66 where
 | L0 (ia0 : Int)
def inv66 (n0 : Nat) (f0 : FnV) : S66 -> Env × List O × Option Ex
 | .L0 ia0 => ([(11, vi ia0), (10, vi (↑n0 : Int)), (9, V.sl n0 (elV tyF f0)), (5, vi 0), (4, vi 0), (0, V.sl n0 (elV tyF f0)), (1, V.fn 67 [] [])], [], none)
def id66 : S66 -> JJ
 | .L0 ia0 => (0, [])
def rl66 (n0 : Nat) (f0 : FnV) : T (Leaf JJ) := runL JJ ctB8 u0 s66 [V.sl n0 (elV tyF f0), V.fn 67 [] []]
def lp66_0 (n0 : Nat) (f0 : FnV) (cx : List Cx) : Lp JJ := lpT (atT (rl66 n0 f0) [])
def lp66 (n0 : Nat) (f0 : FnV) : JJ -> Lp JJ
 | (0, cx) => lp66_0 n0 f0 cx
 | (_, cx) => lp66_0 n0 f0 cx
def D66 (n0 : Nat) (f0 : FnV) : LD JJ S66 := ⟨id66, lp66 n0 f0, inv66 n0 f0⟩
def st66 (n0 : Nat) (f0 : FnV) : S66 -> RT S66
 | .L0 ia0 => .br (decide (ia0 < (↑n0 : Int))) (.ob (decide (0 <= ia0 /\ ia0 < (↑n0 : Int))) (.ob (decide (0 <= ia0 /\ ia0 <= (↑n0 : Int))) (.obc (.obt (.br ((F67_0 (jv0 (f0 ia0.toNat)) (jv1 (f0 ia0.toNat)) (jv2 (f0 ia0.toNat)) (jv3 (f0 ia0.toNat)) (lenV (hdV (tlV (tlV (tlV (tlV (f0 ia0.toNat))))))) fun i => views tp4 (atV (hdV (tlV (tlV (tlV (tlV (f0 ia0.toNat)))))) i)) != 0) (.ret (V.tup [vi ia0, vi (F67_0 (jv0 (f0 ia0.toNat)) (jv1 (f0 ia0.toNat)) (jv2 (f0 ia0.toNat)) (jv3 (f0 ia0.toNat)) (lenV (hdV (tlV (tlV (tlV (tlV (f0 ia0.toNat))))))) fun i => views tp4 (atV (hdV (tlV (tlV (tlV (tlV (f0 ia0.toNat)))))) i))])) (.next [] (S66.L0 (i64.wrap (ia0 + 1))) [])))))) (.ret (V.tup [vi 0, vi 0]))
def m66 (n0 : Nat) (f0 : FnV) : RT S66 := .asm (true = true -> n0 <= 9223372036854775807) (.enter [] (S66.L0 (0)) [])
theorem run66 (n0 : Nat) (f0 : FnV) : Fits ctB8 u0 (D66 n0 f0) (rl66 n0 f0) (m66 n0 f0) (st66 n0 f0) := ⟨⟨by kernel_rfl, by kernel_rfl⟩, fun s => by cases s <;> exact ⟨by kernel_rfl, by kernel_rfl⟩⟩
def c66 (n0 : Nat) (f0 : FnV) (ii : Nat) : Int := (F67_0 (jv0 (f0 ii)) (jv1 (f0 ii)) (jv2 (f0 ii)) (jv3 (f0 ii)) (lenV (hdV (tlV (tlV (tlV (tlV (f0 ii))))))) fun i => views tp4 (atV (hdV (tlV (tlV (tlV (tlV (f0 ii)))))) i))
def F66_0 (n0 : Nat) (f0 : FnV) : Int := firstI n0 (c66 n0 f0)
def F66_1 (n0 : Nat) (f0 : FnV) : Int := firstE n0 (c66 n0 f0)
theorem ev66_0 (n0 : Nat) (f0 : FnV) : evR (Ev (st66 n0 f0)) (m66 n0 f0) (.tup [.int .i64 (F66_0 n0 f0), .int .i64 (F66_1 n0 f0)]) := evAsm1 fun hn => evEnter (first_ev (Q := fun _ => True) (fun _ x => .obc (.obt x)) (fun i x r h hx => evObc (evObt hx)) (fun _ _ => rfl) hn (fun _ _ => trivial) fun i => rfl)
theorem ev66 (n0 : Nat) (f0 : FnV) : evR (Ev (st66 n0 f0)) (m66 n0 f0) (.tup [.int .i64 (F66_0 n0 (elV tyF f0)), .int .i64 (F66_1 n0 (elV tyF f0))]) := ev66_0 n0 f0
def C66 : PCon := mkC [.sl tyF, .fn 67 [] []] (fun _ => True) fun
 | [.sl n0 f0, .fn _ [] []] => .tup [.int .i64 (F66_0 n0 f0), .int .i64 (F66_1 n0 f0)]
 | _ => .any
theorem ok66 : (vP C66).Ok Tryz.prog 66 := mkE tabB8 Tryz.func66 (by kernel_rfl) fun ds hp => rfs (run66 ..) (ev66 _ _)
end Go.Dx
namespace Go.Proofs
open Go.Shelf
def Tryz.lays160_ren : Go.Shelf.Ren := ⟨fun | 160 => 146 | 232 => 165 | 231 => 164 | 227 => 166 | 234 => 168 | 233 => 167 | 236 => 170 | 235 => 169 | 228 => 185 | 271 => 188 | 151 => 187 | 197 => 186 | 120 => 195 | 152 => 194 | 260 => 193 | 137 => 197 | 119 => 198 | 224 => 199 | 225 => 200 | 217 => 201 | 266 => 202 | n => n, fun | 9 => 9 | 4 => 4 | 3 => 3 | 5 => 5 | 117 => 228 | 116 => 227 | 0 => 0 | 124 => 231 | 21 => 21 | 105 => 245 | 46 => 188 | 119 => 254 | 139 => 257 | 138 => 256 | n => n, fun | 3 => 0 | 4 => 1 | n => n⟩
theorem Tryz.lays160 : Go.Proofs.Lays.n160 Tryz.prog Tryz.lays160_ren := {
 mixed := by kernel_rfl
 f119 := Tryz.func198.trans (congrArg some (by kernel_rfl))
 f120 := Tryz.func195.trans (congrArg some (by kernel_rfl))
 f137 := Tryz.func197.trans (congrArg some (by kernel_rfl))
 f151 := Tryz.func187.trans (congrArg some (by kernel_rfl))
 f152 := Tryz.func194.trans (congrArg some (by kernel_rfl))
 f160 := Tryz.func146.trans (congrArg some (by kernel_rfl))
 f197 := Tryz.func186.trans (congrArg some (by kernel_rfl))
 f217 := Tryz.func201.trans (congrArg some (by kernel_rfl))
 f224 := Tryz.func199.trans (congrArg some (by kernel_rfl))
 f225 := Tryz.func200.trans (congrArg some (by kernel_rfl))
 f227 := Tryz.func166.trans (congrArg some (by kernel_rfl))
 f228 := Tryz.func185.trans (congrArg some (by kernel_rfl))
 f231 := Tryz.func164.trans (congrArg some (by kernel_rfl))
 f232 := Tryz.func165.trans (congrArg some (by kernel_rfl))
 f233 := Tryz.func167.trans (congrArg some (by kernel_rfl))
 f234 := Tryz.func168.trans (congrArg some (by kernel_rfl))
 f235 := Tryz.func169.trans (congrArg some (by kernel_rfl))
 f236 := Tryz.func170.trans (congrArg some (by kernel_rfl))
 f260 := Tryz.func193.trans (congrArg some (by kernel_rfl))
 f266 := Tryz.func202.trans (congrArg some (by kernel_rfl))
 f271 := Tryz.func188.trans (congrArg some (by kernel_rfl))
 t0 := Tryz.underlying0
 a0 := Tryz.isAgg0
 z0 := Tryz.sizeOf0
 v0 := Tryz.zeroValue0
 t3 := Tryz.underlying3
 a3 := Tryz.isAgg3
 z3 := Tryz.sizeOf3
 v3 := Tryz.zeroValue3
 t4 := Tryz.underlying4
 a4 := Tryz.isAgg4
 z4 := Tryz.sizeOf4
 v4 := Tryz.zeroValue4
 t5 := Tryz.underlying5
 a5 := Tryz.isAgg5
 z5 := Tryz.sizeOf5
 v5 := Tryz.zeroValue5
 t9 := Tryz.underlying9
 a9 := Tryz.isAgg9
 z9 := Tryz.sizeOf9
 v9 := Tryz.zeroValue9
 t21 := Tryz.underlying21
 a21 := Tryz.isAgg21
 z21 := Tryz.sizeOf21
 v21 := Tryz.zeroValue21
 t46 := Tryz.underlying188
 a46 := Tryz.isAgg188
 z46 := Tryz.sizeOf188
 v46 := Tryz.zeroValue188
 t105 := Tryz.underlying245
 a105 := Tryz.isAgg245
 z105 := Tryz.sizeOf245
 v105 := Tryz.zeroValue245
 t116 := Tryz.underlying227
 a116 := Tryz.isAgg227
 z116 := Tryz.sizeOf227
 t117 := Tryz.underlying228
 a117 := Tryz.isAgg228
 z117 := Tryz.sizeOf228
 v117 := Tryz.zeroValue228
 t119 := Tryz.underlying254
 a119 := Tryz.isAgg254
 z119 := Tryz.sizeOf254
 t124 := Tryz.underlying231
 a124 := Tryz.isAgg231
 z124 := Tryz.sizeOf231
 v124 := Tryz.zeroValue231
 t138 := Tryz.underlying256
 a138 := Tryz.isAgg256
 z138 := Tryz.sizeOf256
 v138 := Tryz.zeroValue256
 t139 := Tryz.underlying257
 a139 := Tryz.isAgg257
 z139 := Tryz.sizeOf257
 v139 := Tryz.zeroValue257
 g3 := by kernel_rfl
 g4 := by kernel_rfl }
end Go.Proofs
namespace Go.Dx
open Go.IntKind (i64 u64 u8)
open Go.Sx Go.Proofs Go.Shelf Go.RowKit
def cutN : ByteArray := ⟨#[97, 98, 99, 100, 101, 102, 103, 104, 105, 106, 107, 108, 109, 110, 111, 112, 113, 114, 115, 116, 117, 118, 119, 120, 121, 122, 48, 49, 50, 51, 52, 53, 54, 55, 56, 57, 45]⟩
def F146 (s c : ByteArray) : ByteArray := ⟨(Lib.trimS s.data.toList c.data.toList).toArray⟩
def C146 : PCon := mkC [.str, .str] (fun
 | [.str s, .str c] => s.size <= 9223372036854775807 /\ c = cutN
 | _ => False) fun
 | [.str s, .str c] => .str (F146 s c)
 | _ => .any
theorem trim_calls (s : ByteArray) (w : World) (hs : s.size <= 9223372036854775807) : Calls Tryz.prog 146 #[.string s, .string cutN] w fun e w' => e = .returned (.string (F146 s cutN)) /\ Below w.heap.size w w' :=
 Any.strings_Trim_laid Tryz.lays160 (by kernel_rfl) s cutN w hs (by decide) (ascii_of_all (by decide))
theorem HRel.below {B : Base} {m : Names} {lh : List LObj} {w w' : World} (h : HRel B m lh w) (hb : Below w.heap.size w w') : HRel B m lh w' := by
 obtain ⟨h1, h2, h3, h4, h5⟩ := hb
 have hsz : B.w0.heap.size <= w'.heap.size := Nat.le_trans h.size h4
 refine ⟨h1.trans h.os, h2.trans h.tape, h3.trans h.output, hsz, fun b hb => (h5 b (Nat.lt_of_lt_of_le hb h.size)).trans (h.old b hb), Nat.le_trans h.fsize h4, fun b hb ho => (h5 b (Nat.lt_of_lt_of_le hb h.fsize)).trans (h.kept b hb ho), fun k cs ty hk => ?_, h.inj, h.dom, h.dead, fun k b hk => Nat.lt_of_lt_of_le (h.rng k b hk) h4⟩
 obtain ⟨b, vs, g1, g2, g3, g4⟩ := h.loc k cs ty hk
 exact ⟨b, vs, g1, g2, (h5 b (h.rng k b g1)).trans g3, g4⟩
theorem ok146 : (vP C146).Ok Tryz.prog 146 := by
 refine ⟨fun B m lh w args vs K hrel hargs hsp => ?_, fun _ _ _ _ _ hk ⟨ds, d, p, r, h1, h2, h3, h4, h5⟩ => ⟨ds, d, p, r, h1, h2, h3, h4, hk _ _ h5⟩, fun _ _ _ _ ⟨_, _, _, _, _, _, _, _, h⟩ => h⟩
 obtain ⟨ds, d, p, r, h1, h2, ⟨h30, h3⟩, h4, h5⟩ := hsp
 simp only [C146, mkC, Option.some.injEq, Prod.mk.injEq] at h2
 obtain ⟨rfl, rfl, rfl⟩ := h2
 have hty := (fxs_ok [.str, .str] ds [] [] rfl h30).1
 simp only [hasTys, hasTy] at hty
 obtain ⟨e1, e2, e3, e4, e5⟩ := hty
 rw [e5] at e3
 rw [e3, e2, e4] at e1
 generalize sv (hdV ds) = s at e1
 generalize sv (hdV (tlV ds)) = c at e1
 subst e1
 simp only [unqs, unq] at h3 h4 h5
 obtain ⟨hs, rfl⟩ := h3
 simp only [vrs, vr] at h1
 obtain ⟨_, _, rfl, rfl, _, _, rfl, rfl, rfl⟩ := h1
 simp only [vrels, vrel] at hargs
 obtain ⟨_, _, rfl, rfl, _, _, rfl, rfl, rfl⟩ := hargs
 refine ⟨⟨_, Tryz.func146, by kernel_rfl, by kernel_rfl⟩, (trim_calls s w hs).mono fun e w' ⟨he, hb⟩ => ?_⟩
 exact ⟨_, _, m, lh, he, by simp only [toA, vrel], Ext.refl _ _, HRel.below hrel hb, h5⟩
theorem str_pos (s : ByteArray) (h : (!s.toList == (⟨#[]⟩ : ByteArray).toList) = true) : (0 : Int) < (s.size : Int) := by
 have e : (⟨#[]⟩ : ByteArray).toList = [] := by decide +kernel
 by_cases hz : s.size = 0
 ·have : s = ⟨#[]⟩ := by
   cases s with | mk d => 
   have : d = #[] := Array.eq_empty_of_size_eq_zero hz
   rw [this]
  rw [this, e] at h; cases h
 ·omega
end Go.Dx
namespace Go.Dx
open Go.IntKind (i64 u64 u8)
open Go.Sx Go.Proofs
def ctB9 : CTab := [(147, .con C147), (64, .con C64), (66, .con C66), (113, .con C113), (65, .con C65), (67, .con C67), (53, .con C53), (122, .con C122), (72, .con C72), (45, .con C45), (90, .con C90), (119, .con C119), (121, .con C121), (99, .con C99), (129, .con C129), (148, .con C148), (149, .con C149), (112, .con C112), (118, .con C118), (120, .con C120), (51, .con C51), (133, .con C133), (103, .con C103), (100, .con C100), (134, .con C134), (135, .con C135), (78, .con C78), (54, .con C54), (48, .con C48), (102, .con C102), (81, .con C81), (84, .con C84), (85, .con C85), (127, .con C127), (101, .con C101), (86, .con C86), (71, .con C71), (162, .con C162), (146, .con C146)]
theorem tabB9 : TabOk Tryz.prog eqs its ctB9 := .con ok147 (.con ok64 (.con ok66 (.con ok113 (.con ok65 (.con ok67 (.con ok53 (.con ok122 (.con ok72 (.con ok45 (.con ok90 (.con ok119 (.con ok121 (.con ok99 (.con ok129 (.con ok148 (.con ok149 (.con ok112 (.con ok118 (.con ok120 (.con ok51 (.con ok133 (.con ok103 (.con ok100 (.con ok134 (.con ok135 (.con ok78 (.con ok54 (.con ok48 (.con ok102 (.con ok81 (.con ok84 (.con ok85 (.con ok127 (.con ok101 (.con ok86 (.con ok71 (.con ok162 (.con ok146 (.nil)))))))))))))))))))))))))))))))))))))))
def m115 (n0 : Nat) (f0 : FnV) : RT Empty := .obc (.obt (.ret (V.bool (decide (0 <= F147 n0 (elV tp2 f0))))))
theorem run115 (n0 : Nat) (f0 : FnV) : Fit noD (runL JJ ctB9 u0 s115 [V.sl n0 (elV tp2 f0), V.fn 113 [] []]) (m115 n0 f0) := ⟨by kernel_rfl, by kernel_rfl⟩
def F115_0 (n0 : Nat) (f0 : FnV) : Bool := decide (0 <= F147 n0 (elV tp2 f0))
def R115 (n0 : Nat) (f0 : FnV) : V := .bool (F115_0 n0 f0)
theorem ev115 (n0 : Nat) (f0 : FnV) : evR noE (m115 n0 f0) (R115 n0 f0) := evObc (evObt (evRet (by unfold R115 F115_0; rfl)))
def C115 : PCon := mkC [.sl tp2, .fn 113 [] []] (fun _ => True) fun
 | [.sl n0 f0, .fn _ [] []] => R115 n0 f0
 | _ => .any
theorem ok115 : (vP C115).Ok Tryz.prog 115 := mkE tabB9 Tryz.func115 (by kernel_rfl) fun ds hp => rf0 (run115 ..) (ev115 _ _)
def m114 (s0 : ByteArray) : RT Empty := .obp (s0.size <= (9223372036854775807 : Nat) /\ ByteArray.mk (Array.mk [(97 : UInt8), (98 : UInt8), (99 : UInt8), (100 : UInt8), (101 : UInt8), (102 : UInt8), (103 : UInt8), (104 : UInt8), (105 : UInt8), (106 : UInt8), (107 : UInt8), (108 : UInt8), (109 : UInt8), (110 : UInt8), (111 : UInt8), (112 : UInt8), (113 : UInt8), (114 : UInt8), (115 : UInt8), (116 : UInt8), (117 : UInt8), (118 : UInt8), (119 : UInt8), (120 : UInt8), (121 : UInt8), (122 : UInt8), (48 : UInt8), (49 : UInt8), (50 : UInt8), (51 : UInt8), (52 : UInt8), (53 : UInt8), (54 : UInt8), (55 : UInt8), (56 : UInt8), (57 : UInt8), (45 : UInt8)]) = ByteArray.mk (Array.mk [(97 : UInt8), (98 : UInt8), (99 : UInt8), (100 : UInt8), (101 : UInt8), (102 : UInt8), (103 : UInt8), (104 : UInt8), (105 : UInt8), (106 : UInt8), (107 : UInt8), (108 : UInt8), (109 : UInt8), (110 : UInt8), (111 : UInt8), (112 : UInt8), (113 : UInt8), (114 : UInt8), (115 : UInt8), (116 : UInt8), (117 : UInt8), (118 : UInt8), (119 : UInt8), (120 : UInt8), (121 : UInt8), (122 : UInt8), (48 : UInt8), (49 : UInt8), (50 : UInt8), (51 : UInt8), (52 : UInt8), (53 : UInt8), (54 : UInt8), (55 : UInt8), (56 : UInt8), (57 : UInt8), (45 : UInt8)])) (.obt (.obi (.obi (.obi (.obi (.obi (.obi (.obj (bif bif !s0.toList == (ByteArray.mk (Array.mk [])).toList then decide ((↑s0.size : Int) <= 24) else false then (F146 s0 (ByteArray.mk (Array.mk [97, 98, 99, 100, 101, 102, 103, 104, 105, 106, 107, 108, 109, 110, 111, 112, 113, 114, 115, 116, 117, 118, 119, 120, 121, 122, 48, 49, 50, 51, 52, 53, 54, 55, 56, 57, 45]))).toList == (ByteArray.mk (Array.mk [])).toList else false) (decide ((0 : Int) <= 0 /\ 0 < (↑s0.size : Int))) (.obi (.obi (.obi (.obj (bif bif bif !s0.toList == (ByteArray.mk (Array.mk [])).toList then decide ((↑s0.size : Int) <= 24) else false then (F146 s0 (ByteArray.mk (Array.mk [97, 98, 99, 100, 101, 102, 103, 104, 105, 106, 107, 108, 109, 110, 111, 112, 113, 114, 115, 116, 117, 118, 119, 120, 121, 122, 48, 49, 50, 51, 52, 53, 54, 55, 56, 57, 45]))).toList == (ByteArray.mk (Array.mk [])).toList else false then decide (97 <= (↑(s0.data.1.getD 0 0).toNat : Int)) else false) (decide ((0 : Int) <= 0 /\ 0 < (↑s0.size : Int))) (.obi (.obi (.ret (V.bool (bif bif bif bif !s0.toList == (ByteArray.mk (Array.mk [])).toList then decide ((↑s0.size : Int) <= 24) else false then (F146 s0 (ByteArray.mk (Array.mk [97, 98, 99, 100, 101, 102, 103, 104, 105, 106, 107, 108, 109, 110, 111, 112, 113, 114, 115, 116, 117, 118, 119, 120, 121, 122, 48, 49, 50, 51, 52, 53, 54, 55, 56, 57, 45]))).toList == (ByteArray.mk (Array.mk [])).toList else false then decide (97 <= (↑(s0.data.1.getD 0 0).toNat : Int)) else false then decide ((↑(s0.data.1.getD 0 0).toNat : Int) <= 122) else false)))))))))))))))))
theorem run114 (s0 : ByteArray) : Fit noD (runL JJ ctB9 u0 s114 [V.str s0]) (m114 s0) := ⟨by kernel_rfl, by kernel_rfl⟩
def F114_0 (s0 : ByteArray) : Bool := bif bif bif bif !s0.toList == (ByteArray.mk (Array.mk [])).toList then decide ((↑s0.size : Int) <= 24) else false then (F146 s0 (ByteArray.mk (Array.mk [97, 98, 99, 100, 101, 102, 103, 104, 105, 106, 107, 108, 109, 110, 111, 112, 113, 114, 115, 116, 117, 118, 119, 120, 121, 122, 48, 49, 50, 51, 52, 53, 54, 55, 56, 57, 45]))).toList == (ByteArray.mk (Array.mk [])).toList else false then decide (97 <= (↑(s0.data.1.getD 0 0).toNat : Int)) else false then decide ((↑(s0.data.1.getD 0 0).toNat : Int) <= 122) else false
def R114 (s0 : ByteArray) : V := .bool (F114_0 s0)
theorem ev114 (s0 : ByteArray) (hp : s0.size <= 9223372036854775807) : evR noE (m114 s0) (R114 s0) := evObp (by first | assumption | (exact ⟨hp, rfl⟩)) (evObt (evObi (evObi (evObi (evObi (evObi (evObi (evObj (by first | assumption | (intro h; refine dqt ⟨Int.le_refl 0, str_pos s0 ?_⟩; cases hb : (!s0.toList == (⟨#[]⟩ : ByteArray).toList) with | true => rfl | false => (rw [hb] at h; simp at h))) (evObi (evObi (evObi (evObj (by first | assumption | (intro h; refine dqt ⟨Int.le_refl 0, str_pos s0 ?_⟩; cases hb : (!s0.toList == (⟨#[]⟩ : ByteArray).toList) with | true => rfl | false => (rw [hb] at h; simp at h))) (evObi (evObi (evRet (by unfold R114 F114_0; rfl))))))))))))))))
def C114 : PCon := mkC [.str] (fun
 | [.str s0] => s0.size <= 9223372036854775807
 | _ => False) fun
 | [.str s0] => R114 s0
 | _ => .any
theorem ok114 : (vP C114).Ok Tryz.prog 114 := mkE tabB9 Tryz.func114 (by kernel_rfl) fun ds hp => rf0 (run114 ..) (ev114 _ hp)
inductive S73 where
 | L0 (ia0 : Int)
def inv73 (n0 : Nat) (f0 : FnV) (n2 : Nat) (f2 : FnV) (n4 : Nat) (f4 : FnV) (n6 : Nat) (f6 : FnV) (x8 : Int) : S73 -> Env × List O × Option Ex
 | .L0 ia0 => ([(6, vi ia0), (15, V.kb false), (14, V.bool (F122 (sv (hdV (f6 x8.toNat))))), (13, V.str (sv (hdV (f6 x8.toNat)))), (12, V.pl 0 0), (5, V.pl 0 0), (11, V.agg [V.str (sv (hdV (f6 x8.toNat))), vi (jv1 (f6 x8.toNat)), vi (jv2 (f6 x8.toNat)), vi (jv3 (f6 x8.toNat)), vi (jv4 (f6 x8.toNat)), vi (jv5 (f6 x8.toNat))]), (10, V.pd [V.str (sv (hdV (f6 x8.toNat))), vi (jv1 (f6 x8.toNat)), vi (jv2 (f6 x8.toNat)), vi (jv3 (f6 x8.toNat)), vi (jv4 (f6 x8.toNat)), vi (jv5 (f6 x8.toNat))]), (9, vi x8), (8, V.sl n6 (elV tyC f6)), (7, V.pl 1 3), (4, vi 0), (2, V.pl 1 0), (0, scV n0 f0 n2 f2 n4 f4 n6 f6), (1, vi x8)], [O.cells [V.str (sv (hdV (f6 x8.toNat))), vi (jv1 (f6 x8.toNat)), vi (jv2 (f6 x8.toNat)), vi (jv3 (f6 x8.toNat)), vi (jv4 (f6 x8.toNat)), vi (jv5 (f6 x8.toNat))] 100, O.cells [V.sl n0 (elV tyR f0), V.sl n2 (elV tyT f2), V.sl n4 (elV tyF f4), V.sl n6 (elV tyC f6)] 27], none)
def id73 : S73 -> JJ
 | .L0 ia0 => (0, [])
def rl73 (n0 : Nat) (f0 : FnV) (n2 : Nat) (f2 : FnV) (n4 : Nat) (f4 : FnV) (n6 : Nat) (f6 : FnV) (x8 : Int) : T (Leaf JJ) := runL JJ ctB9 u0 s73 [scV n0 f0 n2 f2 n4 f4 n6 f6, vi x8]
def lp73_0 (n0 : Nat) (f0 : FnV) (n2 : Nat) (f2 : FnV) (n4 : Nat) (f4 : FnV) (n6 : Nat) (f6 : FnV) (x8 : Int) (cx : List Cx) : Lp JJ := lpT (atT (rl73 n0 f0 n2 f2 n4 f4 n6 f6 x8) [false])
def lp73 (n0 : Nat) (f0 : FnV) (n2 : Nat) (f2 : FnV) (n4 : Nat) (f4 : FnV) (n6 : Nat) (f6 : FnV) (x8 : Int) : JJ -> Lp JJ
 | (0, cx) => lp73_0 n0 f0 n2 f2 n4 f4 n6 f6 x8 cx
 | (_, cx) => lp73_0 n0 f0 n2 f2 n4 f4 n6 f6 x8 cx
def D73 (n0 : Nat) (f0 : FnV) (n2 : Nat) (f2 : FnV) (n4 : Nat) (f4 : FnV) (n6 : Nat) (f6 : FnV) (x8 : Int) : LD JJ S73 := ⟨id73, lp73 n0 f0 n2 f2 n4 f4 n6 f6 x8, inv73 n0 f0 n2 f2 n4 f4 n6 f6 x8⟩
def st73 (n0 : Nat) (f0 : FnV) (n2 : Nat) (f2 : FnV) (n4 : Nat) (f4 : FnV) (n6 : Nat) (f6 : FnV) (x8 : Int) : S73 -> RT S73
 | .L0 ia0 => .br (decide (ia0 < x8)) (.ob (decide (0 <= ia0 /\ ia0 < (↑n6 : Int))) (.br ((sv (hdV (f6 ia0.toNat))).toList == (sv (hdV (f6 x8.toNat))).toList) (.ret (vi 5)) (.next [some (some 0), some (some 1)] (S73.L0 (i64.wrap (ia0 + 1))) []))) (.obc (.obt (.obi (.br (!!F51 2 (elV tp1 (secF [vi (jv1 (f6 x8.toNat)), vi (jv2 (f6 x8.toNat))] 0 1))) (.ob (!!F51 2 (elV tp1 (secF [vi (jv1 (f6 x8.toNat)), vi (jv2 (f6 x8.toNat))] 0 1))) (.obc (.obt (.obi (.br (!!F71_0 (jv3 (f6 x8.toNat)) 1 200) (.ob (!!F71_0 (jv3 (f6 x8.toNat)) 1 200) (.obc (.obt (.obi (.br (!!F71_0 (jv4 (f6 x8.toNat)) (-1000) 1000) (.ob (!!F71_0 (jv4 (f6 x8.toNat)) (-1000) 1000) (.obc (.obt (.br (!F71_0 (jv5 (f6 x8.toNat)) (-1000) 1000) (.ret (vi 7)) (.obi (.obi (.obi (.br (bif jv4 (f6 x8.toNat) == 0 then jv5 (f6 x8.toNat) == 0 else false) (.ret (vi 2)) (.ret (vi 0)))))))))) (.ret (vi 7))))))) (.ret (vi 7))))))) (.ret (vi 7))))))
def m73 (n0 : Nat) (f0 : FnV) (n2 : Nat) (f2 : FnV) (n4 : Nat) (f4 : FnV) (n6 : Nat) (f6 : FnV) (x8 : Int) : RT S73 := .ob (decide (0 <= x8 /\ x8 < (↑n6 : Int))) (.obp ((sv (hdV (f6 x8.toNat))).size <= (9223372036854775807 : Nat)) (.obt (.br (!F122 (sv (hdV (f6 x8.toNat)))) (.ret (vi 6)) (.enter [some (some 1), some (some 0)] (S73.L0 (0)) []))))
theorem run73 (n0 : Nat) (f0 : FnV) (n2 : Nat) (f2 : FnV) (n4 : Nat) (f4 : FnV) (n6 : Nat) (f6 : FnV) (x8 : Int) : Fits ctB9 u0 (D73 n0 f0 n2 f2 n4 f4 n6 f6 x8) (rl73 n0 f0 n2 f2 n4 f4 n6 f6 x8) (m73 n0 f0 n2 f2 n4 f4 n6 f6 x8) (st73 n0 f0 n2 f2 n4 f4 n6 f6 x8) := ⟨⟨by kernel_rfl, by kernel_rfl⟩, fun s => by cases s <;> exact ⟨by kernel_rfl, by kernel_rfl⟩⟩
def colE (x y h dx dy : Int) : Int := bif bif bif bif !F51 2 (elV tp1 (secF [V.int .i64 x, V.int .i64 y] 0 ((1 + 1 - 0) / 2))) then true else !F71_0 h 1 200 then true else !F71_0 dx (-1000) 1000 then true else !F71_0 dy (-1000) 1000 then 7 else bif bif dx == 0 then dy == 0 else false then 2 else 0
def F73 (n6 : Nat) (f6 : FnV) (x8 : Int) : Int := bif !F122 (sv (hdV (f6 x8.toNat))) then 6 else bif exB x8.toNat (fun k => (sv (hdV (f6 k))).toList == (sv (hdV (f6 x8.toNat))).toList) then 5 else colE (jv1 (f6 x8.toNat)) (jv2 (f6 x8.toNat)) (jv3 (f6 x8.toNat)) (jv4 (f6 x8.toNat)) (jv5 (f6 x8.toNat))
theorem ev73_0 (n0 : Nat) (f0 : FnV) (n2 : Nat) (f2 : FnV) (n4 : Nat) (f4 : FnV) (n6 : Nat) (f6 : FnV) (x8 : Int) (hp : 0 <= x8 /\ x8 < n6 /\ n6 <= 9223372036854775807 /\ SzOk n6 f6) : evR (Ev (st73 n0 f0 n2 f2 n4 f4 n6 f6 x8)) (m73 n0 f0 n2 f2 n4 f4 n6 f6 x8) (.int .i64 (F73 n6 f6 x8)) := by
 obtain ⟨h0, h1, h2, h3⟩ := hp
 obtain ⟨k, rfl⟩ : ∃ k : Nat, x8 = (k : Int) := ⟨x8.toNat, by omega⟩
 have hk : k < n6 := by omega
 refine evObLt hk (evObp (h3 k hk) (evObt ?_))
 unfold F73
 simp only [Int.toNat_natCast]
 refine evBr (fun h => evRet (by rw [show (!F122 (sv (hdV (f6 k)))) = true from h]; rfl)) (fun h => ?_)
 rw [show (!F122 (sv (hdV (f6 k)))) = false from h, cond_false]
 refine evEnter (scan (n := k) (by omega) (fun i => (sv (hdV (f6 i))).toList == (sv (hdV (f6 k))).toList) (P := fun i => Ev (st73 n0 f0 n2 f2 n4 f4 n6 f6 (k : Int)) (.L0 i) _) (fun i hlt hj next => Ev.of rfl (evBrLt hlt (evObLt (by omega) (evBr (fun hb => evRet ?_) (fun hb => evNext (next hb))))))
  (fun hj => Ev.of rfl (evBrGe ?_)))
 ·rw [exB_true i hlt hb]; rfl
 ·rw [exB_false hj, cond_false]
  unfold colE
  refine evObc (evObt (evObi (evBr (fun h => evOb h (evObc (evObt (evObi (evBr (fun h' => evOb h' (evObc (evObt (evObi (evBr (fun h'' => evOb h'' (evObc (evObt (evBr (fun h3 => evRet ?_) (fun h3 => ?_))))) (fun h'' => evRet ?_)))))) (fun h' => evRet ?_)))))) (fun h => evRet ?_))))
  all_goals try simp only [Int.toNat_natCast] at *
  ·rw [ng h, ng h', ng h'', h3]; rfl
  ·rw [ng h, ng h', ng h'', h3]
   repeat refine evObi ?_
   refine evBr (fun h4 => evRet ?_) (fun h4 => evRet ?_) <;> (simp only [cond_false]; rw [h4]; rfl)
  ·rw [ng h, ng h', ng' h'']; rfl
  ·rw [ng h, ng' h']; rfl
  ·rw [ng' h]; rfl
theorem ev73 (n0 : Nat) (f0 : FnV) (n2 : Nat) (f2 : FnV) (n4 : Nat) (f4 : FnV) (n6 : Nat) (f6 : FnV) (x8 : Int) (hp : 0 <= x8 /\ x8 < n6 /\ n6 <= 9223372036854775807 /\ SzOk n6 (elV tyC f6)) : evR (Ev (st73 n0 f0 n2 f2 n4 f4 n6 f6 x8)) (m73 n0 f0 n2 f2 n4 f4 n6 f6 x8) (.int .i64 (F73 n6 (elV tyC f6) x8)) := ev73_0 n0 f0 n2 f2 n4 f4 n6 f6 x8 hp
def C73 : PCon := mkC [.agg [.sl tyR, .sl tyT, .sl tyF, .sl tyC], .int .i64] (fun
 | [.agg [.sl n0 f0, .sl n2 f2, .sl n4 f4, .sl n6 f6], .int _ x8] => 0 <= x8 /\ x8 < n6 /\ n6 <= 9223372036854775807 /\ SzOk n6 f6
 | _ => False) fun
 | [.agg [.sl n0 f0, .sl n2 f2, .sl n4 f4, .sl n6 f6], .int _ x8] => .int .i64 (F73 n6 f6 x8)
 | _ => .any
theorem ok73 : (vP C73).Ok Tryz.prog 73 := mkE tabB9 Tryz.func73 (by kernel_rfl) fun ds hp => rfs (run73 ..) (ev73 _ _ _ _ _ _ _ _ _ hp)
def ctB10 : CTab := (117, .inl s117 u0) :: (116, .inl s116 u0) :: (115, .con C115) :: (114, .con C114) :: (73, .con C73) :: ctB9
theorem tabB10 : TabOk Tryz.prog eqs its ctB10 := .inl Tryz.func117 (by kernel_rfl) (by kernel_rfl) (by kernel_rfl) (.inl Tryz.func116 (by kernel_rfl) (by kernel_rfl) (by kernel_rfl) (.con ok115 (.con ok114 (.con ok73 (tabB9)))))
inductive S63 where
 | L0 (ia0 : Int) (fa1 : Nat -> List V)
 | L1 (ib0 : Int) (fb1 : Nat -> List V)
 | L2 (ic0 : Int) (fc1 : Nat -> List V)
 | L3 (id0 : Int) (fd1 : Nat -> List V)
 | L4 (ie0 : Int) (ne1 ne2 : Nat) (ie3 ie4 ie5 : Int) (ne6 : Nat) (ie7 ie8 ie9 ie10 : Int) (fe11 : Nat -> List V)
 | L5 (if0 : Int) (nf1 nf2 : Nat) (if3 if4 if5 : Int) (nf6 : Nat) (if7 if8 if9 if10 : Int) (ff11 : Nat -> List V)
 | L6 (ig0 : Int) (ng1 ng2 : Nat) (ig3 ig4 ig5 : Int) (ng6 : Nat) (ig7 ig8 ig9 ig10 : Int) (fg11 : Nat -> List V)
 | L7 (ih0 : Int) (nh1 nh2 : Nat) (ih3 ih4 ih5 : Int) (nh6 : Nat) (ih7 ih8 ih9 ih10 : Int) (fh11 : Nat -> List V)
def inv63 (n0 : Nat) (f0 : FnV) (s2 : ByteArray) (x3 : Int) (n4 : Nat) (f4 : FnV) (x6 : Int) : S63 -> Env × List O × Option Ex
 | .L0 ia0 fa1 => ([(3, vi ia0), (8, V.kb false), (7, vi (↑n4 : Int)), (6, V.gs 2 n4), (2, V.ns), (0, V.gs 2 n4)], [O.cells [V.str s2, vi x3, V.sl n4 (elV tp2 f4), vi x6] 54, O.hid, O.gl 2 n4 (elV tp2 fa1) 72], none)
 | .L1 ib0 fb1 => ([(3, vi ib0), (8, V.kb false), (7, vi (↑n4 : Int)), (6, V.gs 2 n4), (2, V.ns), (0, V.gs 2 n4)], [O.cells [V.str s2, vi x3, V.sl n4 (elV tp2 f4), vi x6] 54, O.hid, O.gl 2 n4 (elV tp2 fb1) 72], none)
 | .L2 ic0 fc1 => ([(3, vi ic0), (8, V.kb false), (7, vi (↑n4 : Int)), (6, V.gs 2 n4), (2, V.ns), (0, V.gs 2 n4)], [O.cells [V.str s2, vi x3, V.sl n4 (elV tp2 f4), vi x6] 54, O.hid, O.gl 2 n4 (elV tp2 fc1) 72], none)
 | .L3 id0 fd1 => ([(3, vi id0), (8, V.kb false), (7, vi (↑n4 : Int)), (6, V.gs 2 n4), (2, V.ns), (0, V.gs 2 n4)], [O.cells [V.str s2, vi x3, V.sl n4 (elV tp2 f4), vi x6] 54, O.hid, O.gl 2 n4 (elV tp2 fd1) 72], none)
 | .L4 ie0 ne1 ne2 ie3 ie4 ie5 ne6 ie7 ie8 ie9 ie10 fe11 => ([(5, vi ie0), (4, V.go 2 ne1 ne2), (28, V.go 2 ne1 ne2), (27, vi ie3), (26, V.gs 2 n4), (25, V.kb true), (24, V.agg [vi ie4, vi ie5]), (23, V.pe 2 ne6 0), (22, vi ie7), (21, vi ie3), (20, V.gs 2 n4), (19, V.agg [vi ie8, vi ie9]), (18, V.pe 2 ne1 0), (17, vi ie3), (16, V.gs 2 n4), (13, V.kb true), (12, vi (↑n4 : Int)), (11, V.gs 2 n4), (10, vi ie3), (3, vi ie10), (8, V.kb false), (7, vi (↑n4 : Int)), (6, V.gs 2 n4), (2, V.ns), (0, V.gs 2 n4)], [O.cells [V.str s2, vi x3, V.sl n4 (elV tp2 f4), vi x6] 54, O.hid, O.gl 2 n4 (elV tp2 fe11) 72], none)
 | .L5 if0 nf1 nf2 if3 if4 if5 nf6 if7 if8 if9 if10 ff11 => ([(5, vi if0), (4, V.go 2 nf1 nf2), (28, V.go 2 nf1 nf2), (27, vi if3), (26, V.gs 2 n4), (25, V.kb true), (24, V.agg [vi if4, vi if5]), (23, V.pe 2 nf6 0), (22, vi if7), (21, vi if3), (20, V.gs 2 n4), (19, V.agg [vi if8, vi if9]), (18, V.pe 2 nf1 0), (17, vi if3), (16, V.gs 2 n4), (13, V.kb true), (12, vi (↑n4 : Int)), (11, V.gs 2 n4), (10, vi if3), (3, vi if10), (8, V.kb false), (7, vi (↑n4 : Int)), (6, V.gs 2 n4), (2, V.ns), (0, V.gs 2 n4)], [O.cells [V.str s2, vi x3, V.sl n4 (elV tp2 f4), vi x6] 54, O.hid, O.gl 2 n4 (elV tp2 ff11) 72], none)
 | .L6 ig0 ng1 ng2 ig3 ig4 ig5 ng6 ig7 ig8 ig9 ig10 fg11 => ([(5, vi ig0), (4, V.go 2 ng1 ng2), (28, V.go 2 ng1 ng2), (27, vi ig3), (26, V.gs 2 n4), (25, V.kb true), (24, V.agg [vi ig4, vi ig5]), (23, V.pe 2 ng6 0), (22, vi ig7), (21, vi ig3), (20, V.gs 2 n4), (19, V.agg [vi ig8, vi ig9]), (18, V.pe 2 ng1 0), (17, vi ig3), (16, V.gs 2 n4), (13, V.kb true), (12, vi (↑n4 : Int)), (11, V.gs 2 n4), (10, vi ig3), (3, vi ig10), (8, V.kb false), (7, vi (↑n4 : Int)), (6, V.gs 2 n4), (2, V.ns), (0, V.gs 2 n4)], [O.cells [V.str s2, vi x3, V.sl n4 (elV tp2 f4), vi x6] 54, O.hid, O.gl 2 n4 (elV tp2 fg11) 72], none)
 | .L7 ih0 nh1 nh2 ih3 ih4 ih5 nh6 ih7 ih8 ih9 ih10 fh11 => ([(5, vi ih0), (4, V.go 2 nh1 nh2), (28, V.go 2 nh1 nh2), (27, vi ih3), (26, V.gs 2 n4), (25, V.kb true), (24, V.agg [vi ih4, vi ih5]), (23, V.pe 2 nh6 0), (22, vi ih7), (21, vi ih3), (20, V.gs 2 n4), (19, V.agg [vi ih8, vi ih9]), (18, V.pe 2 nh1 0), (17, vi ih3), (16, V.gs 2 n4), (13, V.kb true), (12, vi (↑n4 : Int)), (11, V.gs 2 n4), (10, vi ih3), (3, vi ih10), (8, V.kb false), (7, vi (↑n4 : Int)), (6, V.gs 2 n4), (2, V.ns), (0, V.gs 2 n4)], [O.cells [V.str s2, vi x3, V.sl n4 (elV tp2 f4), vi x6] 54, O.hid, O.gl 2 n4 (elV tp2 fh11) 72], none)
def id63 : S63 -> JJ
 | .L0 ia0 fa1 => (0, [])
 | .L1 ib0 fb1 => (1, [])
 | .L2 ic0 fc1 => (2, [])
 | .L3 id0 fd1 => (3, [])
 | .L4 ie0 ne1 ne2 ie3 ie4 ie5 ne6 ie7 ie8 ie9 ie10 fe11 => (4, [])
 | .L5 if0 nf1 nf2 if3 if4 if5 nf6 if7 if8 if9 if10 ff11 => (5, [])
 | .L6 ig0 ng1 ng2 ig3 ig4 ig5 ng6 ig7 ig8 ig9 ig10 fg11 => (6, [])
 | .L7 ih0 nh1 nh2 ih3 ih4 ih5 nh6 ih7 ih8 ih9 ih10 fh11 => (7, [])
def rl63 (n0 : Nat) (f0 : FnV) (s2 : ByteArray) (x3 : Int) (n4 : Nat) (f4 : FnV) (x6 : Int) : T (Leaf JJ) := runL JJ ctB10 u0 s63 [V.sl n0 (elV tyR f0), V.agg [V.str s2, vi x3, V.sl n4 (elV tp2 f4), vi x6]]
def lp63_0 (n0 : Nat) (f0 : FnV) (s2 : ByteArray) (x3 : Int) (n4 : Nat) (f4 : FnV) (x6 : Int) (cx : List Cx) : Lp JJ := lpT (atT (rl63 n0 f0 s2 x3 n4 f4 x6) [false, false, false, false, false, true, false, true, true, false, true, false])
def lp63_1 (n0 : Nat) (f0 : FnV) (s2 : ByteArray) (x3 : Int) (n4 : Nat) (f4 : FnV) (x6 : Int) (cx : List Cx) : Lp JJ := lpT (atT (rl63 n0 f0 s2 x3 n4 f4 x6) [false, false, false, false, false, true, false, true, true, false, false, false])
def lp63_2 (n0 : Nat) (f0 : FnV) (s2 : ByteArray) (x3 : Int) (n4 : Nat) (f4 : FnV) (x6 : Int) (cx : List Cx) : Lp JJ := lpT (atT (rl63 n0 f0 s2 x3 n4 f4 x6) [false, false, false, false, false, true, false, true, false, false, false])
def lp63_3 (n0 : Nat) (f0 : FnV) (s2 : ByteArray) (x3 : Int) (n4 : Nat) (f4 : FnV) (x6 : Int) (cx : List Cx) : Lp JJ := lpT (atT (rl63 n0 f0 s2 x3 n4 f4 x6) [false, false, false, false, false, true, false, false, false, false])
def lp63_4 (n0 : Nat) (f0 : FnV) (s2 : ByteArray) (x3 : Int) (n4 : Nat) (f4 : FnV) (x6 : Int) (cx : List Cx) : Lp JJ := lpT (atT (rdP ctB10 u0 (0, []) (lp63_0 n0 f0 s2 x3 n4 f4 x6 []) (inv63 n0 f0 s2 x3 n4 f4 x6 (.L0 (0 : Int) (fun _ => [])))) [true, true])
def lp63_5 (n0 : Nat) (f0 : FnV) (s2 : ByteArray) (x3 : Int) (n4 : Nat) (f4 : FnV) (x6 : Int) (cx : List Cx) : Lp JJ := lpT (atT (rdP ctB10 u0 (1, []) (lp63_1 n0 f0 s2 x3 n4 f4 x6 []) (inv63 n0 f0 s2 x3 n4 f4 x6 (.L1 (0 : Int) (fun _ => [])))) [true, true])
def lp63_6 (n0 : Nat) (f0 : FnV) (s2 : ByteArray) (x3 : Int) (n4 : Nat) (f4 : FnV) (x6 : Int) (cx : List Cx) : Lp JJ := lpT (atT (rdP ctB10 u0 (2, []) (lp63_2 n0 f0 s2 x3 n4 f4 x6 []) (inv63 n0 f0 s2 x3 n4 f4 x6 (.L2 (0 : Int) (fun _ => [])))) [true, true])
def lp63_7 (n0 : Nat) (f0 : FnV) (s2 : ByteArray) (x3 : Int) (n4 : Nat) (f4 : FnV) (x6 : Int) (cx : List Cx) : Lp JJ := lpT (atT (rdP ctB10 u0 (3, []) (lp63_3 n0 f0 s2 x3 n4 f4 x6 []) (inv63 n0 f0 s2 x3 n4 f4 x6 (.L3 (0 : Int) (fun _ => [])))) [true, true])
def lp63 (n0 : Nat) (f0 : FnV) (s2 : ByteArray) (x3 : Int) (n4 : Nat) (f4 : FnV) (x6 : Int) : JJ -> Lp JJ
 | (0, cx) => lp63_0 n0 f0 s2 x3 n4 f4 x6 cx
 | (1, cx) => lp63_1 n0 f0 s2 x3 n4 f4 x6 cx
 | (2, cx) => lp63_2 n0 f0 s2 x3 n4 f4 x6 cx
 | (3, cx) => lp63_3 n0 f0 s2 x3 n4 f4 x6 cx
 | (4, cx) => lp63_4 n0 f0 s2 x3 n4 f4 x6 cx
 | (5, cx) => lp63_5 n0 f0 s2 x3 n4 f4 x6 cx
 | (6, cx) => lp63_6 n0 f0 s2 x3 n4 f4 x6 cx
 | (7, cx) => lp63_7 n0 f0 s2 x3 n4 f4 x6 cx
 | (_, cx) => lp63_0 n0 f0 s2 x3 n4 f4 x6 cx
def D63 (n0 : Nat) (f0 : FnV) (s2 : ByteArray) (x3 : Int) (n4 : Nat) (f4 : FnV) (x6 : Int) : LD JJ S63 := ⟨id63, lp63 n0 f0 s2 x3 n4 f4 x6, inv63 n0 f0 s2 x3 n4 f4 x6⟩
def st63 (n0 : Nat) (f0 : FnV) (s2 : ByteArray) (x3 : Int) (n4 : Nat) (f4 : FnV) (x6 : Int) : S63 -> RT S63
 | .L0 ia0 fa1 => .br (decide (ia0 < (↑n4 : Int))) (.ob (decide (0 <= ia0 /\ ia0 < (↑n4 : Int) /\ n4 <= n4)) (.ob (decide (ia0.toNat < n4)) (.ob (decide (0 <= i64.wrap (ia0 - 1) /\ i64.wrap (ia0 - 1) < (↑n4 : Int) /\ n4 <= n4)) (.ob (decide ((i64.wrap (ia0 - 1)).toNat < n4)) (.br (jv0 (fa1 ia0.toNat) == jv0 (fa1 (i64.wrap (ia0 - 1)).toNat) && (jv1 (fa1 ia0.toNat) == jv1 (fa1 (i64.wrap (ia0 - 1)).toNat) && true)) (.ob (decide (0 <= ia0 /\ ia0 <= (↑n4 : Int))) (.enter (iR 0 3 []) (S63.L4 (1) (ia0.toNat) (n4 - ia0.toNat) (ia0) (jv0 (fa1 (i64.wrap (ia0 - 1)).toNat)) (jv1 (fa1 (i64.wrap (ia0 - 1)).toNat)) ((i64.wrap (ia0 - 1)).toNat) (i64.wrap (ia0 - 1)) (jv0 (fa1 ia0.toNat)) (jv1 (fa1 ia0.toNat)) (ia0) (elV tp2 fa1)) [⟨2, tp2, n4, elV tp2 fa1, vf_view rfl _ _⟩])) (.next (iR 0 3 []) (S63.L0 (i64.wrap (ia0 + 1)) (elV tp2 fa1)) [⟨2, tp2, n4, elV tp2 fa1, vf_view rfl _ _⟩])))))) (.asm (true = true -> n4 <= 9223372036854775807) (.br (decide ((↑n4 : Int) < (↑n4 : Int))) (.ret (vi 2)) (.obi (.obi (.asm ((x3 == 3) = true -> n4 <= 9223372036854775807) (.obi (.obi (.br (bif x3 == 3 then decide (2 < (↑n4 : Int)) else false) (.ret (vi 2)) (.ret (vi 0))))))))))
 | .L1 ib0 fb1 => .br (decide (ib0 < (↑n4 : Int))) (.ob (decide (0 <= ib0 /\ ib0 < (↑n4 : Int) /\ n4 <= n4)) (.ob (decide (ib0.toNat < n4)) (.ob (decide (0 <= i64.wrap (ib0 - 1) /\ i64.wrap (ib0 - 1) < (↑n4 : Int) /\ n4 <= n4)) (.ob (decide ((i64.wrap (ib0 - 1)).toNat < n4)) (.br (jv0 (fb1 ib0.toNat) == jv0 (fb1 (i64.wrap (ib0 - 1)).toNat) && (jv1 (fb1 ib0.toNat) == jv1 (fb1 (i64.wrap (ib0 - 1)).toNat) && true)) (.ob (decide (0 <= ib0 /\ ib0 <= (↑n4 : Int))) (.enter (iR 0 3 []) (S63.L5 (1) (ib0.toNat) (n4 - ib0.toNat) (ib0) (jv0 (fb1 (i64.wrap (ib0 - 1)).toNat)) (jv1 (fb1 (i64.wrap (ib0 - 1)).toNat)) ((i64.wrap (ib0 - 1)).toNat) (i64.wrap (ib0 - 1)) (jv0 (fb1 ib0.toNat)) (jv1 (fb1 ib0.toNat)) (ib0) (elV tp2 fb1)) [⟨2, tp2, n4, elV tp2 fb1, vf_view rfl _ _⟩])) (.next (iR 0 3 []) (S63.L1 (i64.wrap (ib0 + 1)) (elV tp2 fb1)) [⟨2, tp2, n4, elV tp2 fb1, vf_view rfl _ _⟩])))))) (.br (decide ((↑n4 : Int) < (↑n4 : Int))) (.ret (vi 2)) (.obi (.obi (.asm ((x3 == 3) = true -> n4 <= 9223372036854775807) (.obi (.obi (.br (bif x3 == 3 then decide (2 < (↑n4 : Int)) else false) (.ret (vi 2)) (.ret (vi 0)))))))))
 | .L2 ic0 fc1 => .br (decide (ic0 < (↑n4 : Int))) (.ob (decide (0 <= ic0 /\ ic0 < (↑n4 : Int) /\ n4 <= n4)) (.ob (decide (ic0.toNat < n4)) (.ob (decide (0 <= i64.wrap (ic0 - 1) /\ i64.wrap (ic0 - 1) < (↑n4 : Int) /\ n4 <= n4)) (.ob (decide ((i64.wrap (ic0 - 1)).toNat < n4)) (.br (jv0 (fc1 ic0.toNat) == jv0 (fc1 (i64.wrap (ic0 - 1)).toNat) && (jv1 (fc1 ic0.toNat) == jv1 (fc1 (i64.wrap (ic0 - 1)).toNat) && true)) (.ob (decide (0 <= ic0 /\ ic0 <= (↑n4 : Int))) (.enter (iR 0 3 []) (S63.L6 (1) (ic0.toNat) (n4 - ic0.toNat) (ic0) (jv0 (fc1 (i64.wrap (ic0 - 1)).toNat)) (jv1 (fc1 (i64.wrap (ic0 - 1)).toNat)) ((i64.wrap (ic0 - 1)).toNat) (i64.wrap (ic0 - 1)) (jv0 (fc1 ic0.toNat)) (jv1 (fc1 ic0.toNat)) (ic0) (elV tp2 fc1)) [⟨2, tp2, n4, elV tp2 fc1, vf_view rfl _ _⟩])) (.next (iR 0 3 []) (S63.L2 (i64.wrap (ic0 + 1)) (elV tp2 fc1)) [⟨2, tp2, n4, elV tp2 fc1, vf_view rfl _ _⟩])))))) (.br (decide ((↑n4 : Int) < (↑n4 : Int))) (.ret (vi 2)) (.obi (.obi (.asm ((x3 == 3) = true -> n4 <= 9223372036854775807) (.obi (.obi (.br (bif x3 == 3 then decide (2 < (↑n4 : Int)) else false) (.ret (vi 2)) (.ret (vi 0)))))))))
 | .L3 id0 fd1 => .br (decide (id0 < (↑n4 : Int))) (.ob (decide (0 <= id0 /\ id0 < (↑n4 : Int) /\ n4 <= n4)) (.ob (decide (id0.toNat < n4)) (.ob (decide (0 <= i64.wrap (id0 - 1) /\ i64.wrap (id0 - 1) < (↑n4 : Int) /\ n4 <= n4)) (.ob (decide ((i64.wrap (id0 - 1)).toNat < n4)) (.br (jv0 (fd1 id0.toNat) == jv0 (fd1 (i64.wrap (id0 - 1)).toNat) && (jv1 (fd1 id0.toNat) == jv1 (fd1 (i64.wrap (id0 - 1)).toNat) && true)) (.ob (decide (0 <= id0 /\ id0 <= (↑n4 : Int))) (.enter (iR 0 3 []) (S63.L7 (1) (id0.toNat) (n4 - id0.toNat) (id0) (jv0 (fd1 (i64.wrap (id0 - 1)).toNat)) (jv1 (fd1 (i64.wrap (id0 - 1)).toNat)) ((i64.wrap (id0 - 1)).toNat) (i64.wrap (id0 - 1)) (jv0 (fd1 id0.toNat)) (jv1 (fd1 id0.toNat)) (id0) (elV tp2 fd1)) [⟨2, tp2, n4, elV tp2 fd1, vf_view rfl _ _⟩])) (.next (iR 0 3 []) (S63.L3 (i64.wrap (id0 + 1)) (elV tp2 fd1)) [⟨2, tp2, n4, elV tp2 fd1, vf_view rfl _ _⟩])))))) (.br (decide ((↑n4 : Int) < (↑n4 : Int))) (.ret (vi 2)) (.obi (.obi (.asm ((x3 == 3) = true -> n4 <= 9223372036854775807) (.obi (.obi (.br (bif x3 == 3 then decide (2 < (↑n4 : Int)) else false) (.ret (vi 2)) (.ret (vi 0)))))))))
 | .L4 ie0 ne1 ne2 ie3 ie4 ie5 ne6 ie7 ie8 ie9 ie10 fe11 => .br (decide (ie0 < (↑ne2 : Int))) (.ob (decide (0 <= ie0 /\ ie0 < (↑ne2 : Int) /\ ne1 + ne2 <= n4)) (.ob (decide (ne1 + ie0.toNat < n4)) (.ob (decide (0 <= i64.wrap (ie0 - 1) /\ i64.wrap (ie0 - 1) < (↑ne2 : Int) /\ ne1 + ne2 <= n4)) (.ob (decide (ne1 + (i64.wrap (ie0 - 1)).toNat < n4)) (.br (!(jv0 (fe11 (ne1 + ie0.toNat)) == jv0 (fe11 (ne1 + (i64.wrap (ie0 - 1)).toNat)) && (jv1 (fe11 (ne1 + ie0.toNat)) == jv1 (fe11 (ne1 + (i64.wrap (ie0 - 1)).toNat)) && true))) (.ob (decide (0 <= ie0 /\ ie0 < (↑ne2 : Int) /\ ne1 + ne2 <= n4)) (.ob (decide (ne1 + ie0.toNat < n4)) (.ob (decide (0 <= ie10 /\ ie10 < (↑n4 : Int) /\ n4 <= n4)) (.ob (decide (ie10.toNat < n4)) (.next (iR 0 3 []) (S63.L4 (i64.wrap (ie0 + 1)) (ne1) (ne2) (ie3) (ie4) (ie5) (ne6) (ie7) (ie8) (ie9) (i64.wrap (ie10 + 1)) (fun i' => bif i'.beq ie10.toNat then [vi (jv0 (fe11 (ne1 + ie0.toNat))), vi (jv1 (fe11 (ne1 + ie0.toNat)))] else elV tp2 fe11 i')) [⟨2, tp2, n4, fun i' => bif i'.beq ie10.toNat then [vi (jv0 (fe11 (ne1 + ie0.toNat))), vi (jv1 (fe11 (ne1 + ie0.toNat)))] else elV tp2 fe11 i', vf_set rfl (vf_view rfl _ _) rfl⟩]))))) (.next (iR 0 3 []) (S63.L4 (i64.wrap (ie0 + 1)) (ne1) (ne2) (ie3) (ie4) (ie5) (ne6) (ie7) (ie8) (ie9) (ie10) (elV tp2 fe11)) [⟨2, tp2, n4, elV tp2 fe11, vf_view rfl _ _⟩])))))) (.ob (decide (0 <= ie10 /\ ie10 <= (↑n4 : Int))) (.ob (decide (0 < n4 - ie10.toNat /\ ie10.toNat + (n4 - ie10.toNat) <= n4)) (.ob (decide (0 <= ie10 /\ ie10 <= (↑n4 : Int))) (.asm (true = true -> n4 <= 9223372036854775807) (.br (decide ((↑ie10.toNat : Int) < (↑n4 : Int))) (.ret (vi 2)) (.obi (.obi (.asm ((x3 == 3) = true -> n4 <= 9223372036854775807) (.obi (.obi (.br (bif x3 == 3 then decide (2 < (↑n4 : Int)) else false) (.ret (vi 2)) (.ret (vi 0)))))))))))))
 | .L5 if0 nf1 nf2 if3 if4 if5 nf6 if7 if8 if9 if10 ff11 => .br (decide (if0 < (↑nf2 : Int))) (.ob (decide (0 <= if0 /\ if0 < (↑nf2 : Int) /\ nf1 + nf2 <= n4)) (.ob (decide (nf1 + if0.toNat < n4)) (.ob (decide (0 <= i64.wrap (if0 - 1) /\ i64.wrap (if0 - 1) < (↑nf2 : Int) /\ nf1 + nf2 <= n4)) (.ob (decide (nf1 + (i64.wrap (if0 - 1)).toNat < n4)) (.br (!(jv0 (ff11 (nf1 + if0.toNat)) == jv0 (ff11 (nf1 + (i64.wrap (if0 - 1)).toNat)) && (jv1 (ff11 (nf1 + if0.toNat)) == jv1 (ff11 (nf1 + (i64.wrap (if0 - 1)).toNat)) && true))) (.ob (decide (0 <= if0 /\ if0 < (↑nf2 : Int) /\ nf1 + nf2 <= n4)) (.ob (decide (nf1 + if0.toNat < n4)) (.ob (decide (0 <= if10 /\ if10 < (↑n4 : Int) /\ n4 <= n4)) (.ob (decide (if10.toNat < n4)) (.next (iR 0 3 []) (S63.L5 (i64.wrap (if0 + 1)) (nf1) (nf2) (if3) (if4) (if5) (nf6) (if7) (if8) (if9) (i64.wrap (if10 + 1)) (fun i' => bif i'.beq if10.toNat then [vi (jv0 (ff11 (nf1 + if0.toNat))), vi (jv1 (ff11 (nf1 + if0.toNat)))] else elV tp2 ff11 i')) [⟨2, tp2, n4, fun i' => bif i'.beq if10.toNat then [vi (jv0 (ff11 (nf1 + if0.toNat))), vi (jv1 (ff11 (nf1 + if0.toNat)))] else elV tp2 ff11 i', vf_set rfl (vf_view rfl _ _) rfl⟩]))))) (.next (iR 0 3 []) (S63.L5 (i64.wrap (if0 + 1)) (nf1) (nf2) (if3) (if4) (if5) (nf6) (if7) (if8) (if9) (if10) (elV tp2 ff11)) [⟨2, tp2, n4, elV tp2 ff11, vf_view rfl _ _⟩])))))) (.ob (decide (0 <= if10 /\ if10 <= (↑n4 : Int))) (.ob (decide (0 < n4 - if10.toNat /\ if10.toNat + (n4 - if10.toNat) <= n4)) (.ob (decide (0 <= if10 /\ if10 <= (↑n4 : Int))) (.br (decide ((↑if10.toNat : Int) < (↑n4 : Int))) (.ret (vi 2)) (.obi (.obi (.asm ((x3 == 3) = true -> n4 <= 9223372036854775807) (.obi (.obi (.br (bif x3 == 3 then decide (2 < (↑n4 : Int)) else false) (.ret (vi 2)) (.ret (vi 0))))))))))))
 | .L6 ig0 ng1 ng2 ig3 ig4 ig5 ng6 ig7 ig8 ig9 ig10 fg11 => .br (decide (ig0 < (↑ng2 : Int))) (.ob (decide (0 <= ig0 /\ ig0 < (↑ng2 : Int) /\ ng1 + ng2 <= n4)) (.ob (decide (ng1 + ig0.toNat < n4)) (.ob (decide (0 <= i64.wrap (ig0 - 1) /\ i64.wrap (ig0 - 1) < (↑ng2 : Int) /\ ng1 + ng2 <= n4)) (.ob (decide (ng1 + (i64.wrap (ig0 - 1)).toNat < n4)) (.br (!(jv0 (fg11 (ng1 + ig0.toNat)) == jv0 (fg11 (ng1 + (i64.wrap (ig0 - 1)).toNat)) && (jv1 (fg11 (ng1 + ig0.toNat)) == jv1 (fg11 (ng1 + (i64.wrap (ig0 - 1)).toNat)) && true))) (.ob (decide (0 <= ig0 /\ ig0 < (↑ng2 : Int) /\ ng1 + ng2 <= n4)) (.ob (decide (ng1 + ig0.toNat < n4)) (.ob (decide (0 <= ig10 /\ ig10 < (↑n4 : Int) /\ n4 <= n4)) (.ob (decide (ig10.toNat < n4)) (.next (iR 0 3 []) (S63.L6 (i64.wrap (ig0 + 1)) (ng1) (ng2) (ig3) (ig4) (ig5) (ng6) (ig7) (ig8) (ig9) (i64.wrap (ig10 + 1)) (fun i' => bif i'.beq ig10.toNat then [vi (jv0 (fg11 (ng1 + ig0.toNat))), vi (jv1 (fg11 (ng1 + ig0.toNat)))] else elV tp2 fg11 i')) [⟨2, tp2, n4, fun i' => bif i'.beq ig10.toNat then [vi (jv0 (fg11 (ng1 + ig0.toNat))), vi (jv1 (fg11 (ng1 + ig0.toNat)))] else elV tp2 fg11 i', vf_set rfl (vf_view rfl _ _) rfl⟩]))))) (.next (iR 0 3 []) (S63.L6 (i64.wrap (ig0 + 1)) (ng1) (ng2) (ig3) (ig4) (ig5) (ng6) (ig7) (ig8) (ig9) (ig10) (elV tp2 fg11)) [⟨2, tp2, n4, elV tp2 fg11, vf_view rfl _ _⟩])))))) (.ob (decide (0 <= ig10 /\ ig10 <= (↑n4 : Int))) (.ob (decide (0 < n4 - ig10.toNat /\ ig10.toNat + (n4 - ig10.toNat) <= n4)) (.ob (decide (0 <= ig10 /\ ig10 <= (↑n4 : Int))) (.br (decide ((↑ig10.toNat : Int) < (↑n4 : Int))) (.ret (vi 2)) (.obi (.obi (.asm ((x3 == 3) = true -> n4 <= 9223372036854775807) (.obi (.obi (.br (bif x3 == 3 then decide (2 < (↑n4 : Int)) else false) (.ret (vi 2)) (.ret (vi 0))))))))))))
 | .L7 ih0 nh1 nh2 ih3 ih4 ih5 nh6 ih7 ih8 ih9 ih10 fh11 => .br (decide (ih0 < (↑nh2 : Int))) (.ob (decide (0 <= ih0 /\ ih0 < (↑nh2 : Int) /\ nh1 + nh2 <= n4)) (.ob (decide (nh1 + ih0.toNat < n4)) (.ob (decide (0 <= i64.wrap (ih0 - 1) /\ i64.wrap (ih0 - 1) < (↑nh2 : Int) /\ nh1 + nh2 <= n4)) (.ob (decide (nh1 + (i64.wrap (ih0 - 1)).toNat < n4)) (.br (!(jv0 (fh11 (nh1 + ih0.toNat)) == jv0 (fh11 (nh1 + (i64.wrap (ih0 - 1)).toNat)) && (jv1 (fh11 (nh1 + ih0.toNat)) == jv1 (fh11 (nh1 + (i64.wrap (ih0 - 1)).toNat)) && true))) (.ob (decide (0 <= ih0 /\ ih0 < (↑nh2 : Int) /\ nh1 + nh2 <= n4)) (.ob (decide (nh1 + ih0.toNat < n4)) (.ob (decide (0 <= ih10 /\ ih10 < (↑n4 : Int) /\ n4 <= n4)) (.ob (decide (ih10.toNat < n4)) (.next (iR 0 3 []) (S63.L7 (i64.wrap (ih0 + 1)) (nh1) (nh2) (ih3) (ih4) (ih5) (nh6) (ih7) (ih8) (ih9) (i64.wrap (ih10 + 1)) (fun i' => bif i'.beq ih10.toNat then [vi (jv0 (fh11 (nh1 + ih0.toNat))), vi (jv1 (fh11 (nh1 + ih0.toNat)))] else elV tp2 fh11 i')) [⟨2, tp2, n4, fun i' => bif i'.beq ih10.toNat then [vi (jv0 (fh11 (nh1 + ih0.toNat))), vi (jv1 (fh11 (nh1 + ih0.toNat)))] else elV tp2 fh11 i', vf_set rfl (vf_view rfl _ _) rfl⟩]))))) (.next (iR 0 3 []) (S63.L7 (i64.wrap (ih0 + 1)) (nh1) (nh2) (ih3) (ih4) (ih5) (nh6) (ih7) (ih8) (ih9) (ih10) (elV tp2 fh11)) [⟨2, tp2, n4, elV tp2 fh11, vf_view rfl _ _⟩])))))) (.ob (decide (0 <= ih10 /\ ih10 <= (↑n4 : Int))) (.ob (decide (0 < n4 - ih10.toNat /\ ih10.toNat + (n4 - ih10.toNat) <= n4)) (.ob (decide (0 <= ih10 /\ ih10 <= (↑n4 : Int))) (.br (decide ((↑ih10.toNat : Int) < (↑n4 : Int))) (.ret (vi 2)) (.obi (.obi (.asm ((x3 == 3) = true -> n4 <= 9223372036854775807) (.obi (.obi (.br (bif x3 == 3 then decide (2 < (↑n4 : Int)) else false) (.ret (vi 2)) (.ret (vi 0))))))))))))
def m63 (n0 : Nat) (f0 : FnV) (s2 : ByteArray) (x3 : Int) (n4 : Nat) (f4 : FnV) (x6 : Int) : RT S63 := .obp (s2.size <= (9223372036854775807 : Nat)) (.obt (.br (!F114_0 s2) (.ret (vi 6)) (.obc (.obt (.br (F90_0 n0 (elV tyR f0) s2) (.ret (vi 5)) (.obc (.obt (.br (F86_0 x3 0 3) (.ret (vi 2)) (.asm (true = true -> n4 <= 9223372036854775807) (.br (decide ((↑n4 : Int) < 2)) (.ret (vi 4)) (.asm (true = true -> n4 <= 9223372036854775807) (.br (decide (8 < (↑n4 : Int))) (.ret (vi 3)) (.obc (.obt (.obi (.br (!F115_0 n4 (elV tp2 f4)) (.ob (!F115_0 n4 (elV tp2 f4)) (.obc (.obt (.br (F86_0 x6 100 30000) (.ret (vi 7)) (.und (.und (.und (.asm (n4 = 0) (.und (.brt (.asm (true = true -> n4 <= 9223372036854775807) (.br (decide (0 < (↑n4 : Int))) (.ret (vi 2)) (.obi (.obi (.asm ((x3 == 3) = true -> n4 <= 9223372036854775807) (.obi (.obi (.br (bif x3 == 3 then decide (2 < (↑n4 : Int)) else false) (.ret (vi 2)) (.ret (vi 0))))))))))) (.asm (true = true -> n4 <= 9223372036854775807) (.brt (.br (decide (0 < (↑n4 : Int))) (.ret (vi 2)) (.obi (.obi (.asm ((x3 == 3) = true -> n4 <= 9223372036854775807) (.obi (.obi (.br (bif x3 == 3 then decide (2 < (↑n4 : Int)) else false) (.ret (vi 2)) (.ret (vi 0))))))))))))) (.obv (allB n4 fun i => okE 2 (elV tp2 f4 i)) (allB_el rfl _ _) (.ob (decide (n4 * 16 <= 140737488355328) && !Nat.beq 16 0) (.und (.br (decide ((↑n4 : Int) < 2)) (.asm (true = true -> n4 <= 9223372036854775807) (.br (decide ((↑n4 : Int) < (↑n4 : Int))) (.ret (vi 2)) (.obi (.obi (.asm ((x3 == 3) = true -> n4 <= 9223372036854775807) (.obi (.obi (.br (bif x3 == 3 then decide (2 < (↑n4 : Int)) else false) (.ret (vi 2)) (.ret (vi 0)))))))))) (.enter (iR 0 3 []) (S63.L0 (1) (elV tp2 f4)) [⟨2, tp2, n4, elV tp2 f4, vf_view rfl _ _⟩])) (.asm (true = true -> n4 <= 9223372036854775807) (.br (decide ((↑n4 : Int) < 2)) (.br (decide ((↑n4 : Int) < (↑n4 : Int))) (.ret (vi 2)) (.obi (.obi (.asm ((x3 == 3) = true -> n4 <= 9223372036854775807) (.obi (.obi (.br (bif x3 == 3 then decide (2 < (↑n4 : Int)) else false) (.ret (vi 2)) (.ret (vi 0))))))))) (.enter (iR 0 3 []) (S63.L1 (1) (elV tp2 f4)) [⟨2, tp2, n4, elV tp2 f4, vf_view rfl _ _⟩]))))))) (.asm (true = true -> n4 <= 9223372036854775807) (.und (.asm (n4 = 0) (.brt (.br (decide (0 < (↑n4 : Int))) (.ret (vi 2)) (.obi (.obi (.asm ((x3 == 3) = true -> n4 <= 9223372036854775807) (.obi (.obi (.br (bif x3 == 3 then decide (2 < (↑n4 : Int)) else false) (.ret (vi 2)) (.ret (vi 0))))))))))) (.obv (allB n4 fun i => okE 2 (elV tp2 f4 i)) (allB_el rfl _ _) (.ob (decide (n4 * 16 <= 140737488355328) && !Nat.beq 16 0) (.br (decide ((↑n4 : Int) < 2)) (.br (decide ((↑n4 : Int) < (↑n4 : Int))) (.ret (vi 2)) (.obi (.obi (.asm ((x3 == 3) = true -> n4 <= 9223372036854775807) (.obi (.obi (.br (bif x3 == 3 then decide (2 < (↑n4 : Int)) else false) (.ret (vi 2)) (.ret (vi 0))))))))) (.enter (iR 0 3 []) (S63.L2 (1) (elV tp2 f4)) [⟨2, tp2, n4, elV tp2 f4, vf_view rfl _ _⟩]))))))) (.asm (true = true -> n4 <= 9223372036854775807) (.und (.asm (n4 = 0) (.brt (.br (decide (0 < (↑n4 : Int))) (.ret (vi 2)) (.obi (.obi (.asm ((x3 == 3) = true -> n4 <= 9223372036854775807) (.obi (.obi (.br (bif x3 == 3 then decide (2 < (↑n4 : Int)) else false) (.ret (vi 2)) (.ret (vi 0))))))))))) (.obv (allB n4 fun i => okE 2 (elV tp2 f4 i)) (allB_el rfl _ _) (.ob (decide (n4 * 16 <= 140737488355328) && !Nat.beq 16 0) (.br (decide ((↑n4 : Int) < 2)) (.br (decide ((↑n4 : Int) < (↑n4 : Int))) (.ret (vi 2)) (.obi (.obi (.asm ((x3 == 3) = true -> n4 <= 9223372036854775807) (.obi (.obi (.br (bif x3 == 3 then decide (2 < (↑n4 : Int)) else false) (.ret (vi 2)) (.ret (vi 0))))))))) (.enter (iR 0 3 []) (S63.L3 (1) (elV tp2 f4)) [⟨2, tp2, n4, elV tp2 f4, vf_view rfl _ _⟩]))))))))))) (.ret (vi 7))))))))))))))))))
theorem run63 (n0 : Nat) (f0 : FnV) (s2 : ByteArray) (x3 : Int) (n4 : Nat) (f4 : FnV) (x6 : Int) : Fits ctB10 u0 (D63 n0 f0 s2 x3 n4 f4 x6) (rl63 n0 f0 s2 x3 n4 f4 x6) (m63 n0 f0 s2 x3 n4 f4 x6) (st63 n0 f0 s2 x3 n4 f4 x6) := ⟨⟨by kernel_rfl, by kernel_rfl⟩, fun s => by cases s <;> exact ⟨by kernel_rfl, by kernel_rfl⟩⟩
def eqP (f : Nat -> List V) (i j : Nat) : Bool := jv0 (f i) == jv0 (f j) && (jv1 (f i) == jv1 (f j) && true)
def adjP (n : Nat) (f : Nat -> List V) : Bool := exB n fun i => decide (0 < i) && eqP f i (i - 1)
def tail63 (x3 : Int) (n4 : Nat) : Int := bif bif x3 == 3 then decide (2 < (n4 : Int)) else false then 2 else 0
def F63 (n0 : Nat) (f0 : FnV) (s2 : ByteArray) (x3 : Int) (n4 : Nat) (f4 : FnV) (x6 : Int) : Int := bif !F114_0 s2 then 6 else bif F90_0 n0 f0 s2 then 5 else bif F86_0 x3 0 3 then 2 else bif decide ((n4 : Int) < 2) then 4 else bif decide (8 < (n4 : Int)) then 3 else bif !!F115_0 n4 f4 then 7 else bif F86_0 x6 100 30000 then 7 else bif adjP n4 f4 then 2 else tail63 x3 n4
theorem tail63_ev {S : Type} {Nx : S -> V -> Prop} {x3 : Int} {n4 : Nat} {q : Prop} : evR Nx (.obi (.obi (.asm q (.obi (.obi (.br (bif x3 == 3 then decide (2 < (n4 : Int)) else false) (.ret (.int .i64 2)) (.ret (.int .i64 0)))))))) (.int .i64 (tail63 x3 n4)) := by
 refine evObi (evObi (evAsm fun _ => evObi (evObi (evBr (fun h => evRet ?_) (fun h => evRet ?_))))) <;> (unfold tail63; rw [h]; rfl)
theorem c63_4 (n0 : Nat) (f0 : FnV) (s2 : ByteArray) (x3 : Int) (n4 : Nat) (f4 : FnV) (x6 : Int) (h8 : n4 <= 8) (k0 : Nat) (hk : 1 <= k0) (hk' : k0 < n4) (t1 t2 t3 : Int) (t4 : Nat) (t5 t6 t7 : Int) : ∀ k2 : Nat, k2 <= n4 - k0 -> 1 <= k2 -> ∀ (k : Nat) (f : Nat -> List V), k + 1 <= k0 + k2 -> Ev (st63 n0 f0 s2 x3 n4 f4 x6) (.L4 k2 k0 (n4 - k0) t1 t2 t3 t4 t5 t6 t7 k f) (.int .i64 2) := by
 refine up_ind fun k2 hk2 ih h1 k f hkk => Ev.of rfl ?_
 have w1 : i64.wrap ((k2 : Int) - 1) = ((k2 - 1 : Nat) : Int) := by rw [wrapI (by omega) (by omega)]; omega
 have w2 : i64.wrap ((k2 : Int) + 1) = ((k2 + 1 : Nat) : Int) := by rw [wrapI (by omega) (by omega)]; omega
 have w3 : i64.wrap ((k : Int) + 1) = ((k + 1 : Nat) : Int) := by rw [wrapI (by omega) (by omega)]; omega
 refine evBr (fun h => ?_) (fun h => ?_)
 ·have hlt : k2 < n4 - k0 := by have := of_decide_eq_true h; omega
  refine evOb (dqt (by omega)) (evOb (dqt (by omega)) (evOb (dqt (by rw [w1]; omega)) (evOb (dqt (by rw [w1]; omega)) (evBr (fun _ => ?_) (fun _ => ?_)))))
  ·refine evOb (dqt (by omega)) (evOb (dqt (by omega)) (evOb (dqt (by omega)) (evOb (dqt (by omega)) (evNext ?_))))
   rw [w2, w3]
   exact ih hlt (by omega) (k + 1) _ (by omega)
  ·refine evNext ?_
   rw [w2]
   exact ih hlt (by omega) k _ (by omega)
 ·have hge : ¬ k2 < n4 - k0 := by have := of_decide_eq_false h; omega
  refine evOb (dqt (by omega)) (evOb (dqt (by omega)) (evOb (dqt (by omega)) ?_))
  try refine evAsm fun _ => ?_
  exact evBrT (dqt (by omega)) (evRet rfl)
theorem c63_0 (n0 : Nat) (f0 : FnV) (s2 : ByteArray) (x3 : Int) (n4 : Nat) (f4 : FnV) (x6 : Int) (h8 : n4 <= 8) (h2 : 2 <= n4) : ∀ i : Nat, i <= n4 -> 1 <= i -> (∀ j, j < i -> (decide (0 < j) && eqP f4 j (j - 1)) = false) -> ∀ f : Nat -> List V, (∀ i j, eqP f i j = eqP f4 i j) -> Ev (st63 n0 f0 s2 x3 n4 f4 x6) (.L0 i f) (.int .i64 (bif adjP n4 f4 then 2 else tail63 x3 n4)) := by
 refine up_ind fun i hi ih h1 hj f hf => Ev.of rfl ?_
 have w1 : i64.wrap ((i : Int) - 1) = ((i - 1 : Nat) : Int) := by rw [wrapI (by omega) (by omega)]; omega
 have w2 : i64.wrap ((i : Int) + 1) = ((i + 1 : Nat) : Int) := by rw [wrapI (by omega) (by omega)]; omega
 refine evBr (fun h => ?_) (fun h => ?_)
 ·have hlt : i < n4 := by have := of_decide_eq_true h; omega
  refine evOb (dqt (by omega)) (evOb (dqt (by omega)) (evOb (dqt (by rw [w1]; omega)) (evOb (dqt (by rw [w1]; omega)) (evBr (fun hb => ?_) (fun hb => ?_)))))
  ·have hb' : eqP f4 i (i - 1) = true := by
    rw [← hf]; rw [w1] at hb; simpa only [Int.toNat_natCast, eqP] using hb
   rw [show adjP n4 f4 = true from exB_true i hlt (by rw [hb']; simp; omega), cond_true]
   refine evOb (dqt (by omega)) (evEnter ?_)
   have := c63_4 n0 f0 s2 x3 n4 f4 x6 h8 i h1 hlt
   simp only [Int.toNat_natCast]
   exact this _ _ _ _ _ _ _ 1 (by omega) (by omega) i _ (by omega)
  ·have hb' : eqP f4 i (i - 1) = false := by
    rw [← hf]; rw [w1] at hb; simpa only [Int.toNat_natCast, eqP] using hb
   refine evNext ?_
   rw [w2]
   refine ih hlt (by omega) (fun j h3 => ?_) _ (fun a b => hf a b)
   by_cases e : j = i
   ·subst e; rw [hb', Bool.and_false]
   ·exact hj j (by omega)
 ·have : i = n4 := by have := of_decide_eq_false h; omega
  subst this
  rw [show adjP i f4 = false from exB_false hj, cond_false]
  try refine evAsm fun _ => ?_
  exact evBrGe tail63_ev
theorem c63_0' (n0 : Nat) (f0 : FnV) (s2 : ByteArray) (x3 : Int) (n4 : Nat) (f4 : FnV) (x6 : Int) (h8 : n4 <= 8) (h2 : 2 <= n4) (f : Nat -> List V) (hf : ∀ i j, eqP f i j = eqP f4 i j) : Ev (st63 n0 f0 s2 x3 n4 f4 x6) (.L0 1 f) (.int .i64 (bif adjP n4 f4 then 2 else tail63 x3 n4)) := c63_0 n0 f0 s2 x3 n4 f4 x6 h8 h2 1 (by omega) (Nat.le_refl _) (fun j hj => by
 have : j = 0 := by omega
 subst this; rfl) f hf
theorem c63_5 (n0 : Nat) (f0 : FnV) (s2 : ByteArray) (x3 : Int) (n4 : Nat) (f4 : FnV) (x6 : Int) (h8 : n4 <= 8) (k0 : Nat) (hk : 1 <= k0) (hk' : k0 < n4) (t1 t2 t3 : Int) (t4 : Nat) (t5 t6 t7 : Int) : ∀ k2 : Nat, k2 <= n4 - k0 -> 1 <= k2 -> ∀ (k : Nat) (f : Nat -> List V), k + 1 <= k0 + k2 -> Ev (st63 n0 f0 s2 x3 n4 f4 x6) (.L5 k2 k0 (n4 - k0) t1 t2 t3 t4 t5 t6 t7 k f) (.int .i64 2) := by
 refine up_ind fun k2 hk2 ih h1 k f hkk => Ev.of rfl ?_
 have w1 : i64.wrap ((k2 : Int) - 1) = ((k2 - 1 : Nat) : Int) := by rw [wrapI (by omega) (by omega)]; omega
 have w2 : i64.wrap ((k2 : Int) + 1) = ((k2 + 1 : Nat) : Int) := by rw [wrapI (by omega) (by omega)]; omega
 have w3 : i64.wrap ((k : Int) + 1) = ((k + 1 : Nat) : Int) := by rw [wrapI (by omega) (by omega)]; omega
 refine evBr (fun h => ?_) (fun h => ?_)
 ·have hlt : k2 < n4 - k0 := by have := of_decide_eq_true h; omega
  refine evOb (dqt (by omega)) (evOb (dqt (by omega)) (evOb (dqt (by rw [w1]; omega)) (evOb (dqt (by rw [w1]; omega)) (evBr (fun _ => ?_) (fun _ => ?_)))))
  ·refine evOb (dqt (by omega)) (evOb (dqt (by omega)) (evOb (dqt (by omega)) (evOb (dqt (by omega)) (evNext ?_))))
   rw [w2, w3]
   exact ih hlt (by omega) (k + 1) _ (by omega)
  ·refine evNext ?_
   rw [w2]
   exact ih hlt (by omega) k _ (by omega)
 ·have hge : ¬ k2 < n4 - k0 := by have := of_decide_eq_false h; omega
  refine evOb (dqt (by omega)) (evOb (dqt (by omega)) (evOb (dqt (by omega)) ?_))
  try refine evAsm fun _ => ?_
  exact evBrT (dqt (by omega)) (evRet rfl)
theorem c63_1 (n0 : Nat) (f0 : FnV) (s2 : ByteArray) (x3 : Int) (n4 : Nat) (f4 : FnV) (x6 : Int) (h8 : n4 <= 8) (h2 : 2 <= n4) : ∀ i : Nat, i <= n4 -> 1 <= i -> (∀ j, j < i -> (decide (0 < j) && eqP f4 j (j - 1)) = false) -> ∀ f : Nat -> List V, (∀ i j, eqP f i j = eqP f4 i j) -> Ev (st63 n0 f0 s2 x3 n4 f4 x6) (.L1 i f) (.int .i64 (bif adjP n4 f4 then 2 else tail63 x3 n4)) := by
 refine up_ind fun i hi ih h1 hj f hf => Ev.of rfl ?_
 have w1 : i64.wrap ((i : Int) - 1) = ((i - 1 : Nat) : Int) := by rw [wrapI (by omega) (by omega)]; omega
 have w2 : i64.wrap ((i : Int) + 1) = ((i + 1 : Nat) : Int) := by rw [wrapI (by omega) (by omega)]; omega
 refine evBr (fun h => ?_) (fun h => ?_)
 ·have hlt : i < n4 := by have := of_decide_eq_true h; omega
  refine evOb (dqt (by omega)) (evOb (dqt (by omega)) (evOb (dqt (by rw [w1]; omega)) (evOb (dqt (by rw [w1]; omega)) (evBr (fun hb => ?_) (fun hb => ?_)))))
  ·have hb' : eqP f4 i (i - 1) = true := by
    rw [← hf]; rw [w1] at hb; simpa only [Int.toNat_natCast, eqP] using hb
   rw [show adjP n4 f4 = true from exB_true i hlt (by rw [hb']; simp; omega), cond_true]
   refine evOb (dqt (by omega)) (evEnter ?_)
   have := c63_5 n0 f0 s2 x3 n4 f4 x6 h8 i h1 hlt
   simp only [Int.toNat_natCast]
   exact this _ _ _ _ _ _ _ 1 (by omega) (by omega) i _ (by omega)
  ·have hb' : eqP f4 i (i - 1) = false := by
    rw [← hf]; rw [w1] at hb; simpa only [Int.toNat_natCast, eqP] using hb
   refine evNext ?_
   rw [w2]
   refine ih hlt (by omega) (fun j h3 => ?_) _ (fun a b => hf a b)
   by_cases e : j = i
   ·subst e; rw [hb', Bool.and_false]
   ·exact hj j (by omega)
 ·have : i = n4 := by have := of_decide_eq_false h; omega
  subst this
  rw [show adjP i f4 = false from exB_false hj, cond_false]
  try refine evAsm fun _ => ?_
  exact evBrGe tail63_ev
theorem c63_1' (n0 : Nat) (f0 : FnV) (s2 : ByteArray) (x3 : Int) (n4 : Nat) (f4 : FnV) (x6 : Int) (h8 : n4 <= 8) (h2 : 2 <= n4) (f : Nat -> List V) (hf : ∀ i j, eqP f i j = eqP f4 i j) : Ev (st63 n0 f0 s2 x3 n4 f4 x6) (.L1 1 f) (.int .i64 (bif adjP n4 f4 then 2 else tail63 x3 n4)) := c63_1 n0 f0 s2 x3 n4 f4 x6 h8 h2 1 (by omega) (Nat.le_refl _) (fun j hj => by
 have : j = 0 := by omega
 subst this; rfl) f hf
theorem c63_6 (n0 : Nat) (f0 : FnV) (s2 : ByteArray) (x3 : Int) (n4 : Nat) (f4 : FnV) (x6 : Int) (h8 : n4 <= 8) (k0 : Nat) (hk : 1 <= k0) (hk' : k0 < n4) (t1 t2 t3 : Int) (t4 : Nat) (t5 t6 t7 : Int) : ∀ k2 : Nat, k2 <= n4 - k0 -> 1 <= k2 -> ∀ (k : Nat) (f : Nat -> List V), k + 1 <= k0 + k2 -> Ev (st63 n0 f0 s2 x3 n4 f4 x6) (.L6 k2 k0 (n4 - k0) t1 t2 t3 t4 t5 t6 t7 k f) (.int .i64 2) := by
 refine up_ind fun k2 hk2 ih h1 k f hkk => Ev.of rfl ?_
 have w1 : i64.wrap ((k2 : Int) - 1) = ((k2 - 1 : Nat) : Int) := by rw [wrapI (by omega) (by omega)]; omega
 have w2 : i64.wrap ((k2 : Int) + 1) = ((k2 + 1 : Nat) : Int) := by rw [wrapI (by omega) (by omega)]; omega
 have w3 : i64.wrap ((k : Int) + 1) = ((k + 1 : Nat) : Int) := by rw [wrapI (by omega) (by omega)]; omega
 refine evBr (fun h => ?_) (fun h => ?_)
 ·have hlt : k2 < n4 - k0 := by have := of_decide_eq_true h; omega
  refine evOb (dqt (by omega)) (evOb (dqt (by omega)) (evOb (dqt (by rw [w1]; omega)) (evOb (dqt (by rw [w1]; omega)) (evBr (fun _ => ?_) (fun _ => ?_)))))
  ·refine evOb (dqt (by omega)) (evOb (dqt (by omega)) (evOb (dqt (by omega)) (evOb (dqt (by omega)) (evNext ?_))))
   rw [w2, w3]
   exact ih hlt (by omega) (k + 1) _ (by omega)
  ·refine evNext ?_
   rw [w2]
   exact ih hlt (by omega) k _ (by omega)
 ·have hge : ¬ k2 < n4 - k0 := by have := of_decide_eq_false h; omega
  refine evOb (dqt (by omega)) (evOb (dqt (by omega)) (evOb (dqt (by omega)) ?_))
  try refine evAsm fun _ => ?_
  exact evBrT (dqt (by omega)) (evRet rfl)
theorem c63_2 (n0 : Nat) (f0 : FnV) (s2 : ByteArray) (x3 : Int) (n4 : Nat) (f4 : FnV) (x6 : Int) (h8 : n4 <= 8) (h2 : 2 <= n4) : ∀ i : Nat, i <= n4 -> 1 <= i -> (∀ j, j < i -> (decide (0 < j) && eqP f4 j (j - 1)) = false) -> ∀ f : Nat -> List V, (∀ i j, eqP f i j = eqP f4 i j) -> Ev (st63 n0 f0 s2 x3 n4 f4 x6) (.L2 i f) (.int .i64 (bif adjP n4 f4 then 2 else tail63 x3 n4)) := by
 refine up_ind fun i hi ih h1 hj f hf => Ev.of rfl ?_
 have w1 : i64.wrap ((i : Int) - 1) = ((i - 1 : Nat) : Int) := by rw [wrapI (by omega) (by omega)]; omega
 have w2 : i64.wrap ((i : Int) + 1) = ((i + 1 : Nat) : Int) := by rw [wrapI (by omega) (by omega)]; omega
 refine evBr (fun h => ?_) (fun h => ?_)
 ·have hlt : i < n4 := by have := of_decide_eq_true h; omega
  refine evOb (dqt (by omega)) (evOb (dqt (by omega)) (evOb (dqt (by rw [w1]; omega)) (evOb (dqt (by rw [w1]; omega)) (evBr (fun hb => ?_) (fun hb => ?_)))))
  ·have hb' : eqP f4 i (i - 1) = true := by
    rw [← hf]; rw [w1] at hb; simpa only [Int.toNat_natCast, eqP] using hb
   rw [show adjP n4 f4 = true from exB_true i hlt (by rw [hb']; simp; omega), cond_true]
   refine evOb (dqt (by omega)) (evEnter ?_)
   have := c63_6 n0 f0 s2 x3 n4 f4 x6 h8 i h1 hlt
   simp only [Int.toNat_natCast]
   exact this _ _ _ _ _ _ _ 1 (by omega) (by omega) i _ (by omega)
  ·have hb' : eqP f4 i (i - 1) = false := by
    rw [← hf]; rw [w1] at hb; simpa only [Int.toNat_natCast, eqP] using hb
   refine evNext ?_
   rw [w2]
   refine ih hlt (by omega) (fun j h3 => ?_) _ (fun a b => hf a b)
   by_cases e : j = i
   ·subst e; rw [hb', Bool.and_false]
   ·exact hj j (by omega)
 ·have : i = n4 := by have := of_decide_eq_false h; omega
  subst this
  rw [show adjP i f4 = false from exB_false hj, cond_false]
  try refine evAsm fun _ => ?_
  exact evBrGe tail63_ev
theorem c63_2' (n0 : Nat) (f0 : FnV) (s2 : ByteArray) (x3 : Int) (n4 : Nat) (f4 : FnV) (x6 : Int) (h8 : n4 <= 8) (h2 : 2 <= n4) (f : Nat -> List V) (hf : ∀ i j, eqP f i j = eqP f4 i j) : Ev (st63 n0 f0 s2 x3 n4 f4 x6) (.L2 1 f) (.int .i64 (bif adjP n4 f4 then 2 else tail63 x3 n4)) := c63_2 n0 f0 s2 x3 n4 f4 x6 h8 h2 1 (by omega) (Nat.le_refl _) (fun j hj => by
 have : j = 0 := by omega
 subst this; rfl) f hf
theorem c63_7 (n0 : Nat) (f0 : FnV) (s2 : ByteArray) (x3 : Int) (n4 : Nat) (f4 : FnV) (x6 : Int) (h8 : n4 <= 8) (k0 : Nat) (hk : 1 <= k0) (hk' : k0 < n4) (t1 t2 t3 : Int) (t4 : Nat) (t5 t6 t7 : Int) : ∀ k2 : Nat, k2 <= n4 - k0 -> 1 <= k2 -> ∀ (k : Nat) (f : Nat -> List V), k + 1 <= k0 + k2 -> Ev (st63 n0 f0 s2 x3 n4 f4 x6) (.L7 k2 k0 (n4 - k0) t1 t2 t3 t4 t5 t6 t7 k f) (.int .i64 2) := by
 refine up_ind fun k2 hk2 ih h1 k f hkk => Ev.of rfl ?_
 have w1 : i64.wrap ((k2 : Int) - 1) = ((k2 - 1 : Nat) : Int) := by rw [wrapI (by omega) (by omega)]; omega
 have w2 : i64.wrap ((k2 : Int) + 1) = ((k2 + 1 : Nat) : Int) := by rw [wrapI (by omega) (by omega)]; omega
 have w3 : i64.wrap ((k : Int) + 1) = ((k + 1 : Nat) : Int) := by rw [wrapI (by omega) (by omega)]; omega
 refine evBr (fun h => ?_) (fun h => ?_)
 ·have hlt : k2 < n4 - k0 := by have := of_decide_eq_true h; omega
  refine evOb (dqt (by omega)) (evOb (dqt (by omega)) (evOb (dqt (by rw [w1]; omega)) (evOb (dqt (by rw [w1]; omega)) (evBr (fun _ => ?_) (fun _ => ?_)))))
  ·refine evOb (dqt (by omega)) (evOb (dqt (by omega)) (evOb (dqt (by omega)) (evOb (dqt (by omega)) (evNext ?_))))
   rw [w2, w3]
   exact ih hlt (by omega) (k + 1) _ (by omega)
  ·refine evNext ?_
   rw [w2]
   exact ih hlt (by omega) k _ (by omega)
 ·have hge : ¬ k2 < n4 - k0 := by have := of_decide_eq_false h; omega
  refine evOb (dqt (by omega)) (evOb (dqt (by omega)) (evOb (dqt (by omega)) ?_))
  try refine evAsm fun _ => ?_
  exact evBrT (dqt (by omega)) (evRet rfl)
theorem c63_3 (n0 : Nat) (f0 : FnV) (s2 : ByteArray) (x3 : Int) (n4 : Nat) (f4 : FnV) (x6 : Int) (h8 : n4 <= 8) (h2 : 2 <= n4) : ∀ i : Nat, i <= n4 -> 1 <= i -> (∀ j, j < i -> (decide (0 < j) && eqP f4 j (j - 1)) = false) -> ∀ f : Nat -> List V, (∀ i j, eqP f i j = eqP f4 i j) -> Ev (st63 n0 f0 s2 x3 n4 f4 x6) (.L3 i f) (.int .i64 (bif adjP n4 f4 then 2 else tail63 x3 n4)) := by
 refine up_ind fun i hi ih h1 hj f hf => Ev.of rfl ?_
 have w1 : i64.wrap ((i : Int) - 1) = ((i - 1 : Nat) : Int) := by rw [wrapI (by omega) (by omega)]; omega
 have w2 : i64.wrap ((i : Int) + 1) = ((i + 1 : Nat) : Int) := by rw [wrapI (by omega) (by omega)]; omega
 refine evBr (fun h => ?_) (fun h => ?_)
 ·have hlt : i < n4 := by have := of_decide_eq_true h; omega
  refine evOb (dqt (by omega)) (evOb (dqt (by omega)) (evOb (dqt (by rw [w1]; omega)) (evOb (dqt (by rw [w1]; omega)) (evBr (fun hb => ?_) (fun hb => ?_)))))
  ·have hb' : eqP f4 i (i - 1) = true := by
    rw [← hf]; rw [w1] at hb; simpa only [Int.toNat_natCast, eqP] using hb
   rw [show adjP n4 f4 = true from exB_true i hlt (by rw [hb']; simp; omega), cond_true]
   refine evOb (dqt (by omega)) (evEnter ?_)
   have := c63_7 n0 f0 s2 x3 n4 f4 x6 h8 i h1 hlt
   simp only [Int.toNat_natCast]
   exact this _ _ _ _ _ _ _ 1 (by omega) (by omega) i _ (by omega)
  ·have hb' : eqP f4 i (i - 1) = false := by
    rw [← hf]; rw [w1] at hb; simpa only [Int.toNat_natCast, eqP] using hb
   refine evNext ?_
   rw [w2]
   refine ih hlt (by omega) (fun j h3 => ?_) _ (fun a b => hf a b)
   by_cases e : j = i
   ·subst e; rw [hb', Bool.and_false]
   ·exact hj j (by omega)
 ·have : i = n4 := by have := of_decide_eq_false h; omega
  subst this
  rw [show adjP i f4 = false from exB_false hj, cond_false]
  try refine evAsm fun _ => ?_
  exact evBrGe tail63_ev
theorem c63_3' (n0 : Nat) (f0 : FnV) (s2 : ByteArray) (x3 : Int) (n4 : Nat) (f4 : FnV) (x6 : Int) (h8 : n4 <= 8) (h2 : 2 <= n4) (f : Nat -> List V) (hf : ∀ i j, eqP f i j = eqP f4 i j) : Ev (st63 n0 f0 s2 x3 n4 f4 x6) (.L3 1 f) (.int .i64 (bif adjP n4 f4 then 2 else tail63 x3 n4)) := c63_3 n0 f0 s2 x3 n4 f4 x6 h8 h2 1 (by omega) (Nat.le_refl _) (fun j hj => by
 have : j = 0 := by omega
 subst this; rfl) f hf
theorem ev63_0 (n0 : Nat) (f0 : FnV) (s2 : ByteArray) (x3 : Int) (n4 : Nat) (f4 : FnV) (x6 : Int) (hp : s2.size <= 9223372036854775807) : evR (Ev (st63 n0 f0 s2 x3 n4 f4 x6)) (m63 n0 f0 s2 x3 n4 f4 x6) (.int .i64 (F63 n0 f0 s2 x3 n4 f4 x6)) := by
 unfold F63
 refine evObp hp (evObt ?_)
 refine evBr (fun h => evRet (by rw [h]; rfl)) (fun h => ?_)
 rw [h, cond_false]
 refine evObc (evObt (evBr (fun h => evRet (by rw [show F90_0 n0 f0 s2 = true from h]; rfl)) (fun h => ?_)))
 rw [show F90_0 n0 f0 s2 = false from h, cond_false]
 refine evObc (evObt (evBr (fun h => evRet (by rw [h]; rfl)) (fun h => ?_)))
 rw [h, cond_false]
 refine evAsm1 fun hn => evBr (fun h => evRet (by rw [h]; rfl)) (fun h2 => ?_)
 rw [h2, cond_false]
 refine evAsm1 fun hn => evBr (fun h => evRet (by rw [h]; rfl)) (fun h8 => ?_)
 rw [h8, cond_false]
 have h2 : 2 <= n4 := by have := of_decide_eq_false h2; omega
 have h8 : n4 <= 8 := by have := of_decide_eq_false h8; omega
 have e2 : decide ((n4 : Int) < 2) = false := dqf (by omega)
 refine evObc (evObt (evObi (evBr (fun h => ?_) (fun h => evRet (by rw [show (!!F115_0 n4 f4) = true from by rw [show (!F115_0 n4 f4) = false from h]; rfl]; rfl)))))
 rw [show (!!F115_0 n4 f4) = false from by rw [show (!F115_0 n4 f4) = true from h]; rfl, cond_false]
 refine evOb h (evObc (evObt (evBr (fun h => evRet (by rw [h]; rfl)) (fun h => ?_))))
 rw [h, cond_false]
 have h16 : (decide (n4 * 16 <= 140737488355328) && !Nat.beq 16 0) = true := by rw [dqt (show n4 * 16 <= 140737488355328 by omega)]; rfl
 have hne : n4 = 0 -> False := by omega
 have hi : ∀ i j, eqP (elV tp2 f4) i j = eqP f4 i j := fun _ _ => rfl
 repeat' (first
  | exact evAsm (fun h0 => (hne h0).elim)
  | exact evEnter (c63_0' _ _ _ _ _ _ _ h8 h2 _ hi)
  | exact evEnter (c63_1' _ _ _ _ _ _ _ h8 h2 _ hi)
  | exact evEnter (c63_2' _ _ _ _ _ _ _ h8 h2 _ hi)
  | exact evEnter (c63_3' _ _ _ _ _ _ _ h8 h2 _ hi)
  | refine evUnd ?_ ?_
  | refine evAsm (fun _ => ?_)
  | refine evObv ?_
  | refine evOb h16 ?_
  | refine evBrF e2 ?_
  | refine evBrF rfl ?_
  | refine evBrT rfl ?_)
theorem ev63 (n0 : Nat) (f0 : FnV) (s2 : ByteArray) (x3 : Int) (n4 : Nat) (f4 : FnV) (x6 : Int) (hp : s2.size <= 9223372036854775807) : evR (Ev (st63 n0 f0 s2 x3 n4 f4 x6)) (m63 n0 f0 s2 x3 n4 f4 x6) (.int .i64 (F63 n0 (elV tyR f0) s2 x3 n4 (elV tp2 f4) x6)) := ev63_0 n0 f0 s2 x3 n4 f4 x6 hp
def C63 : PCon := mkC [.sl tyR, .agg tyR] (fun
 | [.sl n0 f0, .agg [.str s2, .int _ x3, .sl n4 f4, .int _ x6]] => s2.size <= 9223372036854775807
 | _ => False) fun
 | [.sl n0 f0, .agg [.str s2, .int _ x3, .sl n4 f4, .int _ x6]] => .int .i64 (F63 n0 f0 s2 x3 n4 f4 x6)
 | _ => .any
theorem ok63 : (vP C63).Ok Tryz.prog 63 := mkE tabB10 Tryz.func63 (by kernel_rfl) fun ds hp => rfs (run63 ..) (ev63 _ _ _ _ _ _ _ hp)
def m69 (n0 : Nat) (f0 : FnV) (s2 : ByteArray) (x3 x4 x5 x6 x7 : Int) : RT Empty := .obp (s2.size <= (9223372036854775807 : Nat)) (.obt (.br (!F114_0 s2) (.ret (vi 6)) (.obc (.obt (.br (F121_0 n0 (elV tyC f0) s2) (.ret (vi 5)) (.obc (.obt (.obi (.br (!F45_0 2 (elV tp1 (secF [vi x3, vi x4] 0 1))) (.ob (!F45_0 2 (elV tp1 (secF [vi x3, vi x4] 0 1))) (.obc (.obt (.obi (.br (!F86_0 x5 1 200) (.ob (!F86_0 x5 1 200) (.obc (.obt (.obi (.br (!F86_0 x6 (-1000) 1000) (.ob (!F86_0 x6 (-1000) 1000) (.obc (.obt (.br (F86_0 x7 (-1000) 1000) (.ret (vi 7)) (.obi (.obi (.obi (.br (bif x6 == 0 then x7 == 0 else false) (.ret (vi 2)) (.ret (vi 0)))))))))) (.ret (vi 7))))))) (.ret (vi 7))))))) (.ret (vi 7)))))))))))
theorem run69 (n0 : Nat) (f0 : FnV) (s2 : ByteArray) (x3 x4 x5 x6 x7 : Int) : Fit noD (runL JJ ctB10 u0 s69 [V.sl n0 (elV tyC f0), V.agg [V.str s2, vi x3, vi x4, vi x5, vi x6, vi x7]]) (m69 n0 f0 s2 x3 x4 x5 x6 x7) := ⟨by kernel_rfl, by kernel_rfl⟩
def F69_0 (n0 : Nat) (f0 : FnV) (s2 : ByteArray) (x3 x4 x5 x6 x7 : Int) : Int := bif !F114_0 s2 then 6 else bif F121_0 n0 (elV tyC f0) s2 then 5 else bif !F45_0 2 (elV tp1 (secF [vi x3, vi x4] 0 1)) then bif !F86_0 x5 1 200 then bif !F86_0 x6 (-1000) 1000 then bif F86_0 x7 (-1000) 1000 then 7 else bif bif x6 == 0 then x7 == 0 else false then 2 else 0 else 7 else 7 else 7
def R69 (n0 : Nat) (f0 : FnV) (s2 : ByteArray) (x3 x4 x5 x6 x7 : Int) : V := .int i64 (F69_0 n0 f0 s2 x3 x4 x5 x6 x7)
theorem ev69 (n0 : Nat) (f0 : FnV) (s2 : ByteArray) (x3 x4 x5 x6 x7 : Int) (hp : s2.size <= 9223372036854775807) : evR noE (m69 n0 f0 s2 x3 x4 x5 x6 x7) (R69 n0 f0 s2 x3 x4 x5 x6 x7) := evObp (by first | assumption | (exact hp)) (evObt (evBr (fun h0 => evRet (by unfold R69 F69_0; try rw [h0]; rfl)) (fun h0 => evObc (evObt (evBr (fun h1 => evRet (by unfold R69 F69_0; try rw [h0]; try rw [h1]; rfl)) (fun h1 => evObc (evObt (evObi (evBr (fun h2 => evOb (by first | assumption | (fail)) (evObc (evObt (evObi (evBr (fun h3 => evOb (by first | assumption | (fail)) (evObc (evObt (evObi (evBr (fun h4 => evOb (by first | assumption | (fail)) (evObc (evObt (evBr (fun h5 => evRet (by unfold R69 F69_0; try rw [h0]; try rw [h1]; try rw [h2]; try rw [h3]; try rw [h4]; try rw [h5]; rfl)) (fun h5 => evObi (evObi (evObi (evBr (fun h6 => evRet (by unfold R69 F69_0; try rw [h0]; try rw [h1]; try rw [h2]; try rw [h3]; try rw [h4]; try rw [h5]; try rw [h6]; rfl)) (fun h6 => evRet (by unfold R69 F69_0; try rw [h0]; try rw [h1]; try rw [h2]; try rw [h3]; try rw [h4]; try rw [h5]; try rw [h6]; rfl)))))))))) (fun h4 => evRet (by unfold R69 F69_0; try rw [h0]; try rw [h1]; try rw [h2]; try rw [h3]; try rw [h4]; rfl))))))) (fun h3 => evRet (by unfold R69 F69_0; try rw [h0]; try rw [h1]; try rw [h2]; try rw [h3]; rfl))))))) (fun h2 => evRet (by unfold R69 F69_0; try rw [h0]; try rw [h1]; try rw [h2]; rfl)))))))))))
def C69 : PCon := mkC [.sl tyC, .agg tyC] (fun
 | [.sl n0 f0, .agg [.str s2, .int _ x3, .int _ x4, .int _ x5, .int _ x6, .int _ x7]] => s2.size <= 9223372036854775807
 | _ => False) fun
 | [.sl n0 f0, .agg [.str s2, .int _ x3, .int _ x4, .int _ x5, .int _ x6, .int _ x7]] => R69 n0 f0 s2 x3 x4 x5 x6 x7
 | _ => .any
theorem ok69 : (vP C69).Ok Tryz.prog 69 := mkE tabB10 Tryz.func69 (by kernel_rfl) fun ds hp => rf0 (run69 ..) (ev69 _ _ _ _ _ _ _ _ hp)
noncomputable section
def ctB11 : CTab := (63, .con C63) :: (69, .con C69) :: ctB10
theorem tabB11 : TabOk Tryz.prog eqs its ctB11 := .con ok63 (.con ok69 (tabB10))
inductive S70 where
 | L0 (ia0 : Int)
 | L1 (ib0 ib1 : Int)
 | L2 (ic0 ic1 ic2 : Int)
def inv70 (n0 : Nat) (f0 : FnV) (n2 : Nat) (f2 : FnV) (n4 : Nat) (f4 : FnV) (n6 : Nat) (f6 : FnV) (x8 : Int) : S70 -> Env × List O × Option Ex
 | .L0 ia0 => ([(6, vi ia0), (17, V.kb false), (16, V.bool (F122 (sv (hdV (f0 x8.toNat))))), (15, V.str (sv (hdV (f0 x8.toNat)))), (14, V.pl 0 0), (5, V.pl 0 0), (13, V.agg [V.str (sv (hdV (f0 x8.toNat))), vi (jv1 (f0 x8.toNat)), V.sl (lenV (hdV (tlV (tlV (f0 x8.toNat))))) fun i => views tp2 (atV (hdV (tlV (tlV (f0 x8.toNat)))) i), vi (jv3 (f0 x8.toNat))]), (12, V.pd [V.str (sv (hdV (f0 x8.toNat))), vi (jv1 (f0 x8.toNat)), V.sl (lenV (hdV (tlV (tlV (f0 x8.toNat))))) fun i => views tp2 (atV (hdV (tlV (tlV (f0 x8.toNat)))) i), vi (jv3 (f0 x8.toNat))]), (11, vi x8), (10, V.sl n0 (elV tyR f0)), (9, V.pl 1 0), (4, vi 0), (2, V.pl 1 0), (0, scV n0 f0 n2 f2 n4 f4 n6 f6), (1, vi x8)], [O.cells [V.str (sv (hdV (f0 x8.toNat))), vi (jv1 (f0 x8.toNat)), V.sl (lenV (hdV (tlV (tlV (f0 x8.toNat))))) fun i => views tp2 (atV (hdV (tlV (tlV (f0 x8.toNat)))) i), vi (jv3 (f0 x8.toNat))] 54, O.cells [V.sl n0 (elV tyR f0), V.sl n2 (elV tyT f2), V.sl n4 (elV tyF f4), V.sl n6 (elV tyC f6)] 27], none)
 | .L1 ib0 ib1 => ([(7, vi ib0), (43, V.kb false), (42, vi (↑(lenV (hdV (tlV (tlV (f0 x8.toNat))))) : Int)), (41, V.sl (lenV (hdV (tlV (tlV (f0 x8.toNat))))) fun i => views tp2 (atV (hdV (tlV (tlV (f0 x8.toNat)))) i)), (40, V.pl 0 2), (39, V.kb false), (38, vi (↑(lenV (hdV (tlV (tlV (f0 x8.toNat))))) : Int)), (37, V.sl (lenV (hdV (tlV (tlV (f0 x8.toNat))))) fun i => views tp2 (atV (hdV (tlV (tlV (f0 x8.toNat)))) i)), (36, V.pl 0 2), (35, V.kb false), (34, V.bool (F71_0 (jv1 (f0 x8.toNat)) 0 3)), (33, vi (jv1 (f0 x8.toNat))), (32, V.pl 0 1), (20, V.kb false), (19, vi x8), (18, vi ib1), (6, vi ib1), (17, V.kb false), (16, V.bool (F122 (sv (hdV (f0 x8.toNat))))), (15, V.str (sv (hdV (f0 x8.toNat)))), (14, V.pl 0 0), (5, V.pl 0 0), (13, V.agg [V.str (sv (hdV (f0 x8.toNat))), vi (jv1 (f0 x8.toNat)), V.sl (lenV (hdV (tlV (tlV (f0 x8.toNat))))) fun i => views tp2 (atV (hdV (tlV (tlV (f0 x8.toNat)))) i), vi (jv3 (f0 x8.toNat))]), (12, V.pd [V.str (sv (hdV (f0 x8.toNat))), vi (jv1 (f0 x8.toNat)), V.sl (lenV (hdV (tlV (tlV (f0 x8.toNat))))) fun i => views tp2 (atV (hdV (tlV (tlV (f0 x8.toNat)))) i), vi (jv3 (f0 x8.toNat))]), (11, vi x8), (10, V.sl n0 (elV tyR f0)), (9, V.pl 1 0), (4, vi 0), (2, V.pl 1 0), (0, scV n0 f0 n2 f2 n4 f4 n6 f6), (1, vi x8)], [O.cells [V.str (sv (hdV (f0 x8.toNat))), vi (jv1 (f0 x8.toNat)), V.sl (lenV (hdV (tlV (tlV (f0 x8.toNat))))) fun i => views tp2 (atV (hdV (tlV (tlV (f0 x8.toNat)))) i), vi (jv3 (f0 x8.toNat))] 54, O.cells [V.sl n0 (elV tyR f0), V.sl n2 (elV tyT f2), V.sl n4 (elV tyF f4), V.sl n6 (elV tyC f6)] 27], none)
 | .L2 ic0 ic1 ic2 => ([(8, vi ic0), (69, V.kb false), (68, V.bool (F71_0 (jv3 (f0 x8.toNat)) 100 30000)), (67, vi (jv3 (f0 x8.toNat))), (66, V.pl 0 3), (48, V.kb false), (47, vi (↑(lenV (hdV (tlV (tlV (f0 x8.toNat))))) : Int)), (46, V.sl (lenV (hdV (tlV (tlV (f0 x8.toNat))))) fun i => views tp2 (atV (hdV (tlV (tlV (f0 x8.toNat)))) i)), (45, V.pl 0 2), (44, vi ic1), (7, vi ic1), (43, V.kb false), (42, vi (↑(lenV (hdV (tlV (tlV (f0 x8.toNat))))) : Int)), (41, V.sl (lenV (hdV (tlV (tlV (f0 x8.toNat))))) fun i => views tp2 (atV (hdV (tlV (tlV (f0 x8.toNat)))) i)), (40, V.pl 0 2), (39, V.kb false), (38, vi (↑(lenV (hdV (tlV (tlV (f0 x8.toNat))))) : Int)), (37, V.sl (lenV (hdV (tlV (tlV (f0 x8.toNat))))) fun i => views tp2 (atV (hdV (tlV (tlV (f0 x8.toNat)))) i)), (36, V.pl 0 2), (35, V.kb false), (34, V.bool (F71_0 (jv1 (f0 x8.toNat)) 0 3)), (33, vi (jv1 (f0 x8.toNat))), (32, V.pl 0 1), (20, V.kb false), (19, vi x8), (18, vi ic2), (6, vi ic2), (17, V.kb false), (16, V.bool (F122 (sv (hdV (f0 x8.toNat))))), (15, V.str (sv (hdV (f0 x8.toNat)))), (14, V.pl 0 0), (5, V.pl 0 0), (13, V.agg [V.str (sv (hdV (f0 x8.toNat))), vi (jv1 (f0 x8.toNat)), V.sl (lenV (hdV (tlV (tlV (f0 x8.toNat))))) fun i => views tp2 (atV (hdV (tlV (tlV (f0 x8.toNat)))) i), vi (jv3 (f0 x8.toNat))]), (12, V.pd [V.str (sv (hdV (f0 x8.toNat))), vi (jv1 (f0 x8.toNat)), V.sl (lenV (hdV (tlV (tlV (f0 x8.toNat))))) fun i => views tp2 (atV (hdV (tlV (tlV (f0 x8.toNat)))) i), vi (jv3 (f0 x8.toNat))]), (11, vi x8), (10, V.sl n0 (elV tyR f0)), (9, V.pl 1 0), (4, vi 0), (2, V.pl 1 0), (0, scV n0 f0 n2 f2 n4 f4 n6 f6), (1, vi x8)], [O.cells [V.str (sv (hdV (f0 x8.toNat))), vi (jv1 (f0 x8.toNat)), V.sl (lenV (hdV (tlV (tlV (f0 x8.toNat))))) fun i => views tp2 (atV (hdV (tlV (tlV (f0 x8.toNat)))) i), vi (jv3 (f0 x8.toNat))] 54, O.cells [V.sl n0 (elV tyR f0), V.sl n2 (elV tyT f2), V.sl n4 (elV tyF f4), V.sl n6 (elV tyC f6)] 27], none)
def id70 : S70 -> JJ
 | .L0 ia0 => (0, [])
 | .L1 ib0 ib1 => (1, [])
 | .L2 ic0 ic1 ic2 => (2, [])
def rl70 (n0 : Nat) (f0 : FnV) (n2 : Nat) (f2 : FnV) (n4 : Nat) (f4 : FnV) (n6 : Nat) (f6 : FnV) (x8 : Int) : T (Leaf JJ) := runL JJ ctB11 u0 s70 [scV n0 f0 n2 f2 n4 f4 n6 f6, vi x8]
def lp70_0 (n0 : Nat) (f0 : FnV) (n2 : Nat) (f2 : FnV) (n4 : Nat) (f4 : FnV) (n6 : Nat) (f6 : FnV) (x8 : Int) (cx : List Cx) : Lp JJ := lpT (atT (rl70 n0 f0 n2 f2 n4 f4 n6 f6 x8) [false])
def lp70_1 (n0 : Nat) (f0 : FnV) (n2 : Nat) (f2 : FnV) (n4 : Nat) (f4 : FnV) (n6 : Nat) (f6 : FnV) (x8 : Int) (cx : List Cx) : Lp JJ := lpT (atT (rdP ctB11 u0 (0, []) (lp70_0 n0 f0 n2 f2 n4 f4 n6 f6 x8 []) (inv70 n0 f0 n2 f2 n4 f4 n6 f6 x8 (.L0 (0 : Int)))) [false, false, false, false])
def lp70_2 (n0 : Nat) (f0 : FnV) (n2 : Nat) (f2 : FnV) (n4 : Nat) (f4 : FnV) (n6 : Nat) (f6 : FnV) (x8 : Int) (cx : List Cx) : Lp JJ := lpT (atT (rdP ctB11 u0 (1, []) (lp70_1 n0 f0 n2 f2 n4 f4 n6 f6 x8 []) (inv70 n0 f0 n2 f2 n4 f4 n6 f6 x8 (.L1 (0 : Int) (0 : Int)))) [false, false])
def lp70 (n0 : Nat) (f0 : FnV) (n2 : Nat) (f2 : FnV) (n4 : Nat) (f4 : FnV) (n6 : Nat) (f6 : FnV) (x8 : Int) : JJ -> Lp JJ
 | (0, cx) => lp70_0 n0 f0 n2 f2 n4 f4 n6 f6 x8 cx
 | (1, cx) => lp70_1 n0 f0 n2 f2 n4 f4 n6 f6 x8 cx
 | (2, cx) => lp70_2 n0 f0 n2 f2 n4 f4 n6 f6 x8 cx
 | (_, cx) => lp70_0 n0 f0 n2 f2 n4 f4 n6 f6 x8 cx
def D70 (n0 : Nat) (f0 : FnV) (n2 : Nat) (f2 : FnV) (n4 : Nat) (f4 : FnV) (n6 : Nat) (f6 : FnV) (x8 : Int) : LD JJ S70 := ⟨id70, lp70 n0 f0 n2 f2 n4 f4 n6 f6 x8, inv70 n0 f0 n2 f2 n4 f4 n6 f6 x8⟩
def st70 (n0 : Nat) (f0 : FnV) (n2 : Nat) (f2 : FnV) (n4 : Nat) (f4 : FnV) (n6 : Nat) (f6 : FnV) (x8 : Int) : S70 -> RT S70
 | .L0 ia0 => .br (decide (ia0 < x8)) (.ob (decide (0 <= ia0 /\ ia0 < (↑n0 : Int))) (.br ((sv (hdV (f0 ia0.toNat))).toList == (sv (hdV (f0 x8.toNat))).toList) (.ret (vi 5)) (.next [some (some 0), some (some 1)] (S70.L0 (i64.wrap (ia0 + 1))) []))) (.obc (.obt (.br (!F71_0 (jv1 (f0 x8.toNat)) 0 3) (.ret (vi 2)) (.asm (true = true -> lenV (hdV (tlV (tlV (f0 x8.toNat)))) <= 9223372036854775807) (.br (decide ((↑(lenV (hdV (tlV (tlV (f0 x8.toNat))))) : Int) < 2)) (.ret (vi 4)) (.asm (true = true -> lenV (hdV (tlV (tlV (f0 x8.toNat)))) <= 9223372036854775807) (.br (decide (8 < (↑(lenV (hdV (tlV (tlV (f0 x8.toNat))))) : Int))) (.ret (vi 3)) (.enter [some (some 0), some (some 1)] (S70.L1 (0) (ia0)) []))))))))
 | .L1 ib0 ib1 => .asm (true = true -> lenV (hdV (tlV (tlV (f0 x8.toNat)))) <= 9223372036854775807) (.br (decide (ib0 < (↑(lenV (hdV (tlV (tlV (f0 x8.toNat))))) : Int))) (.ob (decide (0 <= ib0 /\ ib0 < (↑(lenV (hdV (tlV (tlV (f0 x8.toNat))))) : Int))) (.obt (.ob (decide (0 <= ib0 /\ ib0 < (↑(lenV (hdV (tlV (tlV (f0 x8.toNat))))) : Int))) (.obt (.obc (.obt (.br (!F51 2 (elV tp1 (secF [vi (jv0 (atV (hdV (tlV (tlV (f0 x8.toNat)))) ib0.toNat)), vi (jv1 (atV (hdV (tlV (tlV (f0 x8.toNat)))) ib0.toNat))] 0 1))) (.ret (vi 7)) (.next [some (some 0), some (some 1)] (S70.L1 (i64.wrap (ib0 + 1)) (ib1)) [])))))))) (.obc (.obt (.br (!F71_0 (jv3 (f0 x8.toNat)) 100 30000) (.ret (vi 7)) (.enter [some (some 0), some (some 1)] (S70.L2 (1) (ib0) (ib1)) [])))))
 | .L2 ic0 ic1 ic2 => .asm (true = true -> lenV (hdV (tlV (tlV (f0 x8.toNat)))) <= 9223372036854775807) (.br (decide (ic0 < (↑(lenV (hdV (tlV (tlV (f0 x8.toNat))))) : Int))) (.ob (decide (0 <= ic0 /\ ic0 < (↑(lenV (hdV (tlV (tlV (f0 x8.toNat))))) : Int))) (.ob (decide (0 <= i64.wrap (ic0 - 1) /\ i64.wrap (ic0 - 1) < (↑(lenV (hdV (tlV (tlV (f0 x8.toNat))))) : Int))) (.br (jv0 (atV (hdV (tlV (tlV (f0 x8.toNat)))) ic0.toNat) == jv0 (atV (hdV (tlV (tlV (f0 x8.toNat)))) (i64.wrap (ic0 - 1)).toNat) && (jv1 (atV (hdV (tlV (tlV (f0 x8.toNat)))) ic0.toNat) == jv1 (atV (hdV (tlV (tlV (f0 x8.toNat)))) (i64.wrap (ic0 - 1)).toNat) && true)) (.ret (vi 2)) (.next [some (some 0), some (some 1)] (S70.L2 (i64.wrap (ic0 + 1)) (ic1) (ic2)) [])))) (.obi (.obi (.asm ((jv1 (f0 x8.toNat) == 3) = true -> lenV (hdV (tlV (tlV (f0 x8.toNat)))) <= 9223372036854775807) (.obi (.obi (.br (bif jv1 (f0 x8.toNat) == 3 then decide (2 < (↑(lenV (hdV (tlV (tlV (f0 x8.toNat))))) : Int)) else false) (.ret (vi 2)) (.ret (vi 0)))))))))
def m70 (n0 : Nat) (f0 : FnV) (n2 : Nat) (f2 : FnV) (n4 : Nat) (f4 : FnV) (n6 : Nat) (f6 : FnV) (x8 : Int) : RT S70 := .ob (decide (0 <= x8 /\ x8 < (↑n0 : Int))) (.obp ((sv (hdV (f0 x8.toNat))).size <= (9223372036854775807 : Nat)) (.obt (.br (!F122 (sv (hdV (f0 x8.toNat)))) (.ret (vi 6)) (.enter [some (some 1), some (some 0)] (S70.L0 (0)) []))))
theorem run70 (n0 : Nat) (f0 : FnV) (n2 : Nat) (f2 : FnV) (n4 : Nat) (f4 : FnV) (n6 : Nat) (f6 : FnV) (x8 : Int) : Fits ctB11 u0 (D70 n0 f0 n2 f2 n4 f4 n6 f6 x8) (rl70 n0 f0 n2 f2 n4 f4 n6 f6 x8) (m70 n0 f0 n2 f2 n4 f4 n6 f6 x8) (st70 n0 f0 n2 f2 n4 f4 n6 f6 x8) := ⟨⟨by kernel_rfl, by kernel_rfl⟩, fun s => by cases s <;> exact ⟨by kernel_rfl, by kernel_rfl⟩⟩
def ptOk (x y : Int) : Bool := F51 2 (elV tp1 (secF [V.int .i64 x, V.int .i64 y] 0 ((1 + 1 - 0) / 2)))
def roadE (k : Int) (n : Nat) (f : Nat -> List V) (h : Int) : Int := bif !F71_0 k 0 3 then 2 else bif decide ((n : Int) < 2) then 4 else bif decide (8 < (n : Int)) then 3 else bif exB n (fun i => !ptOk (jv0 (f i)) (jv1 (f i))) then 7 else bif !F71_0 h 100 30000 then 7 else bif adjP n f then 2 else tail63 k n
def F70 (n0 : Nat) (f0 : FnV) (x8 : Int) : Int := bif !F122 (sv (hdV (f0 x8.toNat))) then 6 else bif exB x8.toNat (fun k => (sv (hdV (f0 k))).toList == (sv (hdV (f0 x8.toNat))).toList) then 5 else roadE (jv1 (f0 x8.toNat)) (lenV (hdV (tlV (tlV (f0 x8.toNat))))) (atV (hdV (tlV (tlV (f0 x8.toNat))))) (jv3 (f0 x8.toNat))
theorem c70_2 (n0 : Nat) (f0 : FnV) (n2 : Nat) (f2 : FnV) (n4 : Nat) (f4 : FnV) (n6 : Nat) (f6 : FnV) (k : Nat) (h8 : (lenV (hdV (tlV (tlV (f0 k))))) <= 8) (h2 : 2 <= (lenV (hdV (tlV (tlV (f0 k)))))) (i1 i2 : Int) : ∀ i : Nat, i <= (lenV (hdV (tlV (tlV (f0 k))))) -> 1 <= i -> (∀ j, j < i -> (decide (0 < j) && eqP (atV (hdV (tlV (tlV (f0 k))))) j (j - 1)) = false) -> Ev (st70 n0 f0 n2 f2 n4 f4 n6 f6 (k : Int)) (.L2 i i1 i2) (.int .i64 (bif adjP (lenV (hdV (tlV (tlV (f0 k))))) (atV (hdV (tlV (tlV (f0 k))))) then 2 else tail63 (jv1 (f0 k)) (lenV (hdV (tlV (tlV (f0 k))))))) := by
 refine up_ind fun i hi ih h1 hj => Ev.of rfl ?_
 have w1 : i64.wrap ((i : Int) - 1) = ((i - 1 : Nat) : Int) := by rw [wrapI (by omega) (by omega)]; omega
 have w2 : i64.wrap ((i : Int) + 1) = ((i + 1 : Nat) : Int) := by rw [wrapI (by omega) (by omega)]; omega
 refine evAsm fun _ => evBr (fun h => ?_) (fun h => ?_)
 ·have hlt : i < (lenV (hdV (tlV (tlV (f0 k))))) := by have : (i : Int) < ((lenV (hdV (tlV (tlV (f0 k))))) : Int) := of_decide_eq_true h; omega
  refine evOb (dqt (show 0 <= (i : Int) /\ (i : Int) < ((lenV (hdV (tlV (tlV (f0 k))))) : Int) by omega)) (evOb (dqt (show 0 <= i64.wrap ((i : Int) - 1) /\ i64.wrap ((i : Int) - 1) < ((lenV (hdV (tlV (tlV (f0 k))))) : Int) by rw [w1]; omega)) (evBr (fun hb => ?_) (fun hb => ?_)))
  ·have hb' : eqP (atV (hdV (tlV (tlV (f0 k))))) i (i - 1) = true := by
    rw [w1] at hb; simpa only [Int.toNat_natCast, eqP] using hb
   rw [show adjP (lenV (hdV (tlV (tlV (f0 k))))) (atV (hdV (tlV (tlV (f0 k))))) = true from exB_true i hlt (by rw [hb']; simp; omega), cond_true]
   exact evRet rfl
  ·have hb' : eqP (atV (hdV (tlV (tlV (f0 k))))) i (i - 1) = false := by
    rw [w1] at hb; simpa only [Int.toNat_natCast, eqP] using hb
   refine evNext ?_
   rw [w2]
   refine ih hlt (by omega) (fun j h3 => ?_)
   by_cases e : j = i
   ·subst e; rw [hb', Bool.and_false]
   ·exact hj j (by omega)
 ·have e : i = (lenV (hdV (tlV (tlV (f0 k))))) := by have : ¬ (i : Int) < ((lenV (hdV (tlV (tlV (f0 k))))) : Int) := of_decide_eq_false h; omega
  rw [show adjP (lenV (hdV (tlV (tlV (f0 k))))) (atV (hdV (tlV (tlV (f0 k))))) = false from exB_false fun j h => hj j (by omega), cond_false]
  exact tail63_ev
theorem c70_1 (n0 : Nat) (f0 : FnV) (n2 : Nat) (f2 : FnV) (n4 : Nat) (f4 : FnV) (n6 : Nat) (f6 : FnV) (k : Nat) (h8 : (lenV (hdV (tlV (tlV (f0 k))))) <= 8) (h2 : 2 <= (lenV (hdV (tlV (tlV (f0 k)))))) (i1 : Int) : ∀ i : Nat, i <= (lenV (hdV (tlV (tlV (f0 k))))) -> (∀ j, j < i -> (!ptOk (jv0 ((atV (hdV (tlV (tlV (f0 k))))) j)) (jv1 ((atV (hdV (tlV (tlV (f0 k))))) j))) = false) -> Ev (st70 n0 f0 n2 f2 n4 f4 n6 f6 (k : Int)) (.L1 i i1) (.int .i64 (bif exB (lenV (hdV (tlV (tlV (f0 k))))) (fun i => !ptOk (jv0 ((atV (hdV (tlV (tlV (f0 k))))) i)) (jv1 ((atV (hdV (tlV (tlV (f0 k))))) i))) then 7 else bif !F71_0 (jv3 (f0 k)) 100 30000 then 7 else bif adjP (lenV (hdV (tlV (tlV (f0 k))))) (atV (hdV (tlV (tlV (f0 k))))) then 2 else tail63 (jv1 (f0 k)) (lenV (hdV (tlV (tlV (f0 k))))))) := by
 refine up_ind fun i hi ih hj => Ev.of rfl ?_
 have w2 : i64.wrap ((i : Int) + 1) = ((i + 1 : Nat) : Int) := by rw [wrapI (by omega) (by omega)]; omega
 refine evAsm fun _ => evBr (fun h => ?_) (fun h => ?_)
 ·have hlt : i < (lenV (hdV (tlV (tlV (f0 k))))) := by have : (i : Int) < ((lenV (hdV (tlV (tlV (f0 k))))) : Int) := of_decide_eq_true h; omega
  refine evOb (dqt (show 0 <= (i : Int) /\ (i : Int) < ((lenV (hdV (tlV (tlV (f0 k))))) : Int) by omega)) (evObt (evOb (dqt (show 0 <= (i : Int) /\ (i : Int) < ((lenV (hdV (tlV (tlV (f0 k))))) : Int) by omega)) (evObt (evObc (evObt (evBr (fun hb => evRet ?_) (fun hb => evNext ?_)))))))
  ·rw [exB_true (p := fun i => !ptOk (jv0 ((atV (hdV (tlV (tlV (f0 k))))) i)) (jv1 ((atV (hdV (tlV (tlV (f0 k))))) i))) i hlt hb]; rfl
  ·rw [w2]
   refine ih hlt (fun j h3 => ?_)
   by_cases e : j = i
   ·subst e; exact hb
   ·exact hj j (by omega)
 ·have e : i = (lenV (hdV (tlV (tlV (f0 k))))) := by have : ¬ (i : Int) < ((lenV (hdV (tlV (tlV (f0 k))))) : Int) := of_decide_eq_false h; omega
  rw [show exB (lenV (hdV (tlV (tlV (f0 k))))) (fun i => !ptOk (jv0 ((atV (hdV (tlV (tlV (f0 k))))) i)) (jv1 ((atV (hdV (tlV (tlV (f0 k))))) i))) = false from exB_false fun j h => hj j (by omega), cond_false]
  refine evObc (evObt (evBr (fun h => evRet (by rw [show (!F71_0 (jv3 (f0 k)) 100 30000) = true from h]; rfl)) (fun h => ?_)))
  rw [show (!F71_0 (jv3 (f0 k)) 100 30000) = false from h, cond_false]
  refine evEnter (c70_2 n0 f0 n2 f2 n4 f4 n6 f6 k h8 h2 _ _ 1 (by omega) (by omega) (fun j h => ?_))
  have : j = 0 := by omega
  subst this; rfl
theorem ev70_0 (n0 : Nat) (f0 : FnV) (n2 : Nat) (f2 : FnV) (n4 : Nat) (f4 : FnV) (n6 : Nat) (f6 : FnV) (x8 : Int) (hp : 0 <= x8 /\ x8 < n0 /\ n0 <= 9223372036854775807 /\ SzOk n0 f0) : evR (Ev (st70 n0 f0 n2 f2 n4 f4 n6 f6 x8)) (m70 n0 f0 n2 f2 n4 f4 n6 f6 x8) (.int .i64 (F70 n0 f0 x8)) := by
 obtain ⟨h0, h1, h2, h3⟩ := hp
 obtain ⟨k, rfl⟩ : ∃ k : Nat, x8 = (k : Int) := ⟨x8.toNat, by omega⟩
 have hk : k < n0 := by omega
 refine evObLt hk (evObp (h3 k hk) (evObt ?_))
 unfold F70
 simp only [Int.toNat_natCast]
 refine evBr (fun h => evRet (by rw [show (!F122 (sv (hdV (f0 k)))) = true from h]; rfl)) (fun h => ?_)
 rw [show (!F122 (sv (hdV (f0 k)))) = false from h, cond_false]
 refine evEnter (scan (n := k) (by omega) (fun i => (sv (hdV (f0 i))).toList == (sv (hdV (f0 k))).toList) (P := fun i => Ev (st70 n0 f0 n2 f2 n4 f4 n6 f6 (k : Int)) (.L0 i) _) (fun i hlt hj next => Ev.of rfl (evBrLt hlt (evObLt (by omega) (evBr (fun hb => evRet ?_) (fun hb => evNext (next hb))))))
  (fun hj => Ev.of rfl (evBrGe ?_)))
 ·rw [exB_true i hlt hb]; rfl
 ·rw [exB_false hj, cond_false]
  unfold roadE
  refine evObc (evObt (evBr (fun h => evRet (by rw [show (!F71_0 (jv1 (f0 k)) 0 3) = true from h]; rfl)) (fun h => ?_)))
  rw [show (!F71_0 (jv1 (f0 k)) 0 3) = false from h, cond_false]
  refine evAsm1 fun hn => evBr (fun h => evRet (by rw [show decide (((lenV (hdV (tlV (tlV (f0 k))))) : Int) < 2) = true from h]; rfl)) (fun h2 => ?_)
  rw [show decide (((lenV (hdV (tlV (tlV (f0 k))))) : Int) < 2) = false from h2, cond_false]
  refine evAsm1 fun hn => evBr (fun h => evRet (by rw [show decide (8 < ((lenV (hdV (tlV (tlV (f0 k))))) : Int)) = true from h]; rfl)) (fun h8 => ?_)
  rw [show decide (8 < ((lenV (hdV (tlV (tlV (f0 k))))) : Int)) = false from h8, cond_false]
  have h2 : 2 <= (lenV (hdV (tlV (tlV (f0 k))))) := by have : ¬ (((lenV (hdV (tlV (tlV (f0 k))))) : Int) < 2) := of_decide_eq_false h2; omega
  have h8 : (lenV (hdV (tlV (tlV (f0 k))))) <= 8 := by have : ¬ (8 < ((lenV (hdV (tlV (tlV (f0 k))))) : Int)) := of_decide_eq_false h8; omega
  exact evEnter (c70_1 n0 f0 n2 f2 n4 f4 n6 f6 k h8 h2 _ 0 (by omega) (fun j h => by omega))
theorem ev70 (n0 : Nat) (f0 : FnV) (n2 : Nat) (f2 : FnV) (n4 : Nat) (f4 : FnV) (n6 : Nat) (f6 : FnV) (x8 : Int) (hp : 0 <= x8 /\ x8 < n0 /\ n0 <= 9223372036854775807 /\ SzOk n0 (elV tyR f0)) : evR (Ev (st70 n0 f0 n2 f2 n4 f4 n6 f6 x8)) (m70 n0 f0 n2 f2 n4 f4 n6 f6 x8) (.int .i64 (F70 n0 (elV tyR f0) x8)) := ev70_0 n0 f0 n2 f2 n4 f4 n6 f6 x8 hp
def C70 : PCon := mkC [.agg [.sl tyR, .sl tyT, .sl tyF, .sl tyC], .int .i64] (fun
 | [.agg [.sl n0 f0, .sl n2 f2, .sl n4 f4, .sl n6 f6], .int _ x8] => 0 <= x8 /\ x8 < n0 /\ n0 <= 9223372036854775807 /\ SzOk n0 f0
 | _ => False) fun
 | [.agg [.sl n0 f0, .sl n2 f2, .sl n4 f4, .sl n6 f6], .int _ x8] => .int .i64 (F70 n0 f0 x8)
 | _ => .any
theorem ok70 : (vP C70).Ok Tryz.prog 70 := mkE tabB11 Tryz.func70 (by kernel_rfl) fun ds hp => rfs (run70 ..) (ev70 _ _ _ _ _ _ _ _ _ hp)
inductive S62 where
 | L0 (ia0 : Int)
def inv62 (n0 : Nat) (f0 : FnV) : S62 -> Env × List O × Option Ex
 | .L0 ia0 => ([(11, vi ia0), (10, vi (↑n0 : Int)), (9, V.sl n0 (elV tyR f0)), (5, vi 0), (4, vi 0), (0, V.sl n0 (elV tyR f0)), (1, V.fn 63 [] [])], [], none)
def id62 : S62 -> JJ
 | .L0 ia0 => (0, [])
def rl62 (n0 : Nat) (f0 : FnV) : T (Leaf JJ) := runL JJ ctB11 u0 s62 [V.sl n0 (elV tyR f0), V.fn 63 [] []]
def lp62_0 (n0 : Nat) (f0 : FnV) (cx : List Cx) : Lp JJ := lpT (atT (rl62 n0 f0) [])
def lp62 (n0 : Nat) (f0 : FnV) : JJ -> Lp JJ
 | (0, cx) => lp62_0 n0 f0 cx
 | (_, cx) => lp62_0 n0 f0 cx
def D62 (n0 : Nat) (f0 : FnV) : LD JJ S62 := ⟨id62, lp62 n0 f0, inv62 n0 f0⟩
def st62 (n0 : Nat) (f0 : FnV) : S62 -> RT S62
 | .L0 ia0 => .br (decide (ia0 < (↑n0 : Int))) (.ob (decide (0 <= ia0 /\ ia0 < (↑n0 : Int))) (.ob (decide (0 <= ia0 /\ ia0 <= (↑n0 : Int))) (.obp ((sv (hdV (f0 ia0.toNat))).size <= (9223372036854775807 : Nat)) (.obt (.br (F63 (ia0.toNat - 0) (fun i => elV tyR f0 (0 + i)) (sv (hdV (f0 ia0.toNat))) (jv1 (f0 ia0.toNat)) (lenV (hdV (tlV (tlV (f0 ia0.toNat))))) (fun i => views tp2 (atV (hdV (tlV (tlV (f0 ia0.toNat)))) i)) (jv3 (f0 ia0.toNat)) != 0) (.ret (V.tup [vi ia0, vi (F63 (ia0.toNat - 0) (fun i => elV tyR f0 (0 + i)) (sv (hdV (f0 ia0.toNat))) (jv1 (f0 ia0.toNat)) (lenV (hdV (tlV (tlV (f0 ia0.toNat))))) (fun i => views tp2 (atV (hdV (tlV (tlV (f0 ia0.toNat)))) i)) (jv3 (f0 ia0.toNat)))])) (.next [] (S62.L0 (i64.wrap (ia0 + 1))) [])))))) (.ret (V.tup [vi 0, vi 0]))
def m62 (n0 : Nat) (f0 : FnV) : RT S62 := .asm (true = true -> n0 <= 9223372036854775807) (.enter [] (S62.L0 (0)) [])
theorem run62 (n0 : Nat) (f0 : FnV) : Fits ctB11 u0 (D62 n0 f0) (rl62 n0 f0) (m62 n0 f0) (st62 n0 f0) := ⟨⟨by kernel_rfl, by kernel_rfl⟩, fun s => by cases s <;> exact ⟨by kernel_rfl, by kernel_rfl⟩⟩
def c62 (n0 : Nat) (f0 : FnV) (ii : Nat) : Int := (F63 (ii - 0) (fun i => elV tyR f0 (0 + i)) (sv (hdV (f0 ii))) (jv1 (f0 ii)) (lenV (hdV (tlV (tlV (f0 ii))))) (fun i => views tp2 (atV (hdV (tlV (tlV (f0 ii)))) i)) (jv3 (f0 ii)))
def F62_0 (n0 : Nat) (f0 : FnV) : Int := firstI n0 (c62 n0 f0)
def F62_1 (n0 : Nat) (f0 : FnV) : Int := firstE n0 (c62 n0 f0)
theorem ev62_0 (n0 : Nat) (f0 : FnV) (hp : SzOk n0 f0) : evR (Ev (st62 n0 f0)) (m62 n0 f0) (.tup [.int .i64 (F62_0 n0 f0), .int .i64 (F62_1 n0 f0)]) := evAsm1 fun hn => evEnter (first_ev (Q := fun i => (sv (hdV (f0 i))).size <= 9223372036854775807) (fun i x => .obp ((sv (hdV (f0 i))).size <= 9223372036854775807) (.obt x)) (fun i x r h hx => evObp h (evObt hx)) (fun _ _ => rfl) hn hp fun i => rfl)
theorem ev62 (n0 : Nat) (f0 : FnV) (hp : SzOk n0 (elV tyR f0)) : evR (Ev (st62 n0 f0)) (m62 n0 f0) (.tup [.int .i64 (F62_0 n0 (elV tyR f0)), .int .i64 (F62_1 n0 (elV tyR f0))]) := ev62_0 n0 f0 hp
def C62 : PCon := mkC [.sl tyR, .fn 63 [] []] (fun
 | [.sl n0 f0, .fn _ [] []] => SzOk n0 f0
 | _ => False) fun
 | [.sl n0 f0, .fn _ [] []] => .tup [.int .i64 (F62_0 n0 f0), .int .i64 (F62_1 n0 f0)]
 | _ => .any
theorem ok62 : (vP C62).Ok Tryz.prog 62 := mkE tabB11 Tryz.func62 (by kernel_rfl) fun ds hp => rfs (run62 ..) (ev62 _ _ hp)
inductive S68 where
 | L0 (ia0 : Int)
def inv68 (n0 : Nat) (f0 : FnV) : S68 -> Env × List O × Option Ex
 | .L0 ia0 => ([(11, vi ia0), (10, vi (↑n0 : Int)), (9, V.sl n0 (elV tyC f0)), (5, vi 0), (4, vi 0), (0, V.sl n0 (elV tyC f0)), (1, V.fn 69 [] [])], [], none)
def id68 : S68 -> JJ
 | .L0 ia0 => (0, [])
def rl68 (n0 : Nat) (f0 : FnV) : T (Leaf JJ) := runL JJ ctB11 u0 s68 [V.sl n0 (elV tyC f0), V.fn 69 [] []]
def lp68_0 (n0 : Nat) (f0 : FnV) (cx : List Cx) : Lp JJ := lpT (atT (rl68 n0 f0) [])
def lp68 (n0 : Nat) (f0 : FnV) : JJ -> Lp JJ
 | (0, cx) => lp68_0 n0 f0 cx
 | (_, cx) => lp68_0 n0 f0 cx
def D68 (n0 : Nat) (f0 : FnV) : LD JJ S68 := ⟨id68, lp68 n0 f0, inv68 n0 f0⟩
def st68 (n0 : Nat) (f0 : FnV) : S68 -> RT S68
 | .L0 ia0 => .br (decide (ia0 < (↑n0 : Int))) (.ob (decide (0 <= ia0 /\ ia0 < (↑n0 : Int))) (.ob (decide (0 <= ia0 /\ ia0 <= (↑n0 : Int))) (.obp ((sv (hdV (f0 ia0.toNat))).size <= (9223372036854775807 : Nat)) (.obt (.br (F69_0 (ia0.toNat - 0) (fun i => elV tyC f0 (0 + i)) (sv (hdV (f0 ia0.toNat))) (jv1 (f0 ia0.toNat)) (jv2 (f0 ia0.toNat)) (jv3 (f0 ia0.toNat)) (jv4 (f0 ia0.toNat)) (jv5 (f0 ia0.toNat)) != 0) (.ret (V.tup [vi ia0, vi (F69_0 (ia0.toNat - 0) (fun i => elV tyC f0 (0 + i)) (sv (hdV (f0 ia0.toNat))) (jv1 (f0 ia0.toNat)) (jv2 (f0 ia0.toNat)) (jv3 (f0 ia0.toNat)) (jv4 (f0 ia0.toNat)) (jv5 (f0 ia0.toNat)))])) (.next [] (S68.L0 (i64.wrap (ia0 + 1))) [])))))) (.ret (V.tup [vi 0, vi 0]))
def m68 (n0 : Nat) (f0 : FnV) : RT S68 := .asm (true = true -> n0 <= 9223372036854775807) (.enter [] (S68.L0 (0)) [])
theorem run68 (n0 : Nat) (f0 : FnV) : Fits ctB11 u0 (D68 n0 f0) (rl68 n0 f0) (m68 n0 f0) (st68 n0 f0) := ⟨⟨by kernel_rfl, by kernel_rfl⟩, fun s => by cases s <;> exact ⟨by kernel_rfl, by kernel_rfl⟩⟩
def c68 (n0 : Nat) (f0 : FnV) (ii : Nat) : Int := (F69_0 (ii - 0) (fun i => elV tyC f0 (0 + i)) (sv (hdV (f0 ii))) (jv1 (f0 ii)) (jv2 (f0 ii)) (jv3 (f0 ii)) (jv4 (f0 ii)) (jv5 (f0 ii)))
def F68_0 (n0 : Nat) (f0 : FnV) : Int := firstI n0 (c68 n0 f0)
def F68_1 (n0 : Nat) (f0 : FnV) : Int := firstE n0 (c68 n0 f0)
theorem ev68_0 (n0 : Nat) (f0 : FnV) (hp : SzOk n0 f0) : evR (Ev (st68 n0 f0)) (m68 n0 f0) (.tup [.int .i64 (F68_0 n0 f0), .int .i64 (F68_1 n0 f0)]) := evAsm1 fun hn => evEnter (first_ev (Q := fun i => (sv (hdV (f0 i))).size <= 9223372036854775807) (fun i x => .obp ((sv (hdV (f0 i))).size <= 9223372036854775807) (.obt x)) (fun i x r h hx => evObp h (evObt hx)) (fun _ _ => rfl) hn hp fun i => rfl)
theorem ev68 (n0 : Nat) (f0 : FnV) (hp : SzOk n0 (elV tyC f0)) : evR (Ev (st68 n0 f0)) (m68 n0 f0) (.tup [.int .i64 (F68_0 n0 (elV tyC f0)), .int .i64 (F68_1 n0 (elV tyC f0))]) := ev68_0 n0 f0 hp
def C68 : PCon := mkC [.sl tyC, .fn 69 [] []] (fun
 | [.sl n0 f0, .fn _ [] []] => SzOk n0 f0
 | _ => False) fun
 | [.sl n0 f0, .fn _ [] []] => .tup [.int .i64 (F68_0 n0 f0), .int .i64 (F68_1 n0 f0)]
 | _ => .any
theorem ok68 : (vP C68).Ok Tryz.prog 68 := mkE tabB11 Tryz.func68 (by kernel_rfl) fun ds hp => rfs (run68 ..) (ev68 _ _ hp)
end
noncomputable section
def ctB12 : CTab := (70, .con C70) :: (62, .con C62) :: (68, .con C68) :: ctB11
theorem tabB12 : TabOk Tryz.prog eqs its ctB12 := .con ok70 (.con ok62 (.con ok68 (tabB11)))
inductive S24 where
 | L0 (ia0 : Int)
 | L1 (ib0 ib1 : Int)
 | L2 (ic0 ic1 ic2 : Int)
 | L3 (id0 id1 id2 id3 : Int)
def inv24 (n0 : Nat) (f0 : FnV) (n2 : Nat) (f2 : FnV) (n4 : Nat) (f4 : FnV) (n6 : Nat) (f6 : FnV) : S24 -> Env × List O × Option Ex
 | .L0 ia0 => ([(5, vi ia0), (34, V.kb false), (29, V.bool (bif bif decide (8 < (↑n0 : Int)) then true else decide (12 < (↑n2 : Int)) then true else decide (8 < (↑n4 : Int)))), (28, V.bool (bif bif decide (8 < (↑n0 : Int)) then true else decide (12 < (↑n2 : Int)) then true else decide (8 < (↑n4 : Int)))), (23, V.bool (bif decide (8 < (↑n0 : Int)) then true else decide (12 < (↑n2 : Int)))), (22, V.bool (bif decide (8 < (↑n0 : Int)) then true else decide (12 < (↑n2 : Int)))), (17, V.bool (decide (8 < (↑n0 : Int)))), (16, V.bool (decide (8 < (↑n0 : Int)))), (15, vi (↑n0 : Int)), (14, V.sl n0 (elV tyR f0)), (13, V.pl 0 0), (4, vi 0), (3, vi 0), (2, vi 0), (1, V.pl 0 0), (0, scV n0 f0 n2 f2 n4 f4 n6 f6)], [O.cells [V.sl n0 (elV tyR f0), V.sl n2 (elV tyT f2), V.sl n4 (elV tyF f4), V.sl n6 (elV tyC f6)] 27], none)
 | .L1 ib0 ib1 => ([(7, vi ib0), (39, V.kb false), (38, vi (↑n0 : Int)), (37, V.sl n0 (elV tyR f0)), (36, V.pl 0 0), (35, vi ib1), (5, vi ib1), (34, V.kb false), (29, V.bool (bif bif decide (8 < (↑n0 : Int)) then true else decide (12 < (↑n2 : Int)) then true else decide (8 < (↑n4 : Int)))), (28, V.bool (bif bif decide (8 < (↑n0 : Int)) then true else decide (12 < (↑n2 : Int)) then true else decide (8 < (↑n4 : Int)))), (23, V.bool (bif decide (8 < (↑n0 : Int)) then true else decide (12 < (↑n2 : Int)))), (22, V.bool (bif decide (8 < (↑n0 : Int)) then true else decide (12 < (↑n2 : Int)))), (17, V.bool (decide (8 < (↑n0 : Int)))), (16, V.bool (decide (8 < (↑n0 : Int)))), (15, vi (↑n0 : Int)), (14, V.sl n0 (elV tyR f0)), (13, V.pl 0 0), (4, vi 0), (3, vi 0), (2, vi 0), (1, V.pl 0 0), (0, scV n0 f0 n2 f2 n4 f4 n6 f6)], [O.cells [V.sl n0 (elV tyR f0), V.sl n2 (elV tyT f2), V.sl n4 (elV tyF f4), V.sl n6 (elV tyC f6)] 27], none)
 | .L2 ic0 ic1 ic2 => ([(9, vi ic0), (53, V.kb false), (52, vi (↑n2 : Int)), (51, V.sl n2 (elV tyT f2)), (50, V.pl 0 1), (49, vi ic1), (7, vi ic1), (39, V.kb false), (38, vi (↑n0 : Int)), (37, V.sl n0 (elV tyR f0)), (36, V.pl 0 0), (35, vi ic2), (5, vi ic2), (34, V.kb false), (29, V.bool (bif bif decide (8 < (↑n0 : Int)) then true else decide (12 < (↑n2 : Int)) then true else decide (8 < (↑n4 : Int)))), (28, V.bool (bif bif decide (8 < (↑n0 : Int)) then true else decide (12 < (↑n2 : Int)) then true else decide (8 < (↑n4 : Int)))), (23, V.bool (bif decide (8 < (↑n0 : Int)) then true else decide (12 < (↑n2 : Int)))), (22, V.bool (bif decide (8 < (↑n0 : Int)) then true else decide (12 < (↑n2 : Int)))), (17, V.bool (decide (8 < (↑n0 : Int)))), (16, V.bool (decide (8 < (↑n0 : Int)))), (15, vi (↑n0 : Int)), (14, V.sl n0 (elV tyR f0)), (13, V.pl 0 0), (4, vi 0), (3, vi 0), (2, vi 0), (1, V.pl 0 0), (0, scV n0 f0 n2 f2 n4 f4 n6 f6)], [O.cells [V.sl n0 (elV tyR f0), V.sl n2 (elV tyT f2), V.sl n4 (elV tyF f4), V.sl n6 (elV tyC f6)] 27], none)
 | .L3 id0 id1 id2 id3 => ([(11, vi id0), (96, V.kb false), (95, vi (↑n4 : Int)), (94, V.sl n4 (elV tyF f4)), (93, V.pl 0 2), (92, vi id1), (9, vi id1), (53, V.kb false), (52, vi (↑n2 : Int)), (51, V.sl n2 (elV tyT f2)), (50, V.pl 0 1), (49, vi id2), (7, vi id2), (39, V.kb false), (38, vi (↑n0 : Int)), (37, V.sl n0 (elV tyR f0)), (36, V.pl 0 0), (35, vi id3), (5, vi id3), (34, V.kb false), (29, V.bool (bif bif decide (8 < (↑n0 : Int)) then true else decide (12 < (↑n2 : Int)) then true else decide (8 < (↑n4 : Int)))), (28, V.bool (bif bif decide (8 < (↑n0 : Int)) then true else decide (12 < (↑n2 : Int)) then true else decide (8 < (↑n4 : Int)))), (23, V.bool (bif decide (8 < (↑n0 : Int)) then true else decide (12 < (↑n2 : Int)))), (22, V.bool (bif decide (8 < (↑n0 : Int)) then true else decide (12 < (↑n2 : Int)))), (17, V.bool (decide (8 < (↑n0 : Int)))), (16, V.bool (decide (8 < (↑n0 : Int)))), (15, vi (↑n0 : Int)), (14, V.sl n0 (elV tyR f0)), (13, V.pl 0 0), (4, vi 0), (3, vi 0), (2, vi 0), (1, V.pl 0 0), (0, scV n0 f0 n2 f2 n4 f4 n6 f6)], [O.cells [V.sl n0 (elV tyR f0), V.sl n2 (elV tyT f2), V.sl n4 (elV tyF f4), V.sl n6 (elV tyC f6)] 27], none)
def id24 : S24 -> JJ
 | .L0 ia0 => (0, [])
 | .L1 ib0 ib1 => (1, [])
 | .L2 ic0 ic1 ic2 => (2, [])
 | .L3 id0 id1 id2 id3 => (3, [])
def rl24 (n0 : Nat) (f0 : FnV) (n2 : Nat) (f2 : FnV) (n4 : Nat) (f4 : FnV) (n6 : Nat) (f6 : FnV) : T (Leaf JJ) := runL JJ ctB12 u0 s24 [scV n0 f0 n2 f2 n4 f4 n6 f6]
def lp24_0 (n0 : Nat) (f0 : FnV) (n2 : Nat) (f2 : FnV) (n4 : Nat) (f4 : FnV) (n6 : Nat) (f6 : FnV) (cx : List Cx) : Lp JJ := lpT (atT (rl24 n0 f0 n2 f2 n4 f4 n6 f6) [false])
def lp24_1 (n0 : Nat) (f0 : FnV) (n2 : Nat) (f2 : FnV) (n4 : Nat) (f4 : FnV) (n6 : Nat) (f6 : FnV) (cx : List Cx) : Lp JJ := lpT (atT (rdP ctB12 u0 (0, []) (lp24_0 n0 f0 n2 f2 n4 f4 n6 f6 []) (inv24 n0 f0 n2 f2 n4 f4 n6 f6 (.L0 (0 : Int)))) [false])
def lp24_2 (n0 : Nat) (f0 : FnV) (n2 : Nat) (f2 : FnV) (n4 : Nat) (f4 : FnV) (n6 : Nat) (f6 : FnV) (cx : List Cx) : Lp JJ := lpT (atT (rdP ctB12 u0 (1, []) (lp24_1 n0 f0 n2 f2 n4 f4 n6 f6 []) (inv24 n0 f0 n2 f2 n4 f4 n6 f6 (.L1 (0 : Int) (0 : Int)))) [false])
def lp24_3 (n0 : Nat) (f0 : FnV) (n2 : Nat) (f2 : FnV) (n4 : Nat) (f4 : FnV) (n6 : Nat) (f6 : FnV) (cx : List Cx) : Lp JJ := lpT (atT (rdP ctB12 u0 (2, []) (lp24_2 n0 f0 n2 f2 n4 f4 n6 f6 []) (inv24 n0 f0 n2 f2 n4 f4 n6 f6 (.L2 (0 : Int) (0 : Int) (0 : Int)))) [false])
def lp24 (n0 : Nat) (f0 : FnV) (n2 : Nat) (f2 : FnV) (n4 : Nat) (f4 : FnV) (n6 : Nat) (f6 : FnV) : JJ -> Lp JJ
 | (0, cx) => lp24_0 n0 f0 n2 f2 n4 f4 n6 f6 cx
 | (1, cx) => lp24_1 n0 f0 n2 f2 n4 f4 n6 f6 cx
 | (2, cx) => lp24_2 n0 f0 n2 f2 n4 f4 n6 f6 cx
 | (3, cx) => lp24_3 n0 f0 n2 f2 n4 f4 n6 f6 cx
 | (_, cx) => lp24_0 n0 f0 n2 f2 n4 f4 n6 f6 cx
def D24 (n0 : Nat) (f0 : FnV) (n2 : Nat) (f2 : FnV) (n4 : Nat) (f4 : FnV) (n6 : Nat) (f6 : FnV) : LD JJ S24 := ⟨id24, lp24 n0 f0 n2 f2 n4 f4 n6 f6, inv24 n0 f0 n2 f2 n4 f4 n6 f6⟩
def st24 (n0 : Nat) (f0 : FnV) (n2 : Nat) (f2 : FnV) (n4 : Nat) (f4 : FnV) (n6 : Nat) (f6 : FnV) : S24 -> RT S24
 | .L0 ia0 => .asm (true = true -> n0 <= 9223372036854775807) (.br (decide (ia0 < (↑n0 : Int))) (.obp ((0 : Int) <= ia0 /\ ia0 < (↑n0 : Int) /\ n0 <= (9223372036854775807 : Nat) /\ ∀ (i : Nat), i < n0 -> (sv (hdV (f0 i))).size <= (9223372036854775807 : Nat)) (.obt (.br (F70 n0 (elV tyR f0) ia0 != 0) (.ret (V.tup [vi 1, vi ia0, vi (F70 n0 (elV tyR f0) ia0)])) (.next [some (some 0)] (S24.L0 (i64.wrap (ia0 + 1))) [])))) (.enter [some (some 0)] (S24.L1 (0) (ia0)) []))
 | .L1 ib0 ib1 => .asm (true = true -> n2 <= 9223372036854775807) (.br (decide (ib0 < (↑n2 : Int))) (.ob (decide (0 <= ib0 /\ ib0 < (↑n2 : Int))) (.obc (.obt (.obi (.br (!!F51 2 (elV tp1 (secF [vi (jv0 (f2 ib0.toNat)), vi (jv1 (f2 ib0.toNat))] 0 1))) (.ob (!!F51 2 (elV tp1 (secF [vi (jv0 (f2 ib0.toNat)), vi (jv1 (f2 ib0.toNat))] 0 1))) (.obc (.obt (.obi (.obi (.obi (.obi (.obi (.obi (.obi (.obi (.obi (.obi (.obi (.br (bif bif bif !F71_0 (jv2 (f2 ib0.toNat)) 1 20000 then true else decide (jv3 (f2 ib0.toNat) < 0) then true else decide (jv4 (f2 ib0.toNat) <= jv3 (f2 ib0.toNat)) then true else decide (1000 < jv4 (f2 ib0.toNat))) (.ret (V.tup [vi 2, vi ib0, vi 7])) (.next [some (some 0)] (S24.L1 (i64.wrap (ib0 + 1)) (ib1)) [])))))))))))))))) (.ret (V.tup [vi 2, vi ib0, vi 7]))))))) (.enter [some (some 0)] (S24.L2 (0) (ib0) (ib1)) []))
 | .L2 ic0 ic1 ic2 => .asm (true = true -> n4 <= 9223372036854775807) (.br (decide (ic0 < (↑n4 : Int))) (.ob (decide (0 <= ic0 /\ ic0 < (↑n4 : Int))) (.obc (.obt (.br ((F72 (jv0 (f4 ic0.toNat)) (jv1 (f4 ic0.toNat)) (jv2 (f4 ic0.toNat)) (jv3 (f4 ic0.toNat)) (lenV (hdV (tlV (tlV (tlV (tlV (f4 ic0.toNat))))))) fun i => views tp4 (atV (hdV (tlV (tlV (tlV (tlV (f4 ic0.toNat)))))) i)) != 0) (.ret (V.tup [vi 3, vi ic0, vi (F72 (jv0 (f4 ic0.toNat)) (jv1 (f4 ic0.toNat)) (jv2 (f4 ic0.toNat)) (jv3 (f4 ic0.toNat)) (lenV (hdV (tlV (tlV (tlV (tlV (f4 ic0.toNat))))))) fun i => views tp4 (atV (hdV (tlV (tlV (tlV (tlV (f4 ic0.toNat)))))) i))])) (.next [some (some 0)] (S24.L2 (i64.wrap (ic0 + 1)) (ic1) (ic2)) []))))) (.enter [some (some 0)] (S24.L3 (0) (ic0) (ic1) (ic2)) []))
 | .L3 id0 id1 id2 id3 => .asm (true = true -> n6 <= 9223372036854775807) (.br (decide (id0 < (↑n6 : Int))) (.obp ((0 : Int) <= id0 /\ id0 < (↑n6 : Int) /\ n6 <= (9223372036854775807 : Nat) /\ ∀ (i : Nat), i < n6 -> (sv (hdV (f6 i))).size <= (9223372036854775807 : Nat)) (.obt (.br (F73 n6 (elV tyC f6) id0 != 0) (.ret (V.tup [vi 4, vi id0, vi (F73 n6 (elV tyC f6) id0)])) (.next [some (some 0)] (S24.L3 (i64.wrap (id0 + 1)) (id1) (id2) (id3)) [])))) (.ret (V.tup [vi 0, vi 0, vi 0])))
def m24 (n0 : Nat) (f0 : FnV) (n2 : Nat) (f2 : FnV) (n4 : Nat) (f4 : FnV) (n6 : Nat) (f6 : FnV) : RT S24 := .asm (true = true -> n0 <= 9223372036854775807) (.obi (.obi (.asm ((!decide (8 < (↑n0 : Int))) = true -> n2 <= 9223372036854775807) (.obi (.obi (.obi (.obi (.asm ((!bif decide (8 < (↑n0 : Int)) then true else decide (12 < (↑n2 : Int))) = true -> n4 <= 9223372036854775807) (.obi (.obi (.obi (.obi (.asm ((!bif bif decide (8 < (↑n0 : Int)) then true else decide (12 < (↑n2 : Int)) then true else decide (8 < (↑n4 : Int))) = true -> n6 <= 9223372036854775807) (.obi (.obi (.br (bif bif bif decide (8 < (↑n0 : Int)) then true else decide (12 < (↑n2 : Int)) then true else decide (8 < (↑n4 : Int)) then true else decide (24 < (↑n6 : Int))) (.ret (V.tup [vi 0, vi 0, vi 3])) (.enter [some (some 0)] (S24.L0 (0)) [])))))))))))))))))
theorem run24 (n0 : Nat) (f0 : FnV) (n2 : Nat) (f2 : FnV) (n4 : Nat) (f4 : FnV) (n6 : Nat) (f6 : FnV) : Fits ctB12 u0 (D24 n0 f0 n2 f2 n4 f4 n6 f6) (rl24 n0 f0 n2 f2 n4 f4 n6 f6) (m24 n0 f0 n2 f2 n4 f4 n6 f6) (st24 n0 f0 n2 f2 n4 f4 n6 f6) := ⟨⟨by kernel_rfl, by kernel_rfl⟩, fun s => by cases s <;> exact ⟨by kernel_rfl, by kernel_rfl⟩⟩
def tri (t : Int × Int × Int) : V := .tup [.int .i64 t.1, .int .i64 t.2.1, .int .i64 t.2.2]
def treeE (x y a z w : Int) : Int := bif !!ptOk x y then (bif (bif bif bif !F71_0 a 1 20000 then true else decide (z < 0) then true else decide (w <= z) then true else decide (1000 < w)) then 7 else 0) else 7
def r24 (n : Nat) (c : Nat -> Int) (k : Int) (z : Int × Int × Int) : Int × Int × Int := bif firstE n c != 0 then (k, firstI n c, firstE n c) else z
def cR (n0 : Nat) (f0 : FnV) (i : Nat) : Int := F70 n0 (elV tyR f0) (i : Int)
def cT (f2 : FnV) (i : Nat) : Int := treeE (jv0 (f2 i)) (jv1 (f2 i)) (jv2 (f2 i)) (jv3 (f2 i)) (jv4 (f2 i))
def cF (f4 : FnV) (i : Nat) : Int := F72 (jv0 (f4 i)) (jv1 (f4 i)) (jv2 (f4 i)) (jv3 (f4 i)) (lenV (hdV (tlV (tlV (tlV (tlV (f4 i))))))) fun j => views tp4 (atV (hdV (tlV (tlV (tlV (tlV (f4 i)))))) j)
def cC (n6 : Nat) (f6 : FnV) (i : Nat) : Int := F73 n6 (elV tyC f6) (i : Int)
def z3 (n6 : Nat) (f6 : FnV) : Int × Int × Int := r24 n6 (cC n6 f6) 4 (0, 0, 0)
def z2 (n4 : Nat) (f4 : FnV) (n6 : Nat) (f6 : FnV) : Int × Int × Int := r24 n4 (cF f4) 3 (z3 n6 f6)
def z1 (n2 : Nat) (f2 : FnV) (n4 : Nat) (f4 : FnV) (n6 : Nat) (f6 : FnV) : Int × Int × Int := r24 n2 (cT f2) 2 (z2 n4 f4 n6 f6)
def long (n0 : Nat) (f0 : FnV) (n2 : Nat) (f2 : FnV) (n4 : Nat) (f4 : FnV) (n6 : Nat) (f6 : FnV) : Bool := bif bif bif decide (8 < (n0 : Int)) then true else decide (12 < (n2 : Int)) then true else decide (8 < (n4 : Int)) then true else decide (24 < (n6 : Int))
def F24 (n0 : Nat) (f0 : FnV) (n2 : Nat) (f2 : FnV) (n4 : Nat) (f4 : FnV) (n6 : Nat) (f6 : FnV) : Int × Int × Int := bif long n0 f0 n2 f2 n4 f4 n6 f6 then (0, 0, 3) else r24 n0 (cR n0 f0) 1 (z1 n2 f2 n4 f4 n6 f6)
def F24_0 (n0 : Nat) (f0 : FnV) (n2 : Nat) (f2 : FnV) (n4 : Nat) (f4 : FnV) (n6 : Nat) (f6 : FnV) : Int := (F24 n0 f0 n2 f2 n4 f4 n6 f6).1
def F24_1 (n0 : Nat) (f0 : FnV) (n2 : Nat) (f2 : FnV) (n4 : Nat) (f4 : FnV) (n6 : Nat) (f6 : FnV) : Int := (F24 n0 f0 n2 f2 n4 f4 n6 f6).2.1
def F24_2 (n0 : Nat) (f0 : FnV) (n2 : Nat) (f2 : FnV) (n4 : Nat) (f4 : FnV) (n6 : Nat) (f6 : FnV) : Int := (F24 n0 f0 n2 f2 n4 f4 n6 f6).2.2
theorem r24_hit {n : Nat} {c : Nat -> Int} {i : Nat} (k : Int) (z : Int × Int × Int) (hi : i < n) (hc : (c i != 0) = true) (h : ∀ j, j < i -> (c j != 0) = false) : r24 n c k z = (k, (i : Int), c i) := by
 unfold r24
 obtain ⟨e1, e2⟩ := first_some hi hc h
 rw [e1, e2, hc]; rfl
theorem r24_end {n : Nat} {c : Nat -> Int} (k : Int) (z : Int × Int × Int) (h : ∀ j, j < n -> (c j != 0) = false) : r24 n c k z = z := by
 unfold r24
 obtain ⟨e1, e2⟩ := first_none h
 rw [e1, e2]; rfl
theorem c24_3 (n0 : Nat) (f0 : FnV) (n2 : Nat) (f2 : FnV) (n4 : Nat) (f4 : FnV) (n6 : Nat) (f6 : FnV) (hs : SzOk n6 f6) (i1 i2 i3 : Int) : Ev (st24 n0 f0 n2 f2 n4 f4 n6 f6) (.L3 0 i1 i2 i3) (tri (z3 n6 f6)) := by
 by_cases hn : n6 <= 9223372036854775807
 ·refine scan (n := n6) hn (fun i => cC n6 f6 i != 0) (P := fun i => Ev (st24 n0 f0 n2 f2 n4 f4 n6 f6) (.L3 i i1 i2 i3) _) (fun i hlt hj next => Ev.of rfl (evAsm fun _ => evBrLt hlt (evObp ⟨by omega, by omega, hn, hs⟩ (evObt (evBr (fun hb => evRet ?_) (fun hb => evNext (next hb))))))) (fun hj => Ev.of rfl (evAsm fun _ => evBrGe (evRet ?_)))
  ·unfold z3; rw [r24_hit 4 _ hlt hb hj]; rfl
  ·unfold z3; rw [r24_end 4 _ hj]; rfl
 ·exact Ev.of rfl (evAsm fun h => absurd (h rfl) hn)
theorem c24_2 (n0 : Nat) (f0 : FnV) (n2 : Nat) (f2 : FnV) (n4 : Nat) (f4 : FnV) (n6 : Nat) (f6 : FnV) (hs : SzOk n6 f6) (i1 i2 : Int) : Ev (st24 n0 f0 n2 f2 n4 f4 n6 f6) (.L2 0 i1 i2) (tri (z2 n4 f4 n6 f6)) := by
 by_cases hn : n4 <= 9223372036854775807
 ·refine scan (n := n4) hn (fun i => cF f4 i != 0) (P := fun i => Ev (st24 n0 f0 n2 f2 n4 f4 n6 f6) (.L2 i i1 i2) _) (fun i hlt hj next => Ev.of rfl (evAsm fun _ => evBrLt hlt (evObLt hlt (evObc (evObt (evBr (fun hb => evRet ?_) (fun hb => evNext (next hb)))))))) (fun hj => Ev.of rfl (evAsm fun _ => evBrGe (evEnter ?_)))
  ·unfold z2; rw [r24_hit 3 _ hlt hb hj]; rfl
  ·unfold z2; rw [r24_end 3 _ hj]; exact c24_3 n0 f0 n2 f2 n4 f4 n6 f6 hs _ _ _
 ·exact Ev.of rfl (evAsm fun h => absurd (h rfl) hn)
theorem c24_1 (n0 : Nat) (f0 : FnV) (n2 : Nat) (f2 : FnV) (n4 : Nat) (f4 : FnV) (n6 : Nat) (f6 : FnV) (hs : SzOk n6 f6) (i1 : Int) : Ev (st24 n0 f0 n2 f2 n4 f4 n6 f6) (.L1 0 i1) (tri (z1 n2 f2 n4 f4 n6 f6)) := by
 by_cases hn : n2 <= 9223372036854775807
 ·refine scan (n := n2) hn (fun i => cT f2 i != 0) (P := fun i => Ev (st24 n0 f0 n2 f2 n4 f4 n6 f6) (.L1 i i1) _) (fun i hlt hj next => Ev.of rfl (evAsm fun _ => evBrLt hlt (evObLt hlt (evObc (evObt (evObi (evBr (fun h => evOb h (evObc (evObt ?_))) (fun h => evRet ?_)))))))) (fun hj => Ev.of rfl (evAsm fun _ => evBrGe (evEnter ?_)))
  ·repeat refine evObi ?_
   refine evBr (fun hb => evRet ?_) (fun hb => evNext (next ?_))
   ·have e : cT f2 i = 7 := by
     unfold cT treeE
     rw [show (!!ptOk (jv0 (f2 i)) (jv1 (f2 i))) = true from h]
     exact (congrArg (fun c => bif c then (7 : Int) else 0) hb).trans rfl
    unfold z1; rw [r24_hit 2 _ hlt (by rw [e]; rfl) hj, e]; rfl
   ·have e : cT f2 i = 0 := by
     unfold cT treeE
     rw [show (!!ptOk (jv0 (f2 i)) (jv1 (f2 i))) = true from h]
     exact (congrArg (fun c => bif c then (7 : Int) else 0) hb).trans rfl
    rw [e]; rfl
  ·have e : cT f2 i = 7 := by
    unfold cT treeE
    rw [show (!!ptOk (jv0 (f2 i)) (jv1 (f2 i))) = false from h]; rfl
   unfold z1; rw [r24_hit 2 _ hlt (by rw [e]; rfl) hj, e]; rfl
  ·unfold z1; rw [r24_end 2 _ hj]; exact c24_2 n0 f0 n2 f2 n4 f4 n6 f6 hs _ _
 ·exact Ev.of rfl (evAsm fun h => absurd (h rfl) hn)
theorem c24_0 (n0 : Nat) (f0 : FnV) (n2 : Nat) (f2 : FnV) (n4 : Nat) (f4 : FnV) (n6 : Nat) (f6 : FnV) (hr : SzOk n0 f0) (hs : SzOk n6 f6) : Ev (st24 n0 f0 n2 f2 n4 f4 n6 f6) (.L0 0) (tri (r24 n0 (cR n0 f0) 1 (z1 n2 f2 n4 f4 n6 f6))) := by
 by_cases hn : n0 <= 9223372036854775807
 ·refine scan (n := n0) hn (fun i => cR n0 f0 i != 0) (P := fun i => Ev (st24 n0 f0 n2 f2 n4 f4 n6 f6) (.L0 i) _) (fun i hlt hj next => Ev.of rfl (evAsm fun _ => evBrLt hlt (evObp ⟨by omega, by omega, hn, hr⟩ (evObt (evBr (fun hb => evRet ?_) (fun hb => evNext (next hb))))))) (fun hj => Ev.of rfl (evAsm fun _ => evBrGe (evEnter ?_)))
  ·rw [r24_hit 1 _ hlt hb hj]; rfl
  ·rw [r24_end 1 _ hj]; exact c24_1 n0 f0 n2 f2 n4 f4 n6 f6 hs _
 ·exact Ev.of rfl (evAsm fun h => absurd (h rfl) hn)
theorem ev24_0 (n0 : Nat) (f0 : FnV) (n2 : Nat) (f2 : FnV) (n4 : Nat) (f4 : FnV) (n6 : Nat) (f6 : FnV) (hp : SzOk n0 f0 /\ SzOk n6 f6) : evR (Ev (st24 n0 f0 n2 f2 n4 f4 n6 f6)) (m24 n0 f0 n2 f2 n4 f4 n6 f6) (.tup [.int .i64 (F24_0 n0 f0 n2 f2 n4 f4 n6 f6), .int .i64 (F24_1 n0 f0 n2 f2 n4 f4 n6 f6), .int .i64 (F24_2 n0 f0 n2 f2 n4 f4 n6 f6)]) := by
 show evR _ _ (tri (F24 n0 f0 n2 f2 n4 f4 n6 f6))
 unfold F24
 repeat (first | refine evObi ?_ | refine evAsm fun _ => ?_)
 refine evBr (fun h => evRet ?_) (fun h => evEnter ?_)
 ·rw [show long n0 f0 n2 f2 n4 f4 n6 f6 = true from h]; rfl
 ·rw [show long n0 f0 n2 f2 n4 f4 n6 f6 = false from h]; exact c24_0 n0 f0 n2 f2 n4 f4 n6 f6 hp.1 hp.2
theorem ev24 (n0 : Nat) (f0 : FnV) (n2 : Nat) (f2 : FnV) (n4 : Nat) (f4 : FnV) (n6 : Nat) (f6 : FnV) (hp : SzOk n0 (elV tyR f0) /\ SzOk n6 (elV tyC f6)) : evR (Ev (st24 n0 f0 n2 f2 n4 f4 n6 f6)) (m24 n0 f0 n2 f2 n4 f4 n6 f6) (.tup [.int .i64 (F24_0 n0 (elV tyR f0) n2 (elV tyT f2) n4 (elV tyF f4) n6 (elV tyC f6)), .int .i64 (F24_1 n0 (elV tyR f0) n2 (elV tyT f2) n4 (elV tyF f4) n6 (elV tyC f6)), .int .i64 (F24_2 n0 (elV tyR f0) n2 (elV tyT f2) n4 (elV tyF f4) n6 (elV tyC f6))]) := ev24_0 n0 f0 n2 f2 n4 f4 n6 f6 hp
def C24 : PCon := mkC [.agg [.sl tyR, .sl tyT, .sl tyF, .sl tyC]] (fun
 | [.agg [.sl n0 f0, .sl n2 f2, .sl n4 f4, .sl n6 f6]] => SzOk n0 f0 /\ SzOk n6 f6
 | _ => False) fun
 | [.agg [.sl n0 f0, .sl n2 f2, .sl n4 f4, .sl n6 f6]] => .tup [.int .i64 (F24_0 n0 f0 n2 f2 n4 f4 n6 f6), .int .i64 (F24_1 n0 f0 n2 f2 n4 f4 n6 f6), .int .i64 (F24_2 n0 f0 n2 f2 n4 f4 n6 f6)]
 | _ => .any
theorem ok24 : (vP C24).Ok Tryz.prog 24 := mkE tabB12 Tryz.func24 (by kernel_rfl) fun ds hp => rfs (run24 ..) (ev24 _ _ _ _ _ _ _ _ hp)
def m23 (n0 : Nat) (f0 : FnV) (n2 : Nat) (f2 : FnV) (n4 : Nat) (f4 : FnV) (n6 : Nat) (f6 : FnV) : RT Empty := .asm (true = true -> n0 <= 9223372036854775807) (.obi (.obi (.asm ((!decide (8 < (↑n0 : Int))) = true -> n2 <= 9223372036854775807) (.obi (.obi (.obi (.obi (.asm ((!bif decide (8 < (↑n0 : Int)) then true else decide (12 < (↑n2 : Int))) = true -> n4 <= 9223372036854775807) (.obi (.obi (.obi (.obi (.asm ((!bif bif decide (8 < (↑n0 : Int)) then true else decide (12 < (↑n2 : Int)) then true else decide (8 < (↑n4 : Int))) = true -> n6 <= 9223372036854775807) (.obi (.obi (.br (bif bif bif decide (8 < (↑n0 : Int)) then true else decide (12 < (↑n2 : Int)) then true else decide (8 < (↑n4 : Int)) then true else decide (24 < (↑n6 : Int))) (.ret (V.tup [vi 0, vi 0, vi 3])) (.obp (∀ (i : Nat), i < n0 -> (sv (hdV (f0 i))).size <= (9223372036854775807 : Nat)) (.obt (.br (F62_1 n0 (elV tyR f0) != 0) (.ret (V.tup [vi 1, vi (F62_0 n0 (elV tyR f0)), vi (F62_1 n0 (elV tyR f0))])) (.obc (.obt (.br (F64_1 n2 (elV tyT f2) != 0) (.ret (V.tup [vi 2, vi (F64_0 n2 (elV tyT f2)), vi (F64_1 n2 (elV tyT f2))])) (.obc (.obt (.br (F66_1 n4 (elV tyF f4) != 0) (.ret (V.tup [vi 3, vi (F66_0 n4 (elV tyF f4)), vi (F66_1 n4 (elV tyF f4))])) (.obp (∀ (i : Nat), i < n6 -> (sv (hdV (f6 i))).size <= (9223372036854775807 : Nat)) (.obt (.br (F68_1 n6 (elV tyC f6) != 0) (.ret (V.tup [vi 4, vi (F68_0 n6 (elV tyC f6)), vi (F68_1 n6 (elV tyC f6))])) (.ret (V.tup [vi 0, vi 0, vi 0]))))))))))))))))))))))))))))))
theorem run23 (n0 : Nat) (f0 : FnV) (n2 : Nat) (f2 : FnV) (n4 : Nat) (f4 : FnV) (n6 : Nat) (f6 : FnV) : Fit noD (runL JJ ctB12 u0 s23 [scV n0 f0 n2 f2 n4 f4 n6 f6]) (m23 n0 f0 n2 f2 n4 f4 n6 f6) := ⟨by kernel_rfl, by kernel_rfl⟩
def F23_0 (n0 : Nat) (f0 : FnV) (n2 : Nat) (f2 : FnV) (n4 : Nat) (f4 : FnV) (n6 : Nat) (f6 : FnV) : Int := bif bif bif bif decide (8 < (↑n0 : Int)) then true else decide (12 < (↑n2 : Int)) then true else decide (8 < (↑n4 : Int)) then true else decide (24 < (↑n6 : Int)) then 0 else bif F62_1 n0 (elV tyR f0) != 0 then 1 else bif F64_1 n2 (elV tyT f2) != 0 then 2 else bif F66_1 n4 (elV tyF f4) != 0 then 3 else bif F68_1 n6 (elV tyC f6) != 0 then 4 else 0
def F23_1 (n0 : Nat) (f0 : FnV) (n2 : Nat) (f2 : FnV) (n4 : Nat) (f4 : FnV) (n6 : Nat) (f6 : FnV) : Int := bif bif bif bif decide (8 < (↑n0 : Int)) then true else decide (12 < (↑n2 : Int)) then true else decide (8 < (↑n4 : Int)) then true else decide (24 < (↑n6 : Int)) then 0 else bif F62_1 n0 (elV tyR f0) != 0 then F62_0 n0 (elV tyR f0) else bif F64_1 n2 (elV tyT f2) != 0 then F64_0 n2 (elV tyT f2) else bif F66_1 n4 (elV tyF f4) != 0 then F66_0 n4 (elV tyF f4) else bif F68_1 n6 (elV tyC f6) != 0 then F68_0 n6 (elV tyC f6) else 0
def F23_2 (n0 : Nat) (f0 : FnV) (n2 : Nat) (f2 : FnV) (n4 : Nat) (f4 : FnV) (n6 : Nat) (f6 : FnV) : Int := bif bif bif bif decide (8 < (↑n0 : Int)) then true else decide (12 < (↑n2 : Int)) then true else decide (8 < (↑n4 : Int)) then true else decide (24 < (↑n6 : Int)) then 3 else bif F62_1 n0 (elV tyR f0) != 0 then F62_1 n0 (elV tyR f0) else bif F64_1 n2 (elV tyT f2) != 0 then F64_1 n2 (elV tyT f2) else bif F66_1 n4 (elV tyF f4) != 0 then F66_1 n4 (elV tyF f4) else bif F68_1 n6 (elV tyC f6) != 0 then F68_1 n6 (elV tyC f6) else 0
def R23 (n0 : Nat) (f0 : FnV) (n2 : Nat) (f2 : FnV) (n4 : Nat) (f4 : FnV) (n6 : Nat) (f6 : FnV) : V := .tup [.int i64 (F23_0 n0 f0 n2 f2 n4 f4 n6 f6), .int i64 (F23_1 n0 f0 n2 f2 n4 f4 n6 f6), .int i64 (F23_2 n0 f0 n2 f2 n4 f4 n6 f6)]
theorem ev23 (n0 : Nat) (f0 : FnV) (n2 : Nat) (f2 : FnV) (n4 : Nat) (f4 : FnV) (n6 : Nat) (f6 : FnV) (hp : SzOk n0 f0 /\ SzOk n6 f6) : evR noE (m23 n0 f0 n2 f2 n4 f4 n6 f6) (R23 n0 f0 n2 f2 n4 f4 n6 f6) := evAsm (fun a0 => evObi (evObi (evAsm (fun a0 => evObi (evObi (evObi (evObi (evAsm (fun a0 => evObi (evObi (evObi (evObi (evAsm (fun a0 => evObi (evObi (evBr (fun h0 => evRet (by unfold R23 F23_0 F23_1 F23_2; try rw [h0]; rfl)) (fun h0 => evObp (by first | assumption | ((first | exact hp.1 | exact hp.2))) (evObt (evBr (fun h1 => evRet (by unfold R23 F23_0 F23_1 F23_2; try rw [h0]; try rw [h1]; rfl)) (fun h1 => evObc (evObt (evBr (fun h2 => evRet (by unfold R23 F23_0 F23_1 F23_2; try rw [h0]; try rw [h1]; try rw [h2]; rfl)) (fun h2 => evObc (evObt (evBr (fun h3 => evRet (by unfold R23 F23_0 F23_1 F23_2; try rw [h0]; try rw [h1]; try rw [h2]; try rw [h3]; rfl)) (fun h3 => evObp (by first | assumption | ((first | exact hp.1 | exact hp.2))) (evObt (evBr (fun h4 => evRet (by unfold R23 F23_0 F23_1 F23_2; try rw [h0]; try rw [h1]; try rw [h2]; try rw [h3]; try rw [h4]; rfl)) (fun h4 => evRet (by unfold R23 F23_0 F23_1 F23_2; try rw [h0]; try rw [h1]; try rw [h2]; try rw [h3]; try rw [h4]; rfl))))))))))))))))))))))))))))))
def C23 : PCon := mkC [.agg [.sl tyR, .sl tyT, .sl tyF, .sl tyC]] (fun
 | [.agg [.sl n0 f0, .sl n2 f2, .sl n4 f4, .sl n6 f6]] => SzOk n0 f0 /\ SzOk n6 f6
 | _ => False) fun
 | [.agg [.sl n0 f0, .sl n2 f2, .sl n4 f4, .sl n6 f6]] => R23 n0 f0 n2 f2 n4 f4 n6 f6
 | _ => .any
theorem ok23 : (vP C23).Ok Tryz.prog 23 := mkE tabB12 Tryz.func23 (by kernel_rfl) fun ds hp => rf0 (run23 ..) (ev23 _ _ _ _ _ _ _ _ hp)
end
noncomputable section
def ctB13 : CTab := (24, .con C24) :: (23, .con C23) :: ctB12
theorem tabB13 : TabOk Tryz.prog eqs its ctB13 := .con ok24 (.con ok23 (tabB12))
inductive S44 where
 | L0 (ia0 ia1 : Int)
def inv44 (n0 : Nat) (f0 : FnV) (n2 : Nat) (f2 : FnV) (n4 : Nat) (f4 : FnV) (n6 : Nat) (f6 : FnV) (n8 : Nat) (f8 : FnV) : S44 -> Env × List O × Option Ex
 | .L0 ia0 ia1 => ([(8, vi ia0), (7, vi ia1), (6, vi (F23_1 n0 (elV tyR f0) n2 (elV tyT f2) n4 (elV tyF f4) n6 (elV tyC f6))), (5, vi (F23_0 n0 (elV tyR f0) n2 (elV tyT f2) n4 (elV tyF f4) n6 (elV tyC f6))), (14, vi (F23_2 n0 (elV tyR f0) n2 (elV tyT f2) n4 (elV tyF f4) n6 (elV tyC f6))), (13, vi (F23_1 n0 (elV tyR f0) n2 (elV tyT f2) n4 (elV tyF f4) n6 (elV tyC f6))), (12, vi (F23_0 n0 (elV tyR f0) n2 (elV tyT f2) n4 (elV tyF f4) n6 (elV tyC f6))), (9, V.tup [vi (F23_0 n0 (elV tyR f0) n2 (elV tyT f2) n4 (elV tyF f4) n6 (elV tyC f6)), vi (F23_1 n0 (elV tyR f0) n2 (elV tyT f2) n4 (elV tyF f4) n6 (elV tyC f6)), vi (F23_2 n0 (elV tyR f0) n2 (elV tyT f2) n4 (elV tyF f4) n6 (elV tyC f6))]), (11, V.tup [vi (F23_0 n0 (elV tyR f0) n2 (elV tyT f2) n4 (elV tyF f4) n6 (elV tyC f6)), vi (F23_1 n0 (elV tyR f0) n2 (elV tyT f2) n4 (elV tyF f4) n6 (elV tyC f6)), vi (F23_2 n0 (elV tyR f0) n2 (elV tyT f2) n4 (elV tyF f4) n6 (elV tyC f6))]), (10, scV n0 f0 n2 f2 n4 f4 n6 f6), (4, vi 0), (2, V.pl 0 0), (0, scV n0 f0 n2 f2 n4 f4 n6 f6), (1, V.sl n8 (elV tp1 f8))], [O.cells [V.sl n0 (elV tyR f0), V.sl n2 (elV tyT f2), V.sl n4 (elV tyF f4), V.sl n6 (elV tyC f6)] 27], none)
def id44 : S44 -> JJ
 | .L0 ia0 ia1 => (0, [])
def rl44 (n0 : Nat) (f0 : FnV) (n2 : Nat) (f2 : FnV) (n4 : Nat) (f4 : FnV) (n6 : Nat) (f6 : FnV) (n8 : Nat) (f8 : FnV) : T (Leaf JJ) := runL JJ ctB13 u0 s44 [scV n0 f0 n2 f2 n4 f4 n6 f6, V.sl n8 (elV tp1 f8)]
def lp44_0 (n0 : Nat) (f0 : FnV) (n2 : Nat) (f2 : FnV) (n4 : Nat) (f4 : FnV) (n6 : Nat) (f6 : FnV) (n8 : Nat) (f8 : FnV) (cx : List Cx) : Lp JJ := lpT (atT (rl44 n0 f0 n2 f2 n4 f4 n6 f6 n8 f8) [])
def lp44 (n0 : Nat) (f0 : FnV) (n2 : Nat) (f2 : FnV) (n4 : Nat) (f4 : FnV) (n6 : Nat) (f6 : FnV) (n8 : Nat) (f8 : FnV) : JJ -> Lp JJ
 | (0, cx) => lp44_0 n0 f0 n2 f2 n4 f4 n6 f6 n8 f8 cx
 | (_, cx) => lp44_0 n0 f0 n2 f2 n4 f4 n6 f6 n8 f8 cx
def D44 (n0 : Nat) (f0 : FnV) (n2 : Nat) (f2 : FnV) (n4 : Nat) (f4 : FnV) (n6 : Nat) (f6 : FnV) (n8 : Nat) (f8 : FnV) : LD JJ S44 := ⟨id44, lp44 n0 f0 n2 f2 n4 f4 n6 f6 n8 f8, inv44 n0 f0 n2 f2 n4 f4 n6 f6 n8 f8⟩
def st44 (n0 : Nat) (f0 : FnV) (n2 : Nat) (f2 : FnV) (n4 : Nat) (f4 : FnV) (n6 : Nat) (f6 : FnV) (n8 : Nat) (f8 : FnV) : S44 -> RT S44
 | .L0 ia0 ia1 => .asm (true = true -> n8 <= 9223372036854775807) (.obi (.obi (.br (bif decide (ia0 < (↑n8 : Int)) then ia1 == 0 else false) (.ob (decide (0 <= ia0 /\ ia0 < (↑n8 : Int))) (.ob (decide (0 <= i64.wrap (ia0 + 1) /\ i64.wrap (ia0 + 1) < (↑n8 : Int))) (.obc (.obt (.br (F86_0 (jv0 (f8 ia0.toNat)) 0 (i64.wrap (jv0 (f8 (i64.wrap (ia0 + 1)).toNat) - 1))) (.next [some (some 0)] (S44.L0 (i64.wrap (ia0 + 2)) (4)) []) (.next [some (some 0)] (S44.L0 (i64.wrap (ia0 + 2)) (ia1)) [])))))) (.ret (vi ia1)))))
def m44 (n0 : Nat) (f0 : FnV) (n2 : Nat) (f2 : FnV) (n4 : Nat) (f4 : FnV) (n6 : Nat) (f6 : FnV) (n8 : Nat) (f8 : FnV) : RT S44 := .obp ((∀ (i : Nat), i < n0 -> (sv (hdV (f0 i))).size <= (9223372036854775807 : Nat)) /\ ∀ (i : Nat), i < n6 -> (sv (hdV (f6 i))).size <= (9223372036854775807 : Nat)) (.obt (.enter [some (some 0)] (S44.L0 (0) (F23_2 n0 (elV tyR f0) n2 (elV tyT f2) n4 (elV tyF f4) n6 (elV tyC f6))) []))
theorem run44 (n0 : Nat) (f0 : FnV) (n2 : Nat) (f2 : FnV) (n4 : Nat) (f4 : FnV) (n6 : Nat) (f6 : FnV) (n8 : Nat) (f8 : FnV) : Fits ctB13 u0 (D44 n0 f0 n2 f2 n4 f4 n6 f6 n8 f8) (rl44 n0 f0 n2 f2 n4 f4 n6 f6 n8 f8) (m44 n0 f0 n2 f2 n4 f4 n6 f6 n8 f8) (st44 n0 f0 n2 f2 n4 f4 n6 f6 n8 f8) := ⟨⟨by kernel_rfl, by kernel_rfl⟩, fun s => by cases s <;> exact ⟨by kernel_rfl, by kernel_rfl⟩⟩
def outI (f8 : FnV) (k : Nat) : Bool := F86_0 (jv0 (f8 (2 * k))) 0 (i64.wrap (jv0 (f8 (2 * k + 1)) - 1))
def outs (n8 : Nat) (f8 : FnV) (e : Int) : Int := bif e == 0 then (bif exB (n8 / 2) (outI f8) then 4 else 0) else e
def F44 (n0 : Nat) (f0 : FnV) (n2 : Nat) (f2 : FnV) (n4 : Nat) (f4 : FnV) (n6 : Nat) (f6 : FnV) (n8 : Nat) (f8 : FnV) : Int := outs n8 f8 (F23_2 n0 (elV tyR f0) n2 (elV tyT f2) n4 (elV tyF f4) n6 (elV tyC f6))
theorem c44_1 (n0 : Nat) (f0 : FnV) (n2 : Nat) (f2 : FnV) (n4 : Nat) (f4 : FnV) (n6 : Nat) (f6 : FnV) (n8 : Nat) (f8 : FnV) (i e : Int) (he : (e == 0) = false) : Ev (st44 n0 f0 n2 f2 n4 f4 n6 f6 n8 f8) (.L0 i e) (.int .i64 e) := Ev.of rfl (evAsm fun _ => evObi (evObi (evBrF (by rw [he]; cases decide (i < (n8 : Int)) <;> rfl) (evRet rfl))))
theorem c44_0 (n0 : Nat) (f0 : FnV) (n2 : Nat) (f2 : FnV) (n4 : Nat) (f4 : FnV) (n6 : Nat) (f6 : FnV) (n8 : Nat) (f8 : FnV) (hm : n8 % 2 = 0) (hn : n8 <= 100) : ∀ k : Nat, k <= n8 / 2 -> (∀ j, j < k -> outI f8 j = false) -> Ev (st44 n0 f0 n2 f2 n4 f4 n6 f6 n8 f8) (.L0 ((2 * k : Nat) : Int) 0) (.int .i64 (bif exB (n8 / 2) (outI f8) then 4 else 0)) := by
 refine up_ind fun k hk ih hj => Ev.of rfl (evAsm fun _ => evObi (evObi (evBr (fun h => ?_) (fun h => ?_))))
 ·have hlt : 2 * k < n8 := by
   by_cases hh : ((2 * k : Nat) : Int) < (n8 : Int)
   ·omega
   ·rw [dqf hh] at h; cases h
  have w1 : i64.wrap (((2 * k : Nat) : Int) + 1) = ((2 * k + 1 : Nat) : Int) := by rw [wrapI (by omega) (by omega)]; omega
  have w2 : i64.wrap (((2 * k : Nat) : Int) + 2) = ((2 * (k + 1) : Nat) : Int) := by rw [wrapI (by omega) (by omega)]; omega
  refine evOb (dqt (by omega)) (evOb (dqt (by rw [w1]; omega)) (evObc (evObt (evBr (fun hb => evNext ?_) (fun hb => evNext ?_)))))
  ·rw [w1] at hb
   simp only [Int.toNat_natCast] at hb
   rw [exB_true (p := outI f8) k (by omega) hb, cond_true]
   exact c44_1 n0 f0 n2 f2 n4 f4 n6 f6 n8 f8 _ 4 rfl
  ·rw [w1] at hb
   simp only [Int.toNat_natCast] at hb
   rw [w2]
   refine ih (by omega) (fun j h3 => ?_)
   by_cases e : j = k
   ·subst e; exact hb
   ·exact hj j (by omega)
 ·have e : k = n8 / 2 := by
   by_cases hh : ((2 * k : Nat) : Int) < (n8 : Int)
   ·rw [dqt hh] at h; cases h
   ·omega
  rw [show exB (n8 / 2) (outI f8) = false from exB_false fun j h => hj j (by omega)]
  exact evRet rfl
theorem c44_2 (n0 : Nat) (f0 : FnV) (n2 : Nat) (f2 : FnV) (n4 : Nat) (f4 : FnV) (n6 : Nat) (f6 : FnV) (n8 : Nat) (f8 : FnV) (hm : n8 % 2 = 0) (hn : n8 <= 100) (e : Int) : Ev (st44 n0 f0 n2 f2 n4 f4 n6 f6 n8 f8) (.L0 0 e) (.int .i64 (outs n8 f8 e)) := by
 unfold outs
 cases he : e == 0 with
 | false => exact c44_1 n0 f0 n2 f2 n4 f4 n6 f6 n8 f8 0 e he
 | true =>
   have : e = 0 := eq_of_beq he
   subst this
   exact c44_0 n0 f0 n2 f2 n4 f4 n6 f6 n8 f8 hm hn 0 (by omega) (fun j h => by omega)
theorem ev44_0 (n0 : Nat) (f0 : FnV) (n2 : Nat) (f2 : FnV) (n4 : Nat) (f4 : FnV) (n6 : Nat) (f6 : FnV) (n8 : Nat) (f8 : FnV) (hp : (SzOk n0 f0 /\ SzOk n6 f6) /\ n8 % 2 = 0 /\ n8 <= 100) : evR (Ev (st44 n0 f0 n2 f2 n4 f4 n6 f6 n8 f8)) (m44 n0 f0 n2 f2 n4 f4 n6 f6 n8 f8) (.int .i64 (F44 n0 f0 n2 f2 n4 f4 n6 f6 n8 f8)) := evObp hp.1 (evObt (evEnter (c44_2 n0 f0 n2 f2 n4 f4 n6 f6 n8 f8 hp.2.1 hp.2.2 _)))
theorem ev44 (n0 : Nat) (f0 : FnV) (n2 : Nat) (f2 : FnV) (n4 : Nat) (f4 : FnV) (n6 : Nat) (f6 : FnV) (n8 : Nat) (f8 : FnV) (hp : (SzOk n0 (elV tyR f0) /\ SzOk n6 (elV tyC f6)) /\ n8 % 2 = 0 /\ n8 <= 100) : evR (Ev (st44 n0 f0 n2 f2 n4 f4 n6 f6 n8 f8)) (m44 n0 f0 n2 f2 n4 f4 n6 f6 n8 f8) (.int .i64 (F44 n0 (elV tyR f0) n2 (elV tyT f2) n4 (elV tyF f4) n6 (elV tyC f6) n8 (elV tp1 f8))) := ev44_0 n0 f0 n2 f2 n4 f4 n6 f6 n8 f8 hp
def C44 : PCon := mkC [.agg [.sl tyR, .sl tyT, .sl tyF, .sl tyC], .sl tp1] (fun
 | [.agg [.sl n0 f0, .sl n2 f2, .sl n4 f4, .sl n6 f6], .sl n8 f8] => (SzOk n0 f0 /\ SzOk n6 f6) /\ n8 % 2 = 0 /\ n8 <= 100
 | _ => False) fun
 | [.agg [.sl n0 f0, .sl n2 f2, .sl n4 f4, .sl n6 f6], .sl n8 f8] => .int .i64 (F44 n0 f0 n2 f2 n4 f4 n6 f6 n8 f8)
 | _ => .any
theorem ok44 : (vP C44).Ok Tryz.prog 44 := mkE tabB13 Tryz.func44 (by kernel_rfl) fun ds hp => rfs (run44 ..) (ev44 _ _ _ _ _ _ _ _ _ _ hp)
def m91 (n0 : Nat) (f0 : FnV) (n2 : Nat) (f2 : FnV) (n4 : Nat) (f4 : FnV) (n6 : Nat) (f6 : FnV) : RT Empty := .obp ((∀ (i : Nat), i < n0 -> (sv (hdV (f0 i))).size <= (9223372036854775807 : Nat)) /\ ∀ (i : Nat), i < n6 -> (sv (hdV (f6 i))).size <= (9223372036854775807 : Nat)) (.obt (.ret (vi (F24_2 n0 (elV tyR f0) n2 (elV tyT f2) n4 (elV tyF f4) n6 (elV tyC f6)))))
theorem run91 (n0 : Nat) (f0 : FnV) (n2 : Nat) (f2 : FnV) (n4 : Nat) (f4 : FnV) (n6 : Nat) (f6 : FnV) : Fit noD (runL JJ ctB13 u0 s91 [scV n0 f0 n2 f2 n4 f4 n6 f6]) (m91 n0 f0 n2 f2 n4 f4 n6 f6) := ⟨by kernel_rfl, by kernel_rfl⟩
def F91_0 (n0 : Nat) (f0 : FnV) (n2 : Nat) (f2 : FnV) (n4 : Nat) (f4 : FnV) (n6 : Nat) (f6 : FnV) : Int := F24_2 n0 (elV tyR f0) n2 (elV tyT f2) n4 (elV tyF f4) n6 (elV tyC f6)
def R91 (n0 : Nat) (f0 : FnV) (n2 : Nat) (f2 : FnV) (n4 : Nat) (f4 : FnV) (n6 : Nat) (f6 : FnV) : V := .int i64 (F91_0 n0 f0 n2 f2 n4 f4 n6 f6)
theorem ev91 (n0 : Nat) (f0 : FnV) (n2 : Nat) (f2 : FnV) (n4 : Nat) (f4 : FnV) (n6 : Nat) (f6 : FnV) (hp : SzOk n0 f0 /\ SzOk n6 f6) : evR noE (m91 n0 f0 n2 f2 n4 f4 n6 f6) (R91 n0 f0 n2 f2 n4 f4 n6 f6) := evObp (by first | assumption | (exact hp)) (evObt (evRet (by unfold R91 F91_0; rfl)))
def C91 : PCon := mkC [.agg [.sl tyR, .sl tyT, .sl tyF, .sl tyC]] (fun
 | [.agg [.sl n0 f0, .sl n2 f2, .sl n4 f4, .sl n6 f6]] => SzOk n0 f0 /\ SzOk n6 f6
 | _ => False) fun
 | [.agg [.sl n0 f0, .sl n2 f2, .sl n4 f4, .sl n6 f6]] => R91 n0 f0 n2 f2 n4 f4 n6 f6
 | _ => .any
theorem ok91 : (vP C91).Ok Tryz.prog 91 := mkE tabB13 Tryz.func91 (by kernel_rfl) fun ds hp => rf0 (run91 ..) (ev91 _ _ _ _ _ _ _ _ hp)
end
noncomputable section
def ctB14 : CTab := (44, .con C44) :: (91, .con C91) :: ctB13
theorem tabB14 : TabOk Tryz.prog eqs its ctB14 := .con ok44 (.con ok91 (tabB13))
def m50 (n0 : Nat) (f0 : FnV) (n2 : Nat) (f2 : FnV) (n4 : Nat) (f4 : FnV) (n6 : Nat) (f6 : FnV) (x8 x9 : Int) : RT Empty := .obp ((∀ (i : Nat), i < n0 -> (sv (hdV (f0 i))).size <= (9223372036854775807 : Nat)) /\ ∀ (i : Nat), i < n6 -> (sv (hdV (f6 i))).size <= (9223372036854775807 : Nat)) (.obt (.obi (.obi (.obi (.obi (.obi (.obi (.obi (.br (bif F91_0 n0 (elV tyR f0) n2 (elV tyT f2) n4 (elV tyF f4) n6 (elV tyC f6) == 0 then bif decide (x8 < 0) then true else decide (x9 <= x8) else false) (.ret (vi 4)) (.ret (vi (F91_0 n0 (elV tyR f0) n2 (elV tyT f2) n4 (elV tyF f4) n6 (elV tyC f6)))))))))))))
theorem run50 (n0 : Nat) (f0 : FnV) (n2 : Nat) (f2 : FnV) (n4 : Nat) (f4 : FnV) (n6 : Nat) (f6 : FnV) (x8 x9 : Int) : Fit noD (runL JJ ctB14 u0 s50 [scV n0 f0 n2 f2 n4 f4 n6 f6, vi x8, vi x9]) (m50 n0 f0 n2 f2 n4 f4 n6 f6 x8 x9) := ⟨by kernel_rfl, by kernel_rfl⟩
def F50_0 (n0 : Nat) (f0 : FnV) (n2 : Nat) (f2 : FnV) (n4 : Nat) (f4 : FnV) (n6 : Nat) (f6 : FnV) (x8 x9 : Int) : Int := bif bif F91_0 n0 (elV tyR f0) n2 (elV tyT f2) n4 (elV tyF f4) n6 (elV tyC f6) == 0 then bif decide (x8 < 0) then true else decide (x9 <= x8) else false then 4 else F91_0 n0 (elV tyR f0) n2 (elV tyT f2) n4 (elV tyF f4) n6 (elV tyC f6)
def R50 (n0 : Nat) (f0 : FnV) (n2 : Nat) (f2 : FnV) (n4 : Nat) (f4 : FnV) (n6 : Nat) (f6 : FnV) (x8 x9 : Int) : V := .int i64 (F50_0 n0 f0 n2 f2 n4 f4 n6 f6 x8 x9)
theorem ev50 (n0 : Nat) (f0 : FnV) (n2 : Nat) (f2 : FnV) (n4 : Nat) (f4 : FnV) (n6 : Nat) (f6 : FnV) (x8 x9 : Int) (hp : SzOk n0 f0 /\ SzOk n6 f6) : evR noE (m50 n0 f0 n2 f2 n4 f4 n6 f6 x8 x9) (R50 n0 f0 n2 f2 n4 f4 n6 f6 x8 x9) := evObp (by first | assumption | (exact hp)) (evObt (evObi (evObi (evObi (evObi (evObi (evObi (evObi (evBr (fun h0 => evRet (by unfold R50 F50_0; try rw [h0]; rfl)) (fun h0 => evRet (by unfold R50 F50_0; try rw [h0]; rfl)))))))))))
def C50 : PCon := mkC [.agg [.sl tyR, .sl tyT, .sl tyF, .sl tyC], .int .i64, .int .i64] (fun
 | [.agg [.sl n0 f0, .sl n2 f2, .sl n4 f4, .sl n6 f6], .int _ x8, .int _ x9] => SzOk n0 f0 /\ SzOk n6 f6
 | _ => False) fun
 | [.agg [.sl n0 f0, .sl n2 f2, .sl n4 f4, .sl n6 f6], .int _ x8, .int _ x9] => R50 n0 f0 n2 f2 n4 f4 n6 f6 x8 x9
 | _ => .any
theorem ok50 : (vP C50).Ok Tryz.prog 50 := mkE tabB14 Tryz.func50 (by kernel_rfl) fun ds hp => rf0 (run50 ..) (ev50 _ _ _ _ _ _ _ _ _ _ hp)
end
end Go.Dx
namespace Go.Dx
open Go.IntKind (i64 u64 u8)
open Go.Sx
noncomputable section
theorem outI_in {i : Int} {m : Nat} {f8 : Nat -> List V} {k : Nat} (hm : m <= 9223372036854775807) (h1 : jv0 (f8 (2 * k)) = i) (h2 : jv0 (f8 (2 * k + 1)) = (m : Int)) (h : outI f8 k = false) : 0 <= i /\ i < m := by
 unfold outI F86_0 at h
 rw [h1, h2, wrapI (by omega) (by omega)] at h
 cases hb : decide (i < 0) with
 | true => rw [hb] at h; cases h
 | false =>
   rw [hb, cond_false] at h
   have a := of_decide_eq_false hb
   have b := of_decide_eq_false h
   omega
theorem outs_in {n8 : Nat} {f8 : Nat -> List V} {e : Int} (h : outs n8 f8 e = 0) : e = 0 /\ ∀ k, k < n8 / 2 -> outI f8 k = false := by
 unfold outs at h
 cases he : e == 0 with
 | false =>
   rw [he, cond_false] at h
   subst h; cases he
 | true =>
   rw [he, cond_true] at h
   refine ⟨eq_of_beq he, fun k hk => ?_⟩
   cases ho : outI f8 k with
   | false => rfl
   | true => rw [exB_true k hk ho] at h; cases h
section
variable {n0 : Nat} {f0 : Nat -> List V} {n2 : Nat} {f2 : Nat -> List V} {n4 : Nat} {f4 : Nat -> List V} {n6 : Nat} {f6 : Nat -> List V} {i j : Int} {m l : Nat}
theorem k44_2 (hm : m <= 9223372036854775807) (h : F44 n0 f0 n2 f2 n4 f4 n6 f6 2 (elV tp1 (secF [vi i, vi m] 0 1)) = 0) : 0 <= i /\ i < m :=
 outI_in (k := 0) hm rfl rfl ((outs_in h).2 0 (by omega))
theorem k44_4 (hm : m <= 9223372036854775807) (hl : l <= 9223372036854775807) (h : F44 n0 f0 n2 f2 n4 f4 n6 f6 4 (elV tp1 (secF [vi i, vi m, vi j, vi l] 0 1)) = 0) : (0 <= i /\ i < m) /\ (0 <= j /\ j < l) :=
 ⟨outI_in (k := 0) hm rfl rfl ((outs_in h).2 0 (by omega)), outI_in (k := 1) hl rfl rfl ((outs_in h).2 1 (by omega))⟩
theorem k50 (h : F50_0 n0 f0 n2 f2 n4 f4 n6 f6 i j = 0) : 0 <= i /\ i < j := by
 unfold F50_0 at h
 generalize F91_0 _ _ _ _ _ _ _ _ = e at h
 cases he : e == 0 with
 | false => rw [he] at h; simp only [cond_false] at h; subst h; cases he
 | true =>
   rw [he, cond_true] at h
   cases hb : decide (i < 0) with
   | true => rw [hb] at h; cases h
   | false =>
     rw [hb, cond_false] at h
     cases hc : decide (j <= i) with
     | true => rw [hc] at h; cases h
     | false => have := of_decide_eq_false hb; have := of_decide_eq_false hc; omega
end
end
end Go.Dx
namespace Go.Dx
open Go.IntKind (i64 u64 u8)
open Go.Sx Go.Proofs
noncomputable section
def ctB15 : CTab := (50, .con C50) :: ctB14
theorem tabB15 : TabOk Tryz.prog eqs its ctB15 := .con ok50 (tabB14)
attribute [local irreducible] F44 F50_0 F91_0
end
end Go.Dx
namespace Go.Dx
open Go.IntKind (i64 u64 u8)
open Go.Sx Go.Proofs
noncomputable section
def ctB16 : CTab := ctB15
theorem tabB16 : TabOk Tryz.prog eqs its ctB16 := tabB15
def m140 (x0 x1 x2 x3 : Int) : RT Empty := .br (x0 != x2) (.ret (vi (i64.wrap (x0 - x2)))) (.ret (vi (i64.wrap (x1 - x3))))
theorem run140 (x0 x1 x2 x3 : Int) : Fit noD (runL JJ ctB16 u0 s140 [V.agg [vi x0, vi x1], V.agg [vi x2, vi x3]]) (m140 x0 x1 x2 x3) := ⟨by kernel_rfl, by kernel_rfl⟩
def F140_0 (x0 x1 x2 x3 : Int) : Int := bif x0 != x2 then i64.wrap (x0 - x2) else i64.wrap (x1 - x3)
def R140 (x0 x1 x2 x3 : Int) : V := .int i64 (F140_0 x0 x1 x2 x3)
theorem ev140 (x0 x1 x2 x3 : Int) : evR noE (m140 x0 x1 x2 x3) (R140 x0 x1 x2 x3) := evBr (fun h0 => evRet (by unfold R140 F140_0; try rw [h0]; rfl)) (fun h0 => evRet (by unfold R140 F140_0; try rw [h0]; rfl))
def C140 : PCon := mkC [.agg tp2, .agg tp2] (fun _ => True) fun
 | [.agg [.int _ x0, .int _ x1], .agg [.int _ x2, .int _ x3]] => R140 x0 x1 x2 x3
 | _ => .any
theorem ok140 : (vP C140).Ok Tryz.prog 140 := mkE tabB16 Tryz.func140 (by kernel_rfl) fun ds hp => rf0 (run140 ..) (ev140 _ _ _ _)
def m49 (x0 x1 x2 x3 x4 x5 x6 x7 : Int) (b8 : Bool) (x9 x10 : Int) : RT Empty := .obi (.br (!b8) (.ob (!b8) (.ob (!b8) (.ob (!b8) (.obc (.obt (.obc (.obt (.obc (.obt (.ret (V.bool (F103_0 (F102_0 x0 x2 x9 x3) (F102_1 x1 x2 x10 x3) (F102_0 x0 x2 x9 x4) (F102_1 x1 x2 x10 x4) x5 x6 x7)))))))))))) (.ret (V.kb false)))
theorem run49 (x0 x1 x2 x3 x4 x5 x6 x7 : Int) (b8 : Bool) (x9 x10 : Int) : Fit noD (runL JJ ctB16 u0 s49 [V.agg [vi x0, vi x1, vi x2, vi x3, vi x4, vi x5, vi x6, vi x7, V.bool b8], V.agg [vi x9, vi x10]]) (m49 x0 x1 x2 x3 x4 x5 x6 x7 b8 x9 x10) := ⟨by kernel_rfl, by kernel_rfl⟩
def F49_0 (x0 x1 x2 x3 x4 x5 x6 x7 : Int) (b8 : Bool) (x9 x10 : Int) : Bool := bif !b8 then F103_0 (F102_0 x0 x2 x9 x3) (F102_1 x1 x2 x10 x3) (F102_0 x0 x2 x9 x4) (F102_1 x1 x2 x10 x4) x5 x6 x7 else false
def R49 (x0 x1 x2 x3 x4 x5 x6 x7 : Int) (b8 : Bool) (x9 x10 : Int) : V := .bool (F49_0 x0 x1 x2 x3 x4 x5 x6 x7 b8 x9 x10)
theorem ev49 (x0 x1 x2 x3 x4 x5 x6 x7 : Int) (b8 : Bool) (x9 x10 : Int) : evR noE (m49 x0 x1 x2 x3 x4 x5 x6 x7 b8 x9 x10) (R49 x0 x1 x2 x3 x4 x5 x6 x7 b8 x9 x10) := evObi (evBr (fun h0 => evOb (by first | assumption | (fail)) (evOb (by first | assumption | (fail)) (evOb (by first | assumption | (fail)) (evObc (evObt (evObc (evObt (evObc (evObt (evRet (by unfold R49 F49_0; try rw [h0]; rfl))))))))))) (fun h0 => evRet (by unfold R49 F49_0; try rw [h0]; rfl)))
def C49 : PCon := mkC [.agg [.int .i64, .int .i64, .int .i64, .int .i64, .int .i64, .int .i64, .int .i64, .int .i64, .bool], .agg tp2] (fun _ => True) fun
 | [.agg [.int _ x0, .int _ x1, .int _ x2, .int _ x3, .int _ x4, .int _ x5, .int _ x6, .int _ x7, .bool b8], .agg [.int _ x9, .int _ x10]] => R49 x0 x1 x2 x3 x4 x5 x6 x7 b8 x9 x10
 | _ => .any
theorem ok49 : (vP C49).Ok Tryz.prog 49 := mkE tabB16 Tryz.func49 (by kernel_rfl) fun ds hp => rf0 (run49 ..) (ev49 _ _ _ _ _ _ _ _ _ _ _)
def m123 (x0 x1 x2 x3 x4 x5 x6 : Int) : RT Empty := .obc (.obt (.ret (V.bool (F103_0 x0 x1 x2 x3 (i64.wrap (2 * x5)) (i64.wrap (2 * x6)) x4))))
theorem run123 (x0 x1 x2 x3 x4 x5 x6 : Int) : Fit noD (runL JJ ctB16 u0 s123 [V.agg [vi x0, vi x1, vi x2, vi x3, vi x4], vi x5, vi x6]) (m123 x0 x1 x2 x3 x4 x5 x6) := ⟨by kernel_rfl, by kernel_rfl⟩
def F123_0 (x0 x1 x2 x3 x4 x5 x6 : Int) : Bool := F103_0 x0 x1 x2 x3 (i64.wrap (2 * x5)) (i64.wrap (2 * x6)) x4
def R123 (x0 x1 x2 x3 x4 x5 x6 : Int) : V := .bool (F123_0 x0 x1 x2 x3 x4 x5 x6)
theorem ev123 (x0 x1 x2 x3 x4 x5 x6 : Int) : evR noE (m123 x0 x1 x2 x3 x4 x5 x6) (R123 x0 x1 x2 x3 x4 x5 x6) := evObc (evObt (evRet (by unfold R123 F123_0; rfl)))
def C123 : PCon := mkC [.agg tyT, .int .i64, .int .i64] (fun _ => True) fun
 | [.agg [.int _ x0, .int _ x1, .int _ x2, .int _ x3, .int _ x4], .int _ x5, .int _ x6] => R123 x0 x1 x2 x3 x4 x5 x6
 | _ => .any
theorem ok123 : (vP C123).Ok Tryz.prog 123 := mkE tabB16 Tryz.func123 (by kernel_rfl) fun ds hp => rf0 (run123 ..) (ev123 _ _ _ _ _ _ _)
end
noncomputable section
def ctB16a : CTab := (140, .con C140) :: (49, .con C49) :: (123, .con C123) :: ctB16
theorem tabB16a : TabOk Tryz.prog eqs its ctB16a := .con ok140 (.con ok49 (.con ok123 (tabB16)))
def u5 : Unr := fun _ => 5
def m145 (x0 x1 x2 x3 x4 x5 x6 x7 x8 : Int) : RT Empty := .obi (.obi (.obi (.obi (.obi (.obi (.obi (.obi (.obi (.obi (.obi (.obi (.obi (.obi (.obi (.obi (.obi (.obi (.obi (.obi (.obi (.obi (.obi (.obi (.obi (.obi (.obi (.obi (.obi (.obi (.obi (.obi (.obi (.obi (.obi (.obi (.obi (.obi (.obi (.br (bif bif bif decide (max x0 x2 < i64.wrap (2 * x5)) then true else decide (i64.wrap (2 * x7) < min x0 x2) then true else decide (max x1 x3 < i64.wrap (2 * x6)) then true else decide (i64.wrap (2 * x8) < min x1 x3)) (.ret (V.kb false)) (.obc (.obt (.brt (.obt (.obc (.obt (.obc (.obt (.brt (.obt (.obc (.obt (.obc (.obt (.obi (.obi (.obi (.obi (.brt (.obt (.obc (.obt (.obc (.obt (.obi (.obi (.obi (.obi (.brt (.obt (.obc (.obt (.obc (.obt (.obi (.obi (.obi (.obi (.brf (.obi (.ret (V.bool (bif bif bif bif decide (0 <= F78_0 x0 x1 x2 x3 (F101_0 x5 2) (F101_1 x6 2)) then true else decide (0 <= F78_0 x0 x1 x2 x3 (F101_0 x7 2) (F101_1 x6 2)) then true else decide (0 <= F78_0 x0 x1 x2 x3 (F101_0 x7 2) (F101_1 x8 2)) then true else decide (0 <= F78_0 x0 x1 x2 x3 (F101_0 x5 2) (F101_1 x8 2)) then bif bif bif decide (F78_0 x0 x1 x2 x3 (F101_0 x5 2) (F101_1 x6 2) <= 0) then true else decide (F78_0 x0 x1 x2 x3 (F101_0 x7 2) (F101_1 x6 2) <= 0) then true else decide (F78_0 x0 x1 x2 x3 (F101_0 x7 2) (F101_1 x8 2) <= 0) then true else decide (F78_0 x0 x1 x2 x3 (F101_0 x5 2) (F101_1 x8 2) <= 0) else false))))))))))))))))))))))))))))))))))))))))))))))))))))))))))))))))))))))))))))))))))
theorem run145 (x0 x1 x2 x3 x4 x5 x6 x7 x8 : Int) : Fit noD (runL JJ ctB16a u5 s145 [V.agg [vi x0, vi x1, vi x2, vi x3, vi x4], V.agg [vi x5, vi x6, vi x7, vi x8]]) (m145 x0 x1 x2 x3 x4 x5 x6 x7 x8) := ⟨by kernel_rfl, by kernel_rfl⟩
def F145_0 (x0 x1 x2 x3 x5 x6 x7 x8 : Int) : Bool := bif bif bif bif decide (max x0 x2 < i64.wrap (2 * x5)) then true else decide (i64.wrap (2 * x7) < min x0 x2) then true else decide (max x1 x3 < i64.wrap (2 * x6)) then true else decide (i64.wrap (2 * x8) < min x1 x3) then false else bif bif bif bif decide (0 <= F78_0 x0 x1 x2 x3 (F101_0 x5 2) (F101_1 x6 2)) then true else decide (0 <= F78_0 x0 x1 x2 x3 (F101_0 x7 2) (F101_1 x6 2)) then true else decide (0 <= F78_0 x0 x1 x2 x3 (F101_0 x7 2) (F101_1 x8 2)) then true else decide (0 <= F78_0 x0 x1 x2 x3 (F101_0 x5 2) (F101_1 x8 2)) then bif bif bif decide (F78_0 x0 x1 x2 x3 (F101_0 x5 2) (F101_1 x6 2) <= 0) then true else decide (F78_0 x0 x1 x2 x3 (F101_0 x7 2) (F101_1 x6 2) <= 0) then true else decide (F78_0 x0 x1 x2 x3 (F101_0 x7 2) (F101_1 x8 2) <= 0) then true else decide (F78_0 x0 x1 x2 x3 (F101_0 x5 2) (F101_1 x8 2) <= 0) else false
def R145 (x0 x1 x2 x3 x4 x5 x6 x7 x8 : Int) : V := .bool (F145_0 x0 x1 x2 x3 x5 x6 x7 x8)
theorem ev145 (x0 x1 x2 x3 x4 x5 x6 x7 x8 : Int) : evR noE (m145 x0 x1 x2 x3 x4 x5 x6 x7 x8) (R145 x0 x1 x2 x3 x4 x5 x6 x7 x8) := evObi (evObi (evObi (evObi (evObi (evObi (evObi (evObi (evObi (evObi (evObi (evObi (evObi (evObi (evObi (evObi (evObi (evObi (evObi (evObi (evObi (evObi (evObi (evObi (evObi (evObi (evObi (evObi (evObi (evObi (evObi (evObi (evObi (evObi (evObi (evObi (evObi (evObi (evObi (evBr (fun h0 => evRet (by unfold R145 F145_0; try rw [h0]; rfl)) (fun h0 => evObc (evObt (evBrt (evObt (evObc (evObt (evObc (evObt (evBrt (evObt (evObc (evObt (evObc (evObt (evObi (evObi (evObi (evObi (evBrt (evObt (evObc (evObt (evObc (evObt (evObi (evObi (evObi (evObi (evBrt (evObt (evObc (evObt (evObc (evObt (evObi (evObi (evObi (evObi (evBrf (evObi (evRet (by unfold R145 F145_0; try rw [h0]; rfl)))))))))))))))))))))))))))))))))))))))))))))))))))))))))))))))))))))))))))))))))
def C145 : PCon := mkC [.agg tyT, .agg tp4] (fun _ => True) fun
 | [.agg [.int _ x0, .int _ x1, .int _ x2, .int _ x3, .int _ x4], .agg [.int _ x5, .int _ x6, .int _ x7, .int _ x8]] => R145 x0 x1 x2 x3 x4 x5 x6 x7 x8
 | _ => .any
theorem ok145 : (vP C145).Ok Tryz.prog 145 := mkE tabB16a Tryz.func145 (by kernel_rfl) fun ds hp => rf0 (run145 ..) (ev145 _ _ _ _ _ _ _ _ _)
end
noncomputable section
def ctB16b : CTab := (145, .con C145) :: ctB16a
theorem tabB16b : TabOk Tryz.prog eqs its ctB16b := .con ok145 (tabB16a)
def m111 (x0 x1 x2 x3 x4 x5 x6 x7 x8 : Int) : RT Empty := .obc (.obt (.brt (.obt (.obc (.obt (.br (F123_0 x0 x1 x2 x3 x4 x5 x6) (.brt (.obt (.obc (.obt (.br (F123_0 x0 x1 x2 x3 x4 x7 x6) (.brt (.obt (.obc (.obt (.br (F123_0 x0 x1 x2 x3 x4 x7 x8) (.brt (.obt (.obc (.obt (.br (F123_0 x0 x1 x2 x3 x4 x5 x8) (.brf (.brt (.ret (vi 2)))) (.brf (.brf (.brt (.ret (vi 1)))))))))) (.brt (.obt (.obc (.obt (.br (F123_0 x0 x1 x2 x3 x4 x5 x8) (.brf (.brf (.brt (.ret (vi 1))))) (.brf (.brf (.brt (.ret (vi 1))))))))))))))) (.brt (.obt (.obc (.obt (.br (F123_0 x0 x1 x2 x3 x4 x7 x8) (.brt (.obt (.obc (.obt (.br (F123_0 x0 x1 x2 x3 x4 x5 x8) (.brf (.brf (.brt (.ret (vi 1))))) (.brf (.brf (.brt (.ret (vi 1)))))))))) (.brt (.obt (.obc (.obt (.br (F123_0 x0 x1 x2 x3 x4 x5 x8) (.brf (.brf (.brt (.ret (vi 1))))) (.brf (.brf (.brt (.ret (vi 1)))))))))))))))))))) (.brt (.obt (.obc (.obt (.br (F123_0 x0 x1 x2 x3 x4 x7 x6) (.brt (.obt (.obc (.obt (.br (F123_0 x0 x1 x2 x3 x4 x7 x8) (.brt (.obt (.obc (.obt (.br (F123_0 x0 x1 x2 x3 x4 x5 x8) (.brf (.brf (.brt (.ret (vi 1))))) (.brf (.brf (.brt (.ret (vi 1)))))))))) (.brt (.obt (.obc (.obt (.br (F123_0 x0 x1 x2 x3 x4 x5 x8) (.brf (.brf (.brt (.ret (vi 1))))) (.brf (.brf (.brt (.ret (vi 1))))))))))))))) (.brt (.obt (.obc (.obt (.br (F123_0 x0 x1 x2 x3 x4 x7 x8) (.brt (.obt (.obc (.obt (.br (F123_0 x0 x1 x2 x3 x4 x5 x8) (.brf (.brf (.brt (.ret (vi 1))))) (.brf (.brf (.brt (.ret (vi 1)))))))))) (.brt (.obt (.obc (.obt (.br (F123_0 x0 x1 x2 x3 x4 x5 x8) (.brf (.brf (.brt (.ret (vi 1))))) (.brf (.brf (.brf (.brt (.obt (.obc (.obt (.br (decide (F85_0 (max (max (i64.wrap (i64.wrap (2 * x5) - x0)) 0) (i64.wrap (x0 - i64.wrap (2 * x7)))) (max (max (i64.wrap (i64.wrap (2 * x6) - x1)) 0) (i64.wrap (x1 - i64.wrap (2 * x8)))) (max (max (i64.wrap (i64.wrap (2 * x5) - x0)) 0) (i64.wrap (x0 - i64.wrap (2 * x7)))) (max (max (i64.wrap (i64.wrap (2 * x6) - x1)) 0) (i64.wrap (x1 - i64.wrap (2 * x8)))) <= i64.wrap (x4 * x4))) (.ret (vi 1)) (.brt (.obt (.obc (.obt (.br (decide (F85_0 (max (max (i64.wrap (i64.wrap (2 * x5) - x2)) 0) (i64.wrap (x2 - i64.wrap (2 * x7)))) (max (max (i64.wrap (i64.wrap (2 * x6) - x3)) 0) (i64.wrap (x3 - i64.wrap (2 * x8)))) (max (max (i64.wrap (i64.wrap (2 * x5) - x2)) 0) (i64.wrap (x2 - i64.wrap (2 * x7)))) (max (max (i64.wrap (i64.wrap (2 * x6) - x3)) 0) (i64.wrap (x3 - i64.wrap (2 * x8)))) <= i64.wrap (x4 * x4))) (.ret (vi 1)) (.brf (.obc (.obt (.br (F145_0 x0 x1 x2 x3 x5 x6 x7 x8) (.ret (vi 1)) (.ret (vi 0))))))))))))))))))))))))))))))))))))))))
theorem run111 (x0 x1 x2 x3 x4 x5 x6 x7 x8 : Int) : Fit noD (runL JJ ctB16b u5 s111 [V.agg [vi x0, vi x1, vi x2, vi x3, vi x4], V.agg [vi x5, vi x6, vi x7, vi x8]]) (m111 x0 x1 x2 x3 x4 x5 x6 x7 x8) := ⟨by kernel_rfl, by kernel_rfl⟩
def F111_0 (x0 x1 x2 x3 x4 x5 x6 x7 x8 : Int) : Int := bif F123_0 x0 x1 x2 x3 x4 x5 x6 then bif F123_0 x0 x1 x2 x3 x4 x7 x6 then bif F123_0 x0 x1 x2 x3 x4 x7 x8 then bif F123_0 x0 x1 x2 x3 x4 x5 x8 then 2 else 1 else 1 else 1 else bif F123_0 x0 x1 x2 x3 x4 x7 x6 then 1 else bif F123_0 x0 x1 x2 x3 x4 x7 x8 then 1 else bif F123_0 x0 x1 x2 x3 x4 x5 x8 then 1 else bif decide (F85_0 (max (max (i64.wrap (i64.wrap (2 * x5) - x0)) 0) (i64.wrap (x0 - i64.wrap (2 * x7)))) (max (max (i64.wrap (i64.wrap (2 * x6) - x1)) 0) (i64.wrap (x1 - i64.wrap (2 * x8)))) (max (max (i64.wrap (i64.wrap (2 * x5) - x0)) 0) (i64.wrap (x0 - i64.wrap (2 * x7)))) (max (max (i64.wrap (i64.wrap (2 * x6) - x1)) 0) (i64.wrap (x1 - i64.wrap (2 * x8)))) <= i64.wrap (x4 * x4)) then 1 else bif decide (F85_0 (max (max (i64.wrap (i64.wrap (2 * x5) - x2)) 0) (i64.wrap (x2 - i64.wrap (2 * x7)))) (max (max (i64.wrap (i64.wrap (2 * x6) - x3)) 0) (i64.wrap (x3 - i64.wrap (2 * x8)))) (max (max (i64.wrap (i64.wrap (2 * x5) - x2)) 0) (i64.wrap (x2 - i64.wrap (2 * x7)))) (max (max (i64.wrap (i64.wrap (2 * x6) - x3)) 0) (i64.wrap (x3 - i64.wrap (2 * x8)))) <= i64.wrap (x4 * x4)) then 1 else bif F145_0 x0 x1 x2 x3 x5 x6 x7 x8 then 1 else 0
def R111 (x0 x1 x2 x3 x4 x5 x6 x7 x8 : Int) : V := .int i64 (F111_0 x0 x1 x2 x3 x4 x5 x6 x7 x8)
theorem ev111 (x0 x1 x2 x3 x4 x5 x6 x7 x8 : Int) : evR noE (m111 x0 x1 x2 x3 x4 x5 x6 x7 x8) (R111 x0 x1 x2 x3 x4 x5 x6 x7 x8) := evObc (evObt (evBrt (evObt (evObc (evObt (evBr (fun h0 => evBrt (evObt (evObc (evObt (evBr (fun h1 => evBrt (evObt (evObc (evObt (evBr (fun h2 => evBrt (evObt (evObc (evObt (evBr (fun h3 => evBrf (evBrt (evRet (by unfold R111 F111_0; try rw [h0]; try rw [h1]; try rw [h2]; try rw [h3]; rfl)))) (fun h3 => evBrf (evBrf (evBrt (evRet (by unfold R111 F111_0; try rw [h0]; try rw [h1]; try rw [h2]; try rw [h3]; rfl)))))))))) (fun h2 => evBrt (evObt (evObc (evObt (evBr (fun h3 => evBrf (evBrf (evBrt (evRet (by unfold R111 F111_0; try rw [h0]; try rw [h1]; try rw [h2]; try rw [h3]; rfl))))) (fun h3 => evBrf (evBrf (evBrt (evRet (by unfold R111 F111_0; try rw [h0]; try rw [h1]; try rw [h2]; try rw [h3]; rfl))))))))))))))) (fun h1 => evBrt (evObt (evObc (evObt (evBr (fun h2 => evBrt (evObt (evObc (evObt (evBr (fun h3 => evBrf (evBrf (evBrt (evRet (by unfold R111 F111_0; try rw [h0]; try rw [h1]; try rw [h2]; try rw [h3]; rfl))))) (fun h3 => evBrf (evBrf (evBrt (evRet (by unfold R111 F111_0; try rw [h0]; try rw [h1]; try rw [h2]; try rw [h3]; rfl)))))))))) (fun h2 => evBrt (evObt (evObc (evObt (evBr (fun h3 => evBrf (evBrf (evBrt (evRet (by unfold R111 F111_0; try rw [h0]; try rw [h1]; try rw [h2]; try rw [h3]; rfl))))) (fun h3 => evBrf (evBrf (evBrt (evRet (by unfold R111 F111_0; try rw [h0]; try rw [h1]; try rw [h2]; try rw [h3]; rfl)))))))))))))))))))) (fun h0 => evBrt (evObt (evObc (evObt (evBr (fun h1 => evBrt (evObt (evObc (evObt (evBr (fun h2 => evBrt (evObt (evObc (evObt (evBr (fun h3 => evBrf (evBrf (evBrt (evRet (by unfold R111 F111_0; try rw [h0]; try rw [h1]; try rw [h2]; try rw [h3]; rfl))))) (fun h3 => evBrf (evBrf (evBrt (evRet (by unfold R111 F111_0; try rw [h0]; try rw [h1]; try rw [h2]; try rw [h3]; rfl)))))))))) (fun h2 => evBrt (evObt (evObc (evObt (evBr (fun h3 => evBrf (evBrf (evBrt (evRet (by unfold R111 F111_0; try rw [h0]; try rw [h1]; try rw [h2]; try rw [h3]; rfl))))) (fun h3 => evBrf (evBrf (evBrt (evRet (by unfold R111 F111_0; try rw [h0]; try rw [h1]; try rw [h2]; try rw [h3]; rfl))))))))))))))) (fun h1 => evBrt (evObt (evObc (evObt (evBr (fun h2 => evBrt (evObt (evObc (evObt (evBr (fun h3 => evBrf (evBrf (evBrt (evRet (by unfold R111 F111_0; try rw [h0]; try rw [h1]; try rw [h2]; try rw [h3]; rfl))))) (fun h3 => evBrf (evBrf (evBrt (evRet (by unfold R111 F111_0; try rw [h0]; try rw [h1]; try rw [h2]; try rw [h3]; rfl)))))))))) (fun h2 => evBrt (evObt (evObc (evObt (evBr (fun h3 => evBrf (evBrf (evBrt (evRet (by unfold R111 F111_0; try rw [h0]; try rw [h1]; try rw [h2]; try rw [h3]; rfl))))) (fun h3 => evBrf (evBrf (evBrf (evBrt (evObt (evObc (evObt (evBr (fun h4 => evRet (by unfold R111 F111_0; try rw [h0]; try rw [h1]; try rw [h2]; try rw [h3]; try rw [h4]; rfl)) (fun h4 => evBrt (evObt (evObc (evObt (evBr (fun h5 => evRet (by unfold R111 F111_0; try rw [h0]; try rw [h1]; try rw [h2]; try rw [h3]; try rw [h4]; try rw [h5]; rfl)) (fun h5 => evBrf (evObc (evObt (evBr (fun h6 => evRet (by unfold R111 F111_0; try rw [h0]; try rw [h1]; try rw [h2]; try rw [h3]; try rw [h4]; try rw [h5]; try rw [h6]; rfl)) (fun h6 => evRet (by unfold R111 F111_0; try rw [h0]; try rw [h1]; try rw [h2]; try rw [h3]; try rw [h4]; try rw [h5]; try rw [h6]; rfl))))))))))))))))))))))))))))))))))))))))
def C111 : PCon := mkC [.agg tyT, .agg tp4] (fun _ => True) fun
 | [.agg [.int _ x0, .int _ x1, .int _ x2, .int _ x3, .int _ x4], .agg [.int _ x5, .int _ x6, .int _ x7, .int _ x8]] => R111 x0 x1 x2 x3 x4 x5 x6 x7 x8
 | _ => .any
theorem ok111 : (vP C111).Ok Tryz.prog 111 := mkE tabB16b Tryz.func111 (by kernel_rfl) fun ds hp => rf0 (run111 ..) (ev111 _ _ _ _ _ _ _ _ _)
def m56 (x0 x1 x2 x3 x4 x5 x6 x7 x8 x9 : Int) (b10 : Bool) : RT Empty := .obc (.obt (.ret (V.bool !F49_0 x2 x3 x4 x5 x6 x7 x8 x9 b10 x0 x1)))
theorem run56 (x0 x1 x2 x3 x4 x5 x6 x7 x8 x9 : Int) (b10 : Bool) : Fit noD (runL JJ ctB16b u0 s56 [V.agg [vi x0, vi x1], V.pd [vi x2, vi x3, vi x4, vi x5, vi x6, vi x7, vi x8, vi x9, V.bool b10]]) (m56 x0 x1 x2 x3 x4 x5 x6 x7 x8 x9 b10) := ⟨by kernel_rfl, by kernel_rfl⟩
def F56_0 (x0 x1 x2 x3 x4 x5 x6 x7 x8 x9 : Int) (b10 : Bool) : Bool := !F49_0 x2 x3 x4 x5 x6 x7 x8 x9 b10 x0 x1
def R56 (x0 x1 x2 x3 x4 x5 x6 x7 x8 x9 : Int) (b10 : Bool) : V := .bool (F56_0 x0 x1 x2 x3 x4 x5 x6 x7 x8 x9 b10)
theorem ev56 (x0 x1 x2 x3 x4 x5 x6 x7 x8 x9 : Int) (b10 : Bool) : evR noE (m56 x0 x1 x2 x3 x4 x5 x6 x7 x8 x9 b10) (R56 x0 x1 x2 x3 x4 x5 x6 x7 x8 x9 b10) := evObc (evObt (evRet (by unfold R56 F56_0; rfl)))
def C56 : PCon := mkC [.agg tp2, .pd [.int .i64, .int .i64, .int .i64, .int .i64, .int .i64, .int .i64, .int .i64, .int .i64, .bool]] (fun _ => True) fun
 | [.agg [.int _ x0, .int _ x1], .pd [.int _ x2, .int _ x3, .int _ x4, .int _ x5, .int _ x6, .int _ x7, .int _ x8, .int _ x9, .bool b10]] => R56 x0 x1 x2 x3 x4 x5 x6 x7 x8 x9 b10
 | _ => .any
theorem ok56 : (vP C56).Ok Tryz.prog 56 := mkE tabB16b Tryz.func56 (by kernel_rfl) fun ds hp => rf0 (run56 ..) (ev56 _ _ _ _ _ _ _ _ _ _ _)
def m47 (x0 x1 x2 x3 x4 : Int) (n5 : Nat) (f5 : FnV) (n7 : Nat) (f7 : FnV) (n9 : Nat) (f9 : FnV) (n11 : Nat) (f11 : FnV) (x13 x14 x15 : Int) : RT Empty := .ob (decide (0 <= x13 /\ x13 < (↑n11 : Int))) (.obc (.obt (.obc (.obt (.ret (V.bool (F49_0 (jv1 (f11 x13.toNat)) (jv2 (f11 x13.toNat)) (jv3 (f11 x13.toNat)) (F48_0 (jv3 (f11 x13.toNat)) x4) (F48_1 (jv3 (f11 x13.toNat)) x3) (F48_2 (jv3 (f11 x13.toNat)) x0) (F48_3 (jv3 (f11 x13.toNat)) x1) (F48_4 (jv3 (f11 x13.toNat)) x2) (F48_5 (jv3 (f11 x13.toNat)) x3) x14 x15)))))))
theorem run47 (x0 x1 x2 x3 x4 : Int) (n5 : Nat) (f5 : FnV) (n7 : Nat) (f7 : FnV) (n9 : Nat) (f9 : FnV) (n11 : Nat) (f11 : FnV) (x13 x14 x15 : Int) : Fit noD (runL JJ ctB16b u0 s47 [V.agg [vi x0, vi x1, vi x2, vi x3, vi x4], V.pd [V.sl n5 (elV tyR f5), V.sl n7 (elV tyT f7), V.sl n9 (elV tyF f9), V.sl n11 (elV tyC f11)], V.pd [vi x13], V.pd [vi x14], V.pd [vi x15]]) (m47 x0 x1 x2 x3 x4 n5 f5 n7 f7 n9 f9 n11 f11 x13 x14 x15) := ⟨by kernel_rfl, by kernel_rfl⟩
def F47_0 (x0 x1 x2 x3 x4 : Int) (f11 : FnV) (x13 x14 x15 : Int) : Bool := F49_0 (jv1 (f11 x13.toNat)) (jv2 (f11 x13.toNat)) (jv3 (f11 x13.toNat)) (F48_0 (jv3 (f11 x13.toNat)) x4) (F48_1 (jv3 (f11 x13.toNat)) x3) (F48_2 (jv3 (f11 x13.toNat)) x0) (F48_3 (jv3 (f11 x13.toNat)) x1) (F48_4 (jv3 (f11 x13.toNat)) x2) (F48_5 (jv3 (f11 x13.toNat)) x3) x14 x15
def R47 (x0 x1 x2 x3 x4 : Int) (n5 : Nat) (f5 : FnV) (n7 : Nat) (f7 : FnV) (n9 : Nat) (f9 : FnV) (n11 : Nat) (f11 : FnV) (x13 x14 x15 : Int) : V := .bool (F47_0 x0 x1 x2 x3 x4 f11 x13 x14 x15)
theorem ev47 (x0 x1 x2 x3 x4 : Int) (n5 : Nat) (f5 : FnV) (n7 : Nat) (f7 : FnV) (n9 : Nat) (f9 : FnV) (n11 : Nat) (f11 : FnV) (x13 x14 x15 : Int) (hp : 0 <= x13 /\ x13 < (n11 : Int)) : evR noE (m47 x0 x1 x2 x3 x4 n5 f5 n7 f7 n9 f9 n11 f11 x13 x14 x15) (R47 x0 x1 x2 x3 x4 n5 f5 n7 f7 n9 f9 n11 f11 x13 x14 x15) := evOb (by first | assumption | (exact dqt hp)) (evObc (evObt (evObc (evObt (evRet (by unfold R47 F47_0; rfl))))))
def C47 : PCon := mkC [.agg tyT, .pd [.sl tyR, .sl tyT, .sl tyF, .sl tyC], .pd tp1, .pd tp1, .pd tp1] (fun
 | [.agg [.int _ x0, .int _ x1, .int _ x2, .int _ x3, .int _ x4], .pd [.sl n5 f5, .sl n7 f7, .sl n9 f9, .sl n11 f11], .pd [.int _ x13], .pd [.int _ x14], .pd [.int _ x15]] => 0 <= x13 /\ x13 < (n11 : Int)
 | _ => False) fun
 | [.agg [.int _ x0, .int _ x1, .int _ x2, .int _ x3, .int _ x4], .pd [.sl n5 f5, .sl n7 f7, .sl n9 f9, .sl n11 f11], .pd [.int _ x13], .pd [.int _ x14], .pd [.int _ x15]] => R47 x0 x1 x2 x3 x4 n5 f5 n7 f7 n9 f9 n11 f11 x13 x14 x15
 | _ => .any
theorem ok47 : (vP C47).Ok Tryz.prog 47 := mkE tabB16b Tryz.func47 (by kernel_rfl) fun ds hp => rf0 (run47 ..) (ev47 _ _ _ _ _ _ _ _ _ _ _ _ _ _ _ _ hp)
end
end Go.Dx
namespace Go.Dx
open Go.IntKind (i64 u64 u8)
open Go.Sx
section
variable {S : Type} {step : S -> RT S}
theorem idx_evW {L : Int -> S} {n : Nat} {p : Nat -> Bool} {Q : Nat -> Prop} {ρ : Rho} (W : Nat -> RT S -> RT S) (hW : ∀ i x r, Q i -> evR (Ev step) x r -> evR (Ev step) (W i x) r) (hWn : ∀ i x, noAll (W i x) = noAll x) (hn : n <= 9223372036854775807) (hQ : ∀ i, i < n -> Q i)
 (hst : ∀ i : Nat, step (L i) = .br (decide ((i : Int) < (n : Int))) (.ob (decide (0 <= (i : Int) /\ (i : Int) < (n : Int))) (W i (.br (p i) (.ret (.int .i64 i)) (.next ρ (L (i64.wrap ((i : Int) + 1))) [])))) (.ret (.int .i64 (-1)))) :
 Ev step (L 0) (.int .i64 (idx n p)) :=
 scan hn p (P := fun i => Ev step (L i) (.int .i64 (idx n p))) (fun i hlt hj next => Ev.of (by rw [hst]; simp only [noAll, hWn, Bool.and_self]) (by
  rw [hst]
  refine evBrLt hlt (evObLt hlt (hW i _ _ (hQ i hlt) (evBr (fun hb => evRet ?_) (fun hb => evNext (next hb)))))
  rw [idx_some hb hlt hj])) (fun hj => Ev.of (by rw [hst]; simp only [noAll, hWn, Bool.and_self]) (by
  rw [hst]
  refine evBrGe (evRet ?_)
  rw [idx_none hj]))
end
end Go.Dx
namespace Go.Dx
open Go.IntKind (i64 u64 u8)
open Go.Sx
def maxTo (p : Nat -> Int) : Nat -> Int
 | 0 => 0
 | k + 1 => max (maxTo p k) (p k)
section
variable {S : Type} {step : S -> RT S}
theorem pieces_ev {L : Int -> Nat -> Int -> S} {n : Nat} {p : Nat -> Int} {ρ : Rho} {l : Nat} (hn : n <= 9223372036854775807)
 (hst : ∀ (i : Nat) (a : Int), i64.wrap ((i : Int) + 1) = ((i + 1 : Nat) : Int) -> step (L i l a) = .br (decide ((i : Int) < i64.wrap ((n : Int) - 1))) (.ob (decide (0 <= (i : Int) /\ (i : Int) < (n : Int))) (.ob (decide (0 <= i64.wrap ((i : Int) + 1) /\ i64.wrap ((i : Int) + 1) < (n : Int))) (.obt (.obt (.obt (.obt (.obc (.obt (.next ρ (L (i64.wrap ((i : Int) + 1)) l (max a (p i))) [])))))))) ) (.ret (.int .i64 a))) :
 Ev step (L 0 l 0) (.int .i64 (maxTo p (n - 1))) := by
 have w0 : i64.wrap ((n : Int) - 1) = (n : Int) - 1 := wrapI (by omega) (by omega)
 have key := up_ind (n := n - 1) (P := fun i => Ev step (L i l (maxTo p i)) (.int .i64 (maxTo p (n - 1)))) fun i hi ih => by
  have w1 : i64.wrap ((i : Int) + 1) = ((i + 1 : Nat) : Int) := by rw [wrapI (by omega) (by omega)]; omega
  refine Ev.of (by rw [hst i _ w1]; rfl) ?_
  rw [hst i _ w1]
  by_cases hlt : i < n - 1
  ·refine evBrT (decide_eq_true (by rw [w0]; omega)) (evOb (decide_eq_true (by omega)) (evOb (decide_eq_true (by rw [w1]; omega)) (evObt (evObt (evObt (evObt (evObc (evObt (evNext ?_)))))))))
   rw [w1]; exact ih hlt
  ·refine evBrF (decide_eq_false (by rw [w0]; omega)) (evRet ?_)
   have : i = n - 1 := by omega
   subst this; rfl
 exact key 0 (Nat.zero_le _)
theorem pieces_ex {L : Int -> Nat -> S} {n : Nat} {p : Nat -> Bool} {ρ : Rho} {l : Nat} (hn : n <= 9223372036854775807)
 (hst : ∀ i : Nat, i64.wrap ((i : Int) + 1) = ((i + 1 : Nat) : Int) -> step (L i l) = .br (decide ((i : Int) < i64.wrap ((n : Int) - 1))) (.ob (decide (0 <= (i : Int) /\ (i : Int) < (n : Int))) (.ob (decide (0 <= i64.wrap ((i : Int) + 1) /\ i64.wrap ((i : Int) + 1) < (n : Int))) (.obt (.obt (.obt (.obt (.obc (.obt (.br (p i) (.ret (.kb true)) (.next ρ (L (i64.wrap ((i : Int) + 1)) l) []))))))))) ) (.ret (.kb false))) :
 Ev step (L 0 l) (.bool (exB (n - 1) p)) := by
 have w0 : i64.wrap ((n : Int) - 1) = (n : Int) - 1 := wrapI (by omega) (by omega)
 have key := up_ind (n := n - 1) (P := fun i => (∀ j, j < i -> p j = false) -> Ev step (L i l) (.bool (exB (n - 1) p))) fun i hi ih hj => by
  have w1 : i64.wrap ((i : Int) + 1) = ((i + 1 : Nat) : Int) := by rw [wrapI (by omega) (by omega)]; omega
  refine Ev.of (by rw [hst i w1]; rfl) ?_
  rw [hst i w1]
  by_cases hlt : i < n - 1
  ·refine evBrT (decide_eq_true (by rw [w0]; omega)) (evOb (decide_eq_true (by omega)) (evOb (decide_eq_true (by rw [w1]; omega)) (evObt (evObt (evObt (evObt (evObc (evObt (evBr (fun hb => evRet ?_) (fun hb => evNext ?_))))))))))
   ·rw [exB_true i hlt hb]; rfl
   ·rw [w1]; exact ih hlt fun j h1 => by
     by_cases e : j = i
     ·subst e; exact hb
     ·exact hj j (by omega)
  ·refine evBrF (decide_eq_false (by rw [w0]; omega)) (evRet ?_)
   have : i = n - 1 := by omega
   subst this
   rw [exB_false hj]; rfl
 exact key 0 (Nat.zero_le _) fun j hj => by omega
end
end Go.Dx
namespace Go.Dx
open Go.IntKind (i64 u64 u8)
open Go.Sx
end Go.Dx
namespace Go.Dx
open Go.IntKind (i64 u64 u8)
theorem maxTo_ge {p : Nat -> Int} {i : Nat} : ∀ {n : Nat}, i < n -> p i <= maxTo p n
 | n + 1, h => by
   simp only [maxTo]
   by_cases e : i = n
   ·subst e; omega
   ·have := maxTo_ge (p := p) (i := i) (n := n) (by omega); omega
theorem maxTo_le {p : Nat -> Int} {B : Int} (hB : 0 <= B) : ∀ {n : Nat}, (∀ i, i < n -> p i <= B) -> maxTo p n <= B
 | 0, _ => hB
 | n + 1, h => by
   simp only [maxTo]
   have := maxTo_le (p := p) hB (n := n) fun i hi => h i (by omega)
   have := h n (by omega); omega
end Go.Dx
namespace Go.Dx
open Go.IntKind (i64 u64 u8)
open Go.Sx Go.Proofs
noncomputable section
def ctB16c : CTab := (111, .con C111) :: (56, .con C56) :: (47, .con C47) :: ctB16b
theorem tabB16c : TabOk Tryz.prog eqs its ctB16c := .con ok111 (.con ok56 (.con ok47 (tabB16b)))
inductive S108 where
 | L0 (ia0 : Int)
def inv108 (n0 : Nat) (f0 : FnV) (x2 x3 x4 x5 x6 x7 x8 x9 : Int) (b10 : Bool) : S108 -> Env × List O × Option Ex
 | .L0 ia0 => ([(8, vi ia0), (7, vi (↑n0 : Int)), (6, V.sl n0 (elV tp2 f0)), (4, vi 0), (0, V.sl n0 (elV tp2 f0)), (1, V.fn 56 [] [V.pd [vi x2, vi x3, vi x4, vi x5, vi x6, vi x7, vi x8, vi x9, V.bool b10]])], [], none)
def id108 : S108 -> JJ
 | .L0 ia0 => (0, [])
def rl108 (n0 : Nat) (f0 : FnV) (x2 x3 x4 x5 x6 x7 x8 x9 : Int) (b10 : Bool) : T (Leaf JJ) := runL JJ ctB16c u0 s108 [V.sl n0 (elV tp2 f0), V.fn 56 [] [V.pd [vi x2, vi x3, vi x4, vi x5, vi x6, vi x7, vi x8, vi x9, V.bool b10]]]
def lp108_0 (n0 : Nat) (f0 : FnV) (x2 x3 x4 x5 x6 x7 x8 x9 : Int) (b10 : Bool) (cx : List Cx) : Lp JJ := lpT (atT (rl108 n0 f0 x2 x3 x4 x5 x6 x7 x8 x9 b10) [])
def lp108 (n0 : Nat) (f0 : FnV) (x2 x3 x4 x5 x6 x7 x8 x9 : Int) (b10 : Bool) : JJ -> Lp JJ
 | (0, cx) => lp108_0 n0 f0 x2 x3 x4 x5 x6 x7 x8 x9 b10 cx
 | (_, cx) => lp108_0 n0 f0 x2 x3 x4 x5 x6 x7 x8 x9 b10 cx
def D108 (n0 : Nat) (f0 : FnV) (x2 x3 x4 x5 x6 x7 x8 x9 : Int) (b10 : Bool) : LD JJ S108 := ⟨id108, lp108 n0 f0 x2 x3 x4 x5 x6 x7 x8 x9 b10, inv108 n0 f0 x2 x3 x4 x5 x6 x7 x8 x9 b10⟩
def st108 (n0 : Nat) (f0 : FnV) (x2 x3 x4 x5 x6 x7 x8 x9 : Int) (b10 : Bool) : S108 -> RT S108
 | .L0 ia0 => .br (decide (ia0 < (↑n0 : Int))) (.ob (decide (0 <= ia0 /\ ia0 < (↑n0 : Int))) (.obc (.obt (.br (F56_0 (jv0 (f0 ia0.toNat)) (jv1 (f0 ia0.toNat)) x2 x3 x4 x5 x6 x7 x8 x9 b10) (.ret (vi ia0)) (.next [] (S108.L0 (i64.wrap (ia0 + 1))) []))))) (.ret (vi (-1)))
def m108 (n0 : Nat) (f0 : FnV) (x2 x3 x4 x5 x6 x7 x8 x9 : Int) (b10 : Bool) : RT S108 := .asm (true = true -> n0 <= 9223372036854775807) (.enter [] (S108.L0 (0)) [])
theorem run108 (n0 : Nat) (f0 : FnV) (x2 x3 x4 x5 x6 x7 x8 x9 : Int) (b10 : Bool) : Fits ctB16c u0 (D108 n0 f0 x2 x3 x4 x5 x6 x7 x8 x9 b10) (rl108 n0 f0 x2 x3 x4 x5 x6 x7 x8 x9 b10) (m108 n0 f0 x2 x3 x4 x5 x6 x7 x8 x9 b10) (st108 n0 f0 x2 x3 x4 x5 x6 x7 x8 x9 b10) := ⟨⟨by kernel_rfl, by kernel_rfl⟩, fun s => by cases s <;> exact ⟨by kernel_rfl, by kernel_rfl⟩⟩
def F108 (n0 : Nat) (f0 : FnV) (x2 x3 x4 x5 x6 x7 x8 x9 : Int) (b10 : Bool) : Int   := idx n0 fun ii => F56_0 (jv0 (f0 ii)) (jv1 (f0 ii)) x2 x3 x4 x5 x6 x7 x8 x9 b10
theorem ev108_0 (n0 : Nat) (f0 : FnV) (x2 x3 x4 x5 x6 x7 x8 x9 : Int) (b10 : Bool) : evR (Ev (st108 n0 f0 x2 x3 x4 x5 x6 x7 x8 x9 b10)) (m108 n0 f0 x2 x3 x4 x5 x6 x7 x8 x9 b10) (.int .i64 (F108 n0 f0 x2 x3 x4 x5 x6 x7 x8 x9 b10)) := evAsm1 fun hn => evEnter (idx_ev hn fun i => rfl)
theorem ev108 (n0 : Nat) (f0 : FnV) (x2 x3 x4 x5 x6 x7 x8 x9 : Int) (b10 : Bool) : evR (Ev (st108 n0 f0 x2 x3 x4 x5 x6 x7 x8 x9 b10)) (m108 n0 f0 x2 x3 x4 x5 x6 x7 x8 x9 b10) (.int .i64 (F108 n0 (elV tp2 f0) x2 x3 x4 x5 x6 x7 x8 x9 b10)) := ev108_0 n0 f0 x2 x3 x4 x5 x6 x7 x8 x9 b10
def C108 : PCon := mkC [.sl tp2, .fn 56 [] [.pd [.int .i64, .int .i64, .int .i64, .int .i64, .int .i64, .int .i64, .int .i64, .int .i64, .bool]]] (fun _ => True) fun
 | [.sl n0 f0, .fn _ [] [.pd [.int _ x2, .int _ x3, .int _ x4, .int _ x5, .int _ x6, .int _ x7, .int _ x8, .int _ x9, .bool b10]]] => .int .i64 (F108 n0 f0 x2 x3 x4 x5 x6 x7 x8 x9 b10)
 | _ => .any
theorem ok108 : (vP C108).Ok Tryz.prog 108 := mkE tabB16c Tryz.func108 (by kernel_rfl) fun ds hp => rfs (run108 ..) (ev108 _ _ _ _ _ _ _ _ _ _ _)
inductive S46 where
 | L0 (ia0 : Int)
def inv46 (n0 : Nat) (f0 : FnV) (n2 : Nat) (f2 : FnV) (n4 : Nat) (f4 : FnV) (n6 : Nat) (f6 : FnV) (n8 : Nat) (f8 : FnV) (x10 x11 x12 : Int) : S46 -> Env × List O × Option Ex
 | .L0 ia0 => ([(8, vi ia0), (7, vi (↑n0 : Int)), (6, V.sl n0 (elV tyT f0)), (4, vi 0), (0, V.sl n0 (elV tyT f0)), (1, V.fn 47 [] [V.pd [V.sl n2 (elV tyR f2), V.sl n4 (elV tyT f4), V.sl n6 (elV tyF f6), V.sl n8 (elV tyC f8)], V.pd [vi x10], V.pd [vi x11], V.pd [vi x12]])], [], none)
def id46 : S46 -> JJ
 | .L0 ia0 => (0, [])
def rl46 (n0 : Nat) (f0 : FnV) (n2 : Nat) (f2 : FnV) (n4 : Nat) (f4 : FnV) (n6 : Nat) (f6 : FnV) (n8 : Nat) (f8 : FnV) (x10 x11 x12 : Int) : T (Leaf JJ) := runL JJ ctB16c u0 s46 [V.sl n0 (elV tyT f0), V.fn 47 [] [V.pd [V.sl n2 (elV tyR f2), V.sl n4 (elV tyT f4), V.sl n6 (elV tyF f6), V.sl n8 (elV tyC f8)], V.pd [vi x10], V.pd [vi x11], V.pd [vi x12]]]
def lp46_0 (n0 : Nat) (f0 : FnV) (n2 : Nat) (f2 : FnV) (n4 : Nat) (f4 : FnV) (n6 : Nat) (f6 : FnV) (n8 : Nat) (f8 : FnV) (x10 x11 x12 : Int) (cx : List Cx) : Lp JJ := lpT (atT (rl46 n0 f0 n2 f2 n4 f4 n6 f6 n8 f8 x10 x11 x12) [])
def lp46 (n0 : Nat) (f0 : FnV) (n2 : Nat) (f2 : FnV) (n4 : Nat) (f4 : FnV) (n6 : Nat) (f6 : FnV) (n8 : Nat) (f8 : FnV) (x10 x11 x12 : Int) : JJ -> Lp JJ
 | (0, cx) => lp46_0 n0 f0 n2 f2 n4 f4 n6 f6 n8 f8 x10 x11 x12 cx
 | (_, cx) => lp46_0 n0 f0 n2 f2 n4 f4 n6 f6 n8 f8 x10 x11 x12 cx
def D46 (n0 : Nat) (f0 : FnV) (n2 : Nat) (f2 : FnV) (n4 : Nat) (f4 : FnV) (n6 : Nat) (f6 : FnV) (n8 : Nat) (f8 : FnV) (x10 x11 x12 : Int) : LD JJ S46 := ⟨id46, lp46 n0 f0 n2 f2 n4 f4 n6 f6 n8 f8 x10 x11 x12, inv46 n0 f0 n2 f2 n4 f4 n6 f6 n8 f8 x10 x11 x12⟩
def st46 (n0 : Nat) (f0 : FnV) (n2 : Nat) (f2 : FnV) (n4 : Nat) (f4 : FnV) (n6 : Nat) (f6 : FnV) (n8 : Nat) (f8 : FnV) (x10 x11 x12 : Int) : S46 -> RT S46
 | .L0 ia0 => .br (decide (ia0 < (↑n0 : Int))) (.ob (decide (0 <= ia0 /\ ia0 < (↑n0 : Int))) (.obp ((0 : Int) <= x10 /\ x10 < (↑n8 : Int)) (.obt (.br (F47_0 (jv0 (f0 ia0.toNat)) (jv1 (f0 ia0.toNat)) (jv2 (f0 ia0.toNat)) (jv3 (f0 ia0.toNat)) (jv4 (f0 ia0.toNat)) (elV tyC f8) x10 x11 x12) (.ret (vi ia0)) (.next [] (S46.L0 (i64.wrap (ia0 + 1))) []))))) (.ret (vi (-1)))
def m46 (n0 : Nat) (f0 : FnV) (n2 : Nat) (f2 : FnV) (n4 : Nat) (f4 : FnV) (n6 : Nat) (f6 : FnV) (n8 : Nat) (f8 : FnV) (x10 x11 x12 : Int) : RT S46 := .asm (true = true -> n0 <= 9223372036854775807) (.enter [] (S46.L0 (0)) [])
theorem run46 (n0 : Nat) (f0 : FnV) (n2 : Nat) (f2 : FnV) (n4 : Nat) (f4 : FnV) (n6 : Nat) (f6 : FnV) (n8 : Nat) (f8 : FnV) (x10 x11 x12 : Int) : Fits ctB16c u0 (D46 n0 f0 n2 f2 n4 f4 n6 f6 n8 f8 x10 x11 x12) (rl46 n0 f0 n2 f2 n4 f4 n6 f6 n8 f8 x10 x11 x12) (m46 n0 f0 n2 f2 n4 f4 n6 f6 n8 f8 x10 x11 x12) (st46 n0 f0 n2 f2 n4 f4 n6 f6 n8 f8 x10 x11 x12) := ⟨⟨by kernel_rfl, by kernel_rfl⟩, fun s => by cases s <;> exact ⟨by kernel_rfl, by kernel_rfl⟩⟩
def F46 (n0 : Nat) (f0 f8 : FnV) (x10 x11 x12 : Int) : Int   := idx n0 fun ii => F47_0 (jv0 (f0 ii)) (jv1 (f0 ii)) (jv2 (f0 ii)) (jv3 (f0 ii)) (jv4 (f0 ii)) (elV tyC f8) x10 x11 x12
theorem ev46_0 (n0 : Nat) (f0 : FnV) (n2 : Nat) (f2 : FnV) (n4 : Nat) (f4 : FnV) (n6 : Nat) (f6 : FnV) (n8 : Nat) (f8 : FnV) (x10 x11 x12 : Int) (hp : 0 <= x10 /\ x10 < (n8 : Int)) : evR (Ev (st46 n0 f0 n2 f2 n4 f4 n6 f6 n8 f8 x10 x11 x12)) (m46 n0 f0 n2 f2 n4 f4 n6 f6 n8 f8 x10 x11 x12) (.int .i64 (F46 n0 f0 f8 x10 x11 x12)) := evAsm1 fun hn => evEnter (idx_evW (Q := fun ii => (0 : Int) <= x10 /\ x10 < (↑n8 : Int)) (fun ii x => .obp ((0 : Int) <= x10 /\ x10 < (↑n8 : Int)) (.obt x)) (fun i x r h hx => evObp h (evObt hx)) (fun _ _ => rfl) hn (fun _ _ => hp) fun i => rfl)
theorem ev46 (n0 : Nat) (f0 : FnV) (n2 : Nat) (f2 : FnV) (n4 : Nat) (f4 : FnV) (n6 : Nat) (f6 : FnV) (n8 : Nat) (f8 : FnV) (x10 x11 x12 : Int) (hp : 0 <= x10 /\ x10 < (n8 : Int)) : evR (Ev (st46 n0 f0 n2 f2 n4 f4 n6 f6 n8 f8 x10 x11 x12)) (m46 n0 f0 n2 f2 n4 f4 n6 f6 n8 f8 x10 x11 x12) (.int .i64 (F46 n0 (elV tyT f0) (elV tyC f8) x10 x11 x12)) := ev46_0 n0 f0 n2 f2 n4 f4 n6 f6 n8 f8 x10 x11 x12 hp
def C46 : PCon := mkC [.sl tyT, .fn 47 [] [.pd [.sl tyR, .sl tyT, .sl tyF, .sl tyC], .pd tp1, .pd tp1, .pd tp1]] (fun
 | [.sl n0 f0, .fn _ [] [.pd [.sl n2 f2, .sl n4 f4, .sl n6 f6, .sl n8 f8], .pd [.int _ x10], .pd [.int _ x11], .pd [.int _ x12]]] => 0 <= x10 /\ x10 < (n8 : Int)
 | _ => False) fun
 | [.sl n0 f0, .fn _ [] [.pd [.sl n2 f2, .sl n4 f4, .sl n6 f6, .sl n8 f8], .pd [.int _ x10], .pd [.int _ x11], .pd [.int _ x12]]] => .int .i64 (F46 n0 f0 f8 x10 x11 x12)
 | _ => .any
theorem ok46 : (vP C46).Ok Tryz.prog 46 := mkE tabB16c Tryz.func46 (by kernel_rfl) fun ds hp => rfs (run46 ..) (ev46 _ _ _ _ _ _ _ _ _ _ _ _ _ hp)
end
noncomputable section
def ctB16d : CTab := [(108, .con C108), (46, .con C46), (111, .con C111), (56, .con C56), (47, .con C47), (145, .con C145), (140, .con C140), (49, .con C49), (123, .con C123), (50, .con C50), (44, .con C44), (91, .con C91), (24, .con C24), (23, .con C23), (70, .con C70), (62, .con C62), (68, .con C68), (63, .con C63), (69, .con C69), (117, .inl s117 u0), (116, .inl s116 u0), (115, .con C115), (114, .con C114), (73, .con C73), (147, .con C147), (64, .con C64), (66, .con C66), (113, .con C113), (65, .con C65), (67, .con C67), (53, .con C53), (122, .con C122), (72, .con C72), (45, .con C45), (90, .con C90), (119, .con C119), (121, .con C121), (99, .con C99), (129, .con C129), (148, .con C148), (149, .con C149), (112, .con C112), (118, .con C118), (120, .con C120), (51, .con C51), (133, .con C133), (103, .con C103), (100, .con C100), (134, .con C134), (135, .con C135), (78, .con C78), (54, .con C54), (48, .con C48), (102, .con C102), (81, .con C81), (84, .con C84), (85, .con C85), (127, .con C127), (101, .con C101), (86, .con C86), (71, .con C71), (162, .con C162), (146, .con C146), (83, .inl s83 u0)]
theorem tabB16d : TabOk Tryz.prog eqs its ctB16d := .con ok108 (.con ok46 (.con ok111 (.con ok56 (.con ok47 (.con ok145 (.con ok140 (.con ok49 (.con ok123 (.con ok50 (.con ok44 (.con ok91 (.con ok24 (.con ok23 (.con ok70 (.con ok62 (.con ok68 (.con ok63 (.con ok69 (.inl Tryz.func117 (by kernel_rfl) (by kernel_rfl) (by kernel_rfl) (.inl Tryz.func116 (by kernel_rfl) (by kernel_rfl) (by kernel_rfl) (.con ok115 (.con ok114 (.con ok73 (.con ok147 (.con ok64 (.con ok66 (.con ok113 (.con ok65 (.con ok67 (.con ok53 (.con ok122 (.con ok72 (.con ok45 (.con ok90 (.con ok119 (.con ok121 (.con ok99 (.con ok129 (.con ok148 (.con ok149 (.con ok112 (.con ok118 (.con ok120 (.con ok51 (.con ok133 (.con ok103 (.con ok100 (.con ok134 (.con ok135 (.con ok78 (.con ok54 (.con ok48 (.con ok102 (.con ok81 (.con ok84 (.con ok85 (.con ok127 (.con ok101 (.con ok86 (.con ok71 (.con ok162 (.con ok146 (.inl Tryz.func83 (by kernel_rfl) (by kernel_rfl) (by kernel_rfl) (.nil))))))))))))))))))))))))))))))))))))))))))))))))))))))))))))))))
def m55 (n0 : Nat) (f0 : FnV) (x2 x3 x4 x5 x6 x7 x8 x9 : Int) (b10 : Bool) : RT Empty := .obc (.obt (.ret (V.bool (decide (0 <= F108 n0 (elV tp2 f0) x2 x3 x4 x5 x6 x7 x8 x9 b10)))))
theorem run55 (n0 : Nat) (f0 : FnV) (x2 x3 x4 x5 x6 x7 x8 x9 : Int) (b10 : Bool) : Fit noD (runL JJ ctB16d u0 s55 [V.sl n0 (elV tp2 f0), V.fn 56 [] [V.pd [vi x2, vi x3, vi x4, vi x5, vi x6, vi x7, vi x8, vi x9, V.bool b10]]]) (m55 n0 f0 x2 x3 x4 x5 x6 x7 x8 x9 b10) := ⟨by kernel_rfl, by kernel_rfl⟩
def F55_0 (n0 : Nat) (f0 : FnV) (x2 x3 x4 x5 x6 x7 x8 x9 : Int) (b10 : Bool) : Bool := decide (0 <= F108 n0 (elV tp2 f0) x2 x3 x4 x5 x6 x7 x8 x9 b10)
def R55 (n0 : Nat) (f0 : FnV) (x2 x3 x4 x5 x6 x7 x8 x9 : Int) (b10 : Bool) : V := .bool (F55_0 n0 f0 x2 x3 x4 x5 x6 x7 x8 x9 b10)
theorem ev55 (n0 : Nat) (f0 : FnV) (x2 x3 x4 x5 x6 x7 x8 x9 : Int) (b10 : Bool) : evR noE (m55 n0 f0 x2 x3 x4 x5 x6 x7 x8 x9 b10) (R55 n0 f0 x2 x3 x4 x5 x6 x7 x8 x9 b10) := evObc (evObt (evRet (by unfold R55 F55_0; rfl)))
def C55 : PCon := mkC [.sl tp2, .fn 56 [] [.pd [.int .i64, .int .i64, .int .i64, .int .i64, .int .i64, .int .i64, .int .i64, .int .i64, .bool]]] (fun _ => True) fun
 | [.sl n0 f0, .fn _ [] [.pd [.int _ x2, .int _ x3, .int _ x4, .int _ x5, .int _ x6, .int _ x7, .int _ x8, .int _ x9, .bool b10]]] => R55 n0 f0 x2 x3 x4 x5 x6 x7 x8 x9 b10
 | _ => .any
theorem ok55 : (vP C55).Ok Tryz.prog 55 := mkE tabB16d Tryz.func55 (by kernel_rfl) fun ds hp => rf0 (run55 ..) (ev55 _ _ _ _ _ _ _ _ _ _ _)
inductive S61 where
 | L0 (ia0 : Int) (na1 : Nat) (ia2 : Int)
def inv61 (s0 : ByteArray) (x1 : Int) (n2 : Nat) (f2 : FnV) (x4 x5 x6 x7 x8 : Int) : S61 -> Env × List O × Option Ex
 | .L0 ia0 na1 ia2 => ([(10, vi ia0), (9, vi (i64.wrap ((↑n2 : Int) - 1))), (8, vi (↑n2 : Int)), (7, V.sl n2 (elV tp2 f2)), (6, V.pl 3 2), (0, V.yl na1), (1, V.pl 3 0)], [O.cells [V.str s0, vi x1, V.sl n2 (elV tp2 f2), vi x4] 54, O.cells [vi x5, vi x6, vi x7, vi x8] 29, O.cells [vi ia2] 3, O.cells [V.str s0, vi x1, V.sl n2 (elV tp2 f2), vi x4] 54], none)
def id61 : S61 -> JJ
 | .L0 ia0 na1 ia2 => (0, [Cx.n na1])
def rl61 (s0 : ByteArray) (x1 : Int) (n2 : Nat) (f2 : FnV) (x4 x5 x6 x7 x8 : Int) : T (Leaf JJ) := runL JJ ctB16d u0 s61 [V.agg [V.str s0, vi x1, V.sl n2 (elV tp2 f2), vi x4], V.agg [vi x5, vi x6, vi x7, vi x8]]
def lp61_0 (s0 : ByteArray) (x1 : Int) (n2 : Nat) (f2 : FnV) (x4 x5 x6 x7 x8 : Int) (cx : List Cx) : Lp JJ := lpT (atT (afT (atT (rl61 s0 x1 n2 f2 x4 x5 x6 x7 x8) []) (cxn cx 0)) [])
def lp61 (s0 : ByteArray) (x1 : Int) (n2 : Nat) (f2 : FnV) (x4 x5 x6 x7 x8 : Int) : JJ -> Lp JJ
 | (0, cx) => lp61_0 s0 x1 n2 f2 x4 x5 x6 x7 x8 cx
 | (_, cx) => lp61_0 s0 x1 n2 f2 x4 x5 x6 x7 x8 cx
def D61 (s0 : ByteArray) (x1 : Int) (n2 : Nat) (f2 : FnV) (x4 x5 x6 x7 x8 : Int) : LD JJ S61 := ⟨id61, lp61 s0 x1 n2 f2 x4 x5 x6 x7 x8, inv61 s0 x1 n2 f2 x4 x5 x6 x7 x8⟩
def st61 (s0 : ByteArray) (x1 : Int) (n2 : Nat) (f2 : FnV) (x4 x5 x6 x7 x8 : Int) : S61 -> RT S61
 | .L0 ia0 na1 ia2 => .br (decide (ia0 < i64.wrap ((↑n2 : Int) - 1))) (.ob (decide (0 <= ia0 /\ ia0 < (↑n2 : Int))) (.ob (decide (0 <= i64.wrap (ia0 + 1) /\ i64.wrap (ia0 + 1) < (↑n2 : Int))) (.obt (.obt (.obt (.obt (.obc (.obt (.next (iR 0 4 []) (S61.L0 (i64.wrap (ia0 + 1)) (na1) (max ia2 (F111_0 (i64.wrap (2 * jv0 (f2 ia0.toNat))) (i64.wrap (2 * jv1 (f2 ia0.toNat))) (i64.wrap (2 * jv0 (f2 (i64.wrap (ia0 + 1)).toNat))) (i64.wrap (2 * jv1 (f2 (i64.wrap (ia0 + 1)).toNat))) x4 x5 x6 x7 x8))) []))))))))) (.ret (vi ia2))
def m61 (s0 : ByteArray) (x1 : Int) (n2 : Nat) (f2 : FnV) (x4 x5 x6 x7 x8 : Int) : RT S61 := .all (fun l_6416 => .asm (true = true -> n2 <= 9223372036854775807) (.enter (iR 0 4 []) (S61.L0 (0) (l_6416) (0)) []))
theorem run61 (s0 : ByteArray) (x1 : Int) (n2 : Nat) (f2 : FnV) (x4 x5 x6 x7 x8 : Int) : Fits ctB16d u0 (D61 s0 x1 n2 f2 x4 x5 x6 x7 x8) (rl61 s0 x1 n2 f2 x4 x5 x6 x7 x8) (m61 s0 x1 n2 f2 x4 x5 x6 x7 x8) (st61 s0 x1 n2 f2 x4 x5 x6 x7 x8) := ⟨⟨by kernel_rfl, by kernel_rfl⟩, fun s => by cases s <;> exact ⟨by kernel_rfl, by kernel_rfl⟩⟩
def p61 (n2 : Nat) (f2 : FnV) (x4 x5 x6 x7 x8 : Int) (ii : Nat) : Int := F111_0 (i64.wrap (2 * jv0 (f2 ii))) (i64.wrap (2 * jv1 (f2 ii))) (i64.wrap (2 * jv0 (f2 (i64.wrap ((ii : Int) + 1)).toNat))) (i64.wrap (2 * jv1 (f2 (i64.wrap ((ii : Int) + 1)).toNat))) x4 x5 x6 x7 x8
def F61 (n2 : Nat) (f2 : FnV) (x4 x5 x6 x7 x8 : Int) : Int := maxTo (p61 n2 f2 x4 x5 x6 x7 x8) (n2 - 1)
theorem ev61_0 (s0 : ByteArray) (x1 : Int) (n2 : Nat) (f2 : FnV) (x4 x5 x6 x7 x8 : Int) : evR (Ev (st61 s0 x1 n2 f2 x4 x5 x6 x7 x8)) (m61 s0 x1 n2 f2 x4 x5 x6 x7 x8) (.int .i64 (F61 n2 f2 x4 x5 x6 x7 x8)) := evAll fun l => evAsm1 fun hn => evEnter (pieces_ev hn fun i a _ => rfl)
theorem ev61 (s0 : ByteArray) (x1 : Int) (n2 : Nat) (f2 : FnV) (x4 x5 x6 x7 x8 : Int) : evR (Ev (st61 s0 x1 n2 f2 x4 x5 x6 x7 x8)) (m61 s0 x1 n2 f2 x4 x5 x6 x7 x8) (.int .i64 (F61 n2 (elV tp2 f2) x4 x5 x6 x7 x8)) := ev61_0 s0 x1 n2 f2 x4 x5 x6 x7 x8
def C61 : PCon := mkC [.agg tyR, .agg tp4] (fun _ => True) fun
 | [.agg [.str s0, .int _ x1, .sl n2 f2, .int _ x4], .agg [.int _ x5, .int _ x6, .int _ x7, .int _ x8]] => .int .i64 (F61 n2 f2 x4 x5 x6 x7 x8)
 | _ => .any
theorem ok61 : (vP C61).Ok Tryz.prog 61 := mkE tabB16d Tryz.func61 (by kernel_rfl) fun ds hp => rfs (run61 ..) (ev61 _ _ _ _ _ _ _ _ _)
inductive S74 where
 | L0 (ia0 : Int) (na1 : Nat)
def inv74 (s0 : ByteArray) (x1 : Int) (n2 : Nat) (f2 : FnV) (x4 x5 x6 : Int) : S74 -> Env × List O × Option Ex
 | .L0 ia0 na1 => ([(10, vi ia0), (9, vi (i64.wrap ((↑n2 : Int) - 1))), (8, vi (↑n2 : Int)), (7, V.sl n2 (elV tp2 f2)), (6, V.pl 4 2), (0, V.yl na1), (1, V.pl 4 0)], [O.cells [V.str s0, vi x1, V.sl n2 (elV tp2 f2), vi x4] 54, O.cells [vi x5] 3, O.cells [vi x6] 3, O.cells [V.kb false] 4, O.cells [V.str s0, vi x1, V.sl n2 (elV tp2 f2), vi x4] 54], none)
def id74 : S74 -> JJ
 | .L0 ia0 na1 => (0, [Cx.n na1])
def rl74 (s0 : ByteArray) (x1 : Int) (n2 : Nat) (f2 : FnV) (x4 x5 x6 : Int) : T (Leaf JJ) := runL JJ ctB16d u0 s74 [V.agg [V.str s0, vi x1, V.sl n2 (elV tp2 f2), vi x4], vi x5, vi x6]
def lp74_0 (s0 : ByteArray) (x1 : Int) (n2 : Nat) (f2 : FnV) (x4 x5 x6 : Int) (cx : List Cx) : Lp JJ := lpT (atT (afT (atT (rl74 s0 x1 n2 f2 x4 x5 x6) []) (cxn cx 0)) [])
def lp74 (s0 : ByteArray) (x1 : Int) (n2 : Nat) (f2 : FnV) (x4 x5 x6 : Int) : JJ -> Lp JJ
 | (0, cx) => lp74_0 s0 x1 n2 f2 x4 x5 x6 cx
 | (_, cx) => lp74_0 s0 x1 n2 f2 x4 x5 x6 cx
def D74 (s0 : ByteArray) (x1 : Int) (n2 : Nat) (f2 : FnV) (x4 x5 x6 : Int) : LD JJ S74 := ⟨id74, lp74 s0 x1 n2 f2 x4 x5 x6, inv74 s0 x1 n2 f2 x4 x5 x6⟩
def st74 (s0 : ByteArray) (x1 : Int) (n2 : Nat) (f2 : FnV) (x4 x5 x6 : Int) : S74 -> RT S74
 | .L0 ia0 na1 => .br (decide (ia0 < i64.wrap ((↑n2 : Int) - 1))) (.ob (decide (0 <= ia0 /\ ia0 < (↑n2 : Int))) (.ob (decide (0 <= i64.wrap (ia0 + 1) /\ i64.wrap (ia0 + 1) < (↑n2 : Int))) (.obt (.obt (.obt (.obt (.obc (.obt (.br (F123_0 (i64.wrap (2 * jv0 (f2 ia0.toNat))) (i64.wrap (2 * jv1 (f2 ia0.toNat))) (i64.wrap (2 * jv0 (f2 (i64.wrap (ia0 + 1)).toNat))) (i64.wrap (2 * jv1 (f2 (i64.wrap (ia0 + 1)).toNat))) x4 x5 x6) (.ret (V.kb true)) (.next (iR 0 5 []) (S74.L0 (i64.wrap (ia0 + 1)) (na1)) [])))))))))) (.ret (V.kb false))
def m74 (s0 : ByteArray) (x1 : Int) (n2 : Nat) (f2 : FnV) (x4 x5 x6 : Int) : RT S74 := .all (fun l_6589 => .asm (true = true -> n2 <= 9223372036854775807) (.enter (iR 0 5 []) (S74.L0 (0) (l_6589)) []))
theorem run74 (s0 : ByteArray) (x1 : Int) (n2 : Nat) (f2 : FnV) (x4 x5 x6 : Int) : Fits ctB16d u0 (D74 s0 x1 n2 f2 x4 x5 x6) (rl74 s0 x1 n2 f2 x4 x5 x6) (m74 s0 x1 n2 f2 x4 x5 x6) (st74 s0 x1 n2 f2 x4 x5 x6) := ⟨⟨by kernel_rfl, by kernel_rfl⟩, fun s => by cases s <;> exact ⟨by kernel_rfl, by kernel_rfl⟩⟩
def p74 (n2 : Nat) (f2 : FnV) (x4 x5 x6 : Int) (ii : Nat) : Bool := F123_0 (i64.wrap (2 * jv0 (f2 ii))) (i64.wrap (2 * jv1 (f2 ii))) (i64.wrap (2 * jv0 (f2 (i64.wrap ((ii : Int) + 1)).toNat))) (i64.wrap (2 * jv1 (f2 (i64.wrap ((ii : Int) + 1)).toNat))) x4 x5 x6
def F74 (n2 : Nat) (f2 : FnV) (x4 x5 x6 : Int) : Bool := exB (n2 - 1) (p74 n2 f2 x4 x5 x6)
theorem ev74_0 (s0 : ByteArray) (x1 : Int) (n2 : Nat) (f2 : FnV) (x4 x5 x6 : Int) : evR (Ev (st74 s0 x1 n2 f2 x4 x5 x6)) (m74 s0 x1 n2 f2 x4 x5 x6) (.bool (F74 n2 f2 x4 x5 x6)) := evAll fun l => evAsm1 fun hn => evEnter (pieces_ex hn fun i _ => rfl)
theorem ev74 (s0 : ByteArray) (x1 : Int) (n2 : Nat) (f2 : FnV) (x4 x5 x6 : Int) : evR (Ev (st74 s0 x1 n2 f2 x4 x5 x6)) (m74 s0 x1 n2 f2 x4 x5 x6) (.bool (F74 n2 (elV tp2 f2) x4 x5 x6)) := ev74_0 s0 x1 n2 f2 x4 x5 x6
def C74 : PCon := mkC [.agg tyR, .int .i64, .int .i64] (fun _ => True) fun
 | [.agg [.str s0, .int _ x1, .sl n2 f2, .int _ x4], .int _ x5, .int _ x6] => .bool (F74 n2 f2 x4 x5 x6)
 | _ => .any
theorem ok74 : (vP C74).Ok Tryz.prog 74 := mkE tabB16d Tryz.func74 (by kernel_rfl) fun ds hp => rfs (run74 ..) (ev74 _ _ _ _ _ _ _)
end
noncomputable section
def ctB16e : CTab := (55, .con C55) :: (61, .con C61) :: (74, .con C74) :: ctB16d
theorem tabB16e : TabOk Tryz.prog eqs its ctB16e := .con ok55 (.con ok61 (.con ok74 (tabB16d)))
attribute [local irreducible] F44 F50_0 F91_0
def m22 (n0 : Nat) (f0 : FnV) (n2 : Nat) (f2 : FnV) (n4 : Nat) (f4 : FnV) (n6 : Nat) (f6 : FnV) (x8 x9 x10 x11 x12 : Int) : RT Empty := .asm (true = true -> n0 <= 9223372036854775807) (.obp (((∀ (i : Nat), i < n0 -> (sv (hdV (f0 i))).size <= (9223372036854775807 : Nat)) /\ ∀ (i : Nat), i < n6 -> (sv (hdV (f6 i))).size <= (9223372036854775807 : Nat)) /\ (0 : Nat) = (0 : Nat) /\ (2 : Nat) <= (100 : Nat)) (.obt (.br (F44 n0 (elV tyR f0) n2 (elV tyT f2) n4 (elV tyF f4) n6 (elV tyC f6) 2 (elV tp1 (secF [vi x8, vi (↑n0 : Int)] 0 1)) != 0) (.ret (V.tup [vi 0, vi (F44 n0 (elV tyR f0) n2 (elV tyT f2) n4 (elV tyF f4) n6 (elV tyC f6) 2 (elV tp1 (secF [vi x8, vi (↑n0 : Int)] 0 1)))])) (.obc (.obt (.br (F53_0 x9 x10 x11 x12) (.ret (V.tup [vi 0, vi 7])) (.ob (decide (0 <= x8 /\ x8 < (↑n0 : Int))) (.obc (.obt (.ret (V.tup [vi (F61 (lenV (hdV (tlV (tlV (f0 x8.toNat))))) (fun i => views tp2 (atV (hdV (tlV (tlV (f0 x8.toNat)))) i)) (jv3 (f0 x8.toNat)) x9 x10 x11 x12), vi 0])))))))))))
theorem run22 (n0 : Nat) (f0 : FnV) (n2 : Nat) (f2 : FnV) (n4 : Nat) (f4 : FnV) (n6 : Nat) (f6 : FnV) (x8 x9 x10 x11 x12 : Int) : Fit noD (runL JJ ctB16e u0 s22 [scV n0 f0 n2 f2 n4 f4 n6 f6, vi x8, V.agg [vi x9, vi x10, vi x11, vi x12]]) (m22 n0 f0 n2 f2 n4 f4 n6 f6 x8 x9 x10 x11 x12) := ⟨by kernel_rfl, by kernel_rfl⟩
def F22_0 (n0 : Nat) (f0 : FnV) (n2 : Nat) (f2 : FnV) (n4 : Nat) (f4 : FnV) (n6 : Nat) (f6 : FnV) (x8 x9 x10 x11 x12 : Int) : Int := bif F44 n0 (elV tyR f0) n2 (elV tyT f2) n4 (elV tyF f4) n6 (elV tyC f6) 2 (elV tp1 (secF [vi x8, vi (↑n0 : Int)] 0 1)) != 0 then 0 else bif F53_0 x9 x10 x11 x12 then 0 else F61 (lenV (hdV (tlV (tlV (f0 x8.toNat))))) (fun i => views tp2 (atV (hdV (tlV (tlV (f0 x8.toNat)))) i)) (jv3 (f0 x8.toNat)) x9 x10 x11 x12
def F22_1 (n0 : Nat) (f0 : FnV) (n2 : Nat) (f2 : FnV) (n4 : Nat) (f4 : FnV) (n6 : Nat) (f6 : FnV) (x8 x9 x10 x11 x12 : Int) : Int := bif F44 n0 (elV tyR f0) n2 (elV tyT f2) n4 (elV tyF f4) n6 (elV tyC f6) 2 (elV tp1 (secF [vi x8, vi (↑n0 : Int)] 0 1)) != 0 then F44 n0 (elV tyR f0) n2 (elV tyT f2) n4 (elV tyF f4) n6 (elV tyC f6) 2 (elV tp1 (secF [vi x8, vi (↑n0 : Int)] 0 1)) else bif F53_0 x9 x10 x11 x12 then 7 else 0
def R22 (n0 : Nat) (f0 : FnV) (n2 : Nat) (f2 : FnV) (n4 : Nat) (f4 : FnV) (n6 : Nat) (f6 : FnV) (x8 x9 x10 x11 x12 : Int) : V := .tup [.int i64 (F22_0 n0 f0 n2 f2 n4 f4 n6 f6 x8 x9 x10 x11 x12), .int i64 (F22_1 n0 f0 n2 f2 n4 f4 n6 f6 x8 x9 x10 x11 x12)]
theorem ev22 (n0 : Nat) (f0 : FnV) (n2 : Nat) (f2 : FnV) (n4 : Nat) (f4 : FnV) (n6 : Nat) (f6 : FnV) (x8 x9 x10 x11 x12 : Int) (hp : SzOk n0 f0 /\ SzOk n6 f6) : evR noE (m22 n0 f0 n2 f2 n4 f4 n6 f6 x8 x9 x10 x11 x12) (R22 n0 f0 n2 f2 n4 f4 n6 f6 x8 x9 x10 x11 x12) := evAsm (fun a0 => evObp (by first | assumption | ((first | exact ⟨hp, rfl, by decide⟩ | (simp_all [cond_eq_ite] <;> first | omega | exact (k44_4 (by assumption) (by assumption) h0).1 | exact (k44_4 (by assumption) (by assumption) h0).2 | exact k44_2 (by assumption) h0 | exact k44_2 (by assumption) h1 | exact k50 h0 | exact k50 h1 | exact k50 hc.1 | exact k44_2 (by assumption) hc)))) (evObt (evBr (fun h0 => evRet (by unfold R22 F22_0 F22_1; try rw [h0]; rfl)) (fun h0 => evObc (evObt (evBr (fun h1 => evRet (by unfold R22 F22_0 F22_1; try rw [h0]; try rw [h1]; rfl)) (fun h1 => evOb (by first | assumption | ((simp_all [cond_eq_ite] <;> first | omega | exact (k44_4 (by assumption) (by assumption) h0).1 | exact (k44_4 (by assumption) (by assumption) h0).2 | exact k44_2 (by assumption) h0 | exact k44_2 (by assumption) h1 | exact k50 h0 | exact k50 h1 | exact k50 hc.1 | exact k44_2 (by assumption) hc))) (evObc (evObt (evRet (by unfold R22 F22_0 F22_1; try rw [h0]; try rw [h1]; rfl)))))))))))
def C22 : PCon := mkC [.agg [.sl tyR, .sl tyT, .sl tyF, .sl tyC], .int .i64, .agg tp4] (fun
 | [.agg [.sl n0 f0, .sl n2 f2, .sl n4 f4, .sl n6 f6], .int _ x8, .agg [.int _ x9, .int _ x10, .int _ x11, .int _ x12]] => SzOk n0 f0 /\ SzOk n6 f6
 | _ => False) fun
 | [.agg [.sl n0 f0, .sl n2 f2, .sl n4 f4, .sl n6 f6], .int _ x8, .agg [.int _ x9, .int _ x10, .int _ x11, .int _ x12]] => R22 n0 f0 n2 f2 n4 f4 n6 f6 x8 x9 x10 x11 x12
 | _ => .any
theorem ok22 : (vP C22).Ok Tryz.prog 22 := mkE tabB16e Tryz.func22 (by kernel_rfl) fun ds hp => rf0 (run22 ..) (ev22 _ _ _ _ _ _ _ _ _ _ _ _ _ hp)
def m25 (n0 : Nat) (f0 : FnV) (n2 : Nat) (f2 : FnV) (n4 : Nat) (f4 : FnV) (n6 : Nat) (f6 : FnV) (x8 x9 x10 : Int) : RT Empty := .asm (true = true -> n0 <= 9223372036854775807) (.obp (((∀ (i : Nat), i < n0 -> (sv (hdV (f0 i))).size <= (9223372036854775807 : Nat)) /\ ∀ (i : Nat), i < n6 -> (sv (hdV (f6 i))).size <= (9223372036854775807 : Nat)) /\ (0 : Nat) = (0 : Nat) /\ (2 : Nat) <= (100 : Nat)) (.obt (.br (F44 n0 (elV tyR f0) n2 (elV tyT f2) n4 (elV tyF f4) n6 (elV tyC f6) 2 (elV tp1 (secF [vi x8, vi (↑n0 : Int)] 0 1)) != 0) (.ret (V.tup [V.kb false, vi (F44 n0 (elV tyR f0) n2 (elV tyT f2) n4 (elV tyF f4) n6 (elV tyC f6) 2 (elV tp1 (secF [vi x8, vi (↑n0 : Int)] 0 1)))])) (.obc (.obt (.br (F45_0 2 (elV tp1 (secF [vi x9, vi x10] 0 1))) (.ret (V.tup [V.kb false, vi 7])) (.ob (decide (0 <= x8 /\ x8 < (↑n0 : Int))) (.obc (.obt (.ret (V.tup [V.bool (F74 (lenV (hdV (tlV (tlV (f0 x8.toNat))))) (fun i => views tp2 (atV (hdV (tlV (tlV (f0 x8.toNat)))) i)) (jv3 (f0 x8.toNat)) x9 x10), vi 0])))))))))))
theorem run25 (n0 : Nat) (f0 : FnV) (n2 : Nat) (f2 : FnV) (n4 : Nat) (f4 : FnV) (n6 : Nat) (f6 : FnV) (x8 x9 x10 : Int) : Fit noD (runL JJ ctB16e u0 s25 [scV n0 f0 n2 f2 n4 f4 n6 f6, vi x8, vi x9, vi x10]) (m25 n0 f0 n2 f2 n4 f4 n6 f6 x8 x9 x10) := ⟨by kernel_rfl, by kernel_rfl⟩
def F25_0 (n0 : Nat) (f0 : FnV) (n2 : Nat) (f2 : FnV) (n4 : Nat) (f4 : FnV) (n6 : Nat) (f6 : FnV) (x8 x9 x10 : Int) : Bool := bif F44 n0 (elV tyR f0) n2 (elV tyT f2) n4 (elV tyF f4) n6 (elV tyC f6) 2 (elV tp1 (secF [vi x8, vi (↑n0 : Int)] 0 1)) != 0 then false else bif F45_0 2 (elV tp1 (secF [vi x9, vi x10] 0 1)) then false else F74 (lenV (hdV (tlV (tlV (f0 x8.toNat))))) (fun i => views tp2 (atV (hdV (tlV (tlV (f0 x8.toNat)))) i)) (jv3 (f0 x8.toNat)) x9 x10
def F25_1 (n0 : Nat) (f0 : FnV) (n2 : Nat) (f2 : FnV) (n4 : Nat) (f4 : FnV) (n6 : Nat) (f6 : FnV) (x8 x9 x10 : Int) : Int := bif F44 n0 (elV tyR f0) n2 (elV tyT f2) n4 (elV tyF f4) n6 (elV tyC f6) 2 (elV tp1 (secF [vi x8, vi (↑n0 : Int)] 0 1)) != 0 then F44 n0 (elV tyR f0) n2 (elV tyT f2) n4 (elV tyF f4) n6 (elV tyC f6) 2 (elV tp1 (secF [vi x8, vi (↑n0 : Int)] 0 1)) else bif F45_0 2 (elV tp1 (secF [vi x9, vi x10] 0 1)) then 7 else 0
def R25 (n0 : Nat) (f0 : FnV) (n2 : Nat) (f2 : FnV) (n4 : Nat) (f4 : FnV) (n6 : Nat) (f6 : FnV) (x8 x9 x10 : Int) : V := .tup [.bool (F25_0 n0 f0 n2 f2 n4 f4 n6 f6 x8 x9 x10), .int i64 (F25_1 n0 f0 n2 f2 n4 f4 n6 f6 x8 x9 x10)]
theorem ev25 (n0 : Nat) (f0 : FnV) (n2 : Nat) (f2 : FnV) (n4 : Nat) (f4 : FnV) (n6 : Nat) (f6 : FnV) (x8 x9 x10 : Int) (hp : SzOk n0 f0 /\ SzOk n6 f6) : evR noE (m25 n0 f0 n2 f2 n4 f4 n6 f6 x8 x9 x10) (R25 n0 f0 n2 f2 n4 f4 n6 f6 x8 x9 x10) := evAsm (fun a0 => evObp (by first | assumption | ((first | exact ⟨hp, rfl, by decide⟩ | (simp_all [cond_eq_ite] <;> first | omega | exact (k44_4 (by assumption) (by assumption) h0).1 | exact (k44_4 (by assumption) (by assumption) h0).2 | exact k44_2 (by assumption) h0 | exact k44_2 (by assumption) h1 | exact k50 h0 | exact k50 h1 | exact k50 hc.1 | exact k44_2 (by assumption) hc)))) (evObt (evBr (fun h0 => evRet (by unfold R25 F25_0 F25_1; try rw [h0]; rfl)) (fun h0 => evObc (evObt (evBr (fun h1 => evRet (by unfold R25 F25_0 F25_1; try rw [h0]; try rw [h1]; rfl)) (fun h1 => evOb (by first | assumption | ((simp_all [cond_eq_ite] <;> first | omega | exact (k44_4 (by assumption) (by assumption) h0).1 | exact (k44_4 (by assumption) (by assumption) h0).2 | exact k44_2 (by assumption) h0 | exact k44_2 (by assumption) h1 | exact k50 h0 | exact k50 h1 | exact k50 hc.1 | exact k44_2 (by assumption) hc))) (evObc (evObt (evRet (by unfold R25 F25_0 F25_1; try rw [h0]; try rw [h1]; rfl)))))))))))
def C25 : PCon := mkC [.agg [.sl tyR, .sl tyT, .sl tyF, .sl tyC], .int .i64, .int .i64, .int .i64] (fun
 | [.agg [.sl n0 f0, .sl n2 f2, .sl n4 f4, .sl n6 f6], .int _ x8, .int _ x9, .int _ x10] => SzOk n0 f0 /\ SzOk n6 f6
 | _ => False) fun
 | [.agg [.sl n0 f0, .sl n2 f2, .sl n4 f4, .sl n6 f6], .int _ x8, .int _ x9, .int _ x10] => R25 n0 f0 n2 f2 n4 f4 n6 f6 x8 x9 x10
 | _ => .any
theorem ok25 : (vP C25).Ok Tryz.prog 25 := mkE tabB16e Tryz.func25 (by kernel_rfl) fun ds hp => rf0 (run25 ..) (ev25 _ _ _ _ _ _ _ _ _ _ _ hp)
def m15 (n0 : Nat) (f0 : FnV) (n2 : Nat) (f2 : FnV) (n4 : Nat) (f4 : FnV) (n6 : Nat) (f6 : FnV) (x8 x9 x10 : Int) : RT Empty := .asm (true = true -> n6 <= 9223372036854775807) (.obp (((∀ (i : Nat), i < n0 -> (sv (hdV (f0 i))).size <= (9223372036854775807 : Nat)) /\ ∀ (i : Nat), i < n6 -> (sv (hdV (f6 i))).size <= (9223372036854775807 : Nat)) /\ (0 : Nat) = (0 : Nat) /\ (2 : Nat) <= (100 : Nat)) (.obt (.br (F44 n0 (elV tyR f0) n2 (elV tyT f2) n4 (elV tyF f4) n6 (elV tyC f6) 2 (elV tp1 (secF [vi x8, vi (↑n6 : Int)] 0 1)) != 0) (.ret (V.tup [vi 0, vi (F44 n0 (elV tyR f0) n2 (elV tyT f2) n4 (elV tyF f4) n6 (elV tyC f6) 2 (elV tp1 (secF [vi x8, vi (↑n6 : Int)] 0 1)))])) (.obc (.obt (.br (F45_0 2 (elV tp1 (secF [vi x9, vi x10] 0 1))) (.ret (V.tup [vi 0, vi 7])) (.obp ((0 : Int) <= x8 /\ x8 < (↑n6 : Int)) (.obt (.ret (V.tup [vi (F46 n2 (elV tyT f2) (elV tyC f6) x8 x9 x10), vi 0]))))))))))
theorem run15 (n0 : Nat) (f0 : FnV) (n2 : Nat) (f2 : FnV) (n4 : Nat) (f4 : FnV) (n6 : Nat) (f6 : FnV) (x8 x9 x10 : Int) : Fit noD (runL JJ ctB16e u0 s15 [scV n0 f0 n2 f2 n4 f4 n6 f6, vi x8, vi x9, vi x10]) (m15 n0 f0 n2 f2 n4 f4 n6 f6 x8 x9 x10) := ⟨by kernel_rfl, by kernel_rfl⟩
def F15_0 (n0 : Nat) (f0 : FnV) (n2 : Nat) (f2 : FnV) (n4 : Nat) (f4 : FnV) (n6 : Nat) (f6 : FnV) (x8 x9 x10 : Int) : Int := bif F44 n0 (elV tyR f0) n2 (elV tyT f2) n4 (elV tyF f4) n6 (elV tyC f6) 2 (elV tp1 (secF [vi x8, vi (↑n6 : Int)] 0 1)) != 0 then 0 else bif F45_0 2 (elV tp1 (secF [vi x9, vi x10] 0 1)) then 0 else F46 n2 (elV tyT f2) (elV tyC f6) x8 x9 x10
def F15_1 (n0 : Nat) (f0 : FnV) (n2 : Nat) (f2 : FnV) (n4 : Nat) (f4 : FnV) (n6 : Nat) (f6 : FnV) (x8 x9 x10 : Int) : Int := bif F44 n0 (elV tyR f0) n2 (elV tyT f2) n4 (elV tyF f4) n6 (elV tyC f6) 2 (elV tp1 (secF [vi x8, vi (↑n6 : Int)] 0 1)) != 0 then F44 n0 (elV tyR f0) n2 (elV tyT f2) n4 (elV tyF f4) n6 (elV tyC f6) 2 (elV tp1 (secF [vi x8, vi (↑n6 : Int)] 0 1)) else bif F45_0 2 (elV tp1 (secF [vi x9, vi x10] 0 1)) then 7 else 0
def R15 (n0 : Nat) (f0 : FnV) (n2 : Nat) (f2 : FnV) (n4 : Nat) (f4 : FnV) (n6 : Nat) (f6 : FnV) (x8 x9 x10 : Int) : V := .tup [.int i64 (F15_0 n0 f0 n2 f2 n4 f4 n6 f6 x8 x9 x10), .int i64 (F15_1 n0 f0 n2 f2 n4 f4 n6 f6 x8 x9 x10)]
theorem ev15 (n0 : Nat) (f0 : FnV) (n2 : Nat) (f2 : FnV) (n4 : Nat) (f4 : FnV) (n6 : Nat) (f6 : FnV) (x8 x9 x10 : Int) (hp : SzOk n0 f0 /\ SzOk n6 f6) : evR noE (m15 n0 f0 n2 f2 n4 f4 n6 f6 x8 x9 x10) (R15 n0 f0 n2 f2 n4 f4 n6 f6 x8 x9 x10) := evAsm (fun a0 => evObp (by first | assumption | ((first | exact ⟨hp, rfl, by decide⟩ | (simp_all [cond_eq_ite] <;> first | omega | exact (k44_4 (by assumption) (by assumption) h0).1 | exact (k44_4 (by assumption) (by assumption) h0).2 | exact k44_2 (by assumption) h0 | exact k44_2 (by assumption) h1 | exact k50 h0 | exact k50 h1 | exact k50 hc.1 | exact k44_2 (by assumption) hc)))) (evObt (evBr (fun h0 => evRet (by unfold R15 F15_0 F15_1; try rw [h0]; rfl)) (fun h0 => evObc (evObt (evBr (fun h1 => evRet (by unfold R15 F15_0 F15_1; try rw [h0]; try rw [h1]; rfl)) (fun h1 => evObp (by first | assumption | ((first | exact ⟨hp, rfl, by decide⟩ | (simp_all [cond_eq_ite] <;> first | omega | exact (k44_4 (by assumption) (by assumption) h0).1 | exact (k44_4 (by assumption) (by assumption) h0).2 | exact k44_2 (by assumption) h0 | exact k44_2 (by assumption) h1 | exact k50 h0 | exact k50 h1 | exact k50 hc.1 | exact k44_2 (by assumption) hc)))) (evObt (evRet (by unfold R15 F15_0 F15_1; try rw [h0]; try rw [h1]; rfl))))))))))
def C15 : PCon := mkC [.agg [.sl tyR, .sl tyT, .sl tyF, .sl tyC], .int .i64, .int .i64, .int .i64] (fun
 | [.agg [.sl n0 f0, .sl n2 f2, .sl n4 f4, .sl n6 f6], .int _ x8, .int _ x9, .int _ x10] => SzOk n0 f0 /\ SzOk n6 f6
 | _ => False) fun
 | [.agg [.sl n0 f0, .sl n2 f2, .sl n4 f4, .sl n6 f6], .int _ x8, .int _ x9, .int _ x10] => R15 n0 f0 n2 f2 n4 f4 n6 f6 x8 x9 x10
 | _ => .any
theorem ok15 : (vP C15).Ok Tryz.prog 15 := mkE tabB16e Tryz.func15 (by kernel_rfl) fun ds hp => rf0 (run15 ..) (ev15 _ _ _ _ _ _ _ _ _ _ _ hp)
end
end Go.Dx
namespace Go.Dx
open Go.IntKind (i64 u64 u8)
open Go.Sx Go.Proofs
noncomputable section
def ctB20 : CTab := (22, .con C22) :: (25, .con C25) :: (15, .con C15) :: ctB16e
theorem tabB20 : TabOk Tryz.prog eqs its ctB20 := .con ok22 (.con ok25 (.con ok15 (tabB16e)))
end
noncomputable section
def ctB21 : CTab := ctB20
theorem tabB21 : TabOk Tryz.prog eqs its ctB21 := tabB20
end
noncomputable section
def ctB22 : CTab := ctB21
theorem tabB22 : TabOk Tryz.prog eqs its ctB22 := tabB21
def u2 : Unr := fun k => bif Nat.beq k 2 then 5 else 0
end
noncomputable section
def ctB23 : CTab := ctB22
theorem tabB23 : TabOk Tryz.prog eqs its ctB23 := tabB22
attribute [local irreducible] F44 F50_0 F91_0
end
end Go.Dx
namespace Go.Dx
open Go.IntKind (i64 u64 u8)
open Go.Sx
noncomputable section
theorem wrapU {x : Int} (h1 : 0 <= x) (h2 : x < 18446744073709551616) : u64.wrap x = x := IntWalk.u64_in _ (by omega)
theorem mulS {x y A B : Int} (h1 : -A <= x) (h2 : x <= A) (h3 : -B <= y) (h4 : y <= B) : -(A * B) <= x * y /\ x * y <= A * B := by
 have hA : 0 <= A := by omega
 have hB : 0 <= B := by omega
 by_cases hy : 0 <= y
 ·have a1 : x * y <= A * y := Int.mul_le_mul_of_nonneg_right h2 hy
  have a2 : A * y <= A * B := iml h4 hA
  have a3 : -A * y <= x * y := Int.mul_le_mul_of_nonneg_right h1 hy
  rw [Int.neg_mul] at a3
  exact ⟨by omega, by omega⟩
 ·have hy' : 0 <= -y := by omega
  have a1 : x * (-y) <= A * (-y) := Int.mul_le_mul_of_nonneg_right h2 hy'
  have a2 : A * (-y) <= A * B := iml (by omega) hA
  have a3 : -A * (-y) <= x * (-y) := Int.mul_le_mul_of_nonneg_right h1 hy'
  have b1 : x * (-y) = -(x * y) := Int.mul_neg _ _
  have b3 : -A * (-y) = -(A * (-y)) := Int.neg_mul _ _
  exact ⟨by omega, by omega⟩
theorem sqN (x : Int) : 0 <= x * x := by
 by_cases h : 0 <= x
 ·exact imn h h
 ·rw [← Int.neg_mul_neg]; exact imn (by omega) (by omega)
theorem parts {x : Int} (h0 : 0 <= x) (h1 : x < 18446744073709551616) : 0 <= x / 4294967296 /\ x / 4294967296 <= 4294967295 /\ 0 <= x % 4294967296 /\ x % 4294967296 <= 4294967295 := by omega
theorem hi_p {x y : Int} (hx0 : 0 <= x) (hx : x < 18446744073709551616) (hy0 : 0 <= y) (hy : y < 18446744073709551616) : F162_0 x y = x * y / 18446744073709551616 := by
 rw [← mul64_arith x y hx0 hx hy0 hy]
 unfold F162_0
 simp only [and_low32 _ hx0 hx, and_low32 _ hy0 hy, IntKind.wrap_u64]
 rw [and_low32 _ (by omega) (by omega)]
 simp only [show (2 : Int) ^ 32 = 4294967296 from rfl]
 rw [Int.fdiv_eq_ediv_of_nonneg _ (by omega), Int.fdiv_eq_ediv_of_nonneg _ (by omega), Int.fdiv_eq_ediv_of_nonneg _ (by omega), Int.fdiv_eq_ediv_of_nonneg _ (by omega), Int.fdiv_eq_ediv_of_nonneg _ (by omega)]
theorem lo_p (x y : Int) : F162_1 x y = x * y % 18446744073709551616 := by unfold F162_1; rw [IntKind.wrap_u64]
theorem atMost_p {x y z w : Int} (hx0 : 0 <= x) (hx : x < 9223372036854775808) (hy0 : 0 <= y) (hy : y < 9223372036854775808) (hz0 : 0 <= z) (hz : z < 9223372036854775808) (hw0 : 0 <= w) (hw : w < 9223372036854775808) :
 F135_0 (F134_0 x y) (F134_1 x y) (F134_0 z w) (F134_1 z w) = decide (x * y <= z * w) := by
 unfold F134_0 F134_1 F135_0
 rw [wrapU hx0 (by omega), wrapU hy0 (by omega), wrapU hz0 (by omega), wrapU hw0 (by omega)]
 rw [hi_p hx0 (by omega) hy0 (by omega), hi_p hz0 (by omega) hw0 (by omega), lo_p, lo_p]
 generalize x * y = a
 generalize z * w = b
 rw [Bool.eq_iff_iff]
 simp only [Bool.cond_eq_ite, Bool.and_true, Bool.and_eq_true, beq_iff_eq, decide_eq_true_eq]
 split <;> (try split) <;> (try split) <;> simp_all <;> omega
def nr (ax ay bx by' px py r : Int) : Bool :=
 bif decide ((px - ax) * (bx - ax) + (py - ay) * (by' - ay) <= 0) then decide ((px - ax) * (px - ax) + (py - ay) * (py - ay) <= r * r)
 else bif decide ((bx - ax) * (bx - ax) + (by' - ay) * (by' - ay) <= (px - ax) * (bx - ax) + (py - ay) * (by' - ay)) then decide ((px - bx) * (px - bx) + (py - by') * (py - by') <= r * r)
 else decide (((bx - ax) * (py - ay) - (by' - ay) * (px - ax)) * ((bx - ax) * (py - ay) - (by' - ay) * (px - ax)) <= r * r * ((bx - ax) * (bx - ax) + (by' - ay) * (by' - ay)))
def sm (x : Int) : Prop := -536870912 <= x /\ x <= 536870912
theorem abs_sq (c : Int) : max c (0 - c) * max c (0 - c) = c * c := by
 by_cases h : 0 <= c
 ·rw [show max c (0 - c) = c from by omega]
 ·rw [show max c (0 - c) = -c from by omega, Int.neg_mul_neg]
section
variable {ax ay bx by' px py r : Int}
theorem near_p (h1 : sm ax) (h2 : sm ay) (h3 : sm bx) (h4 : sm by') (h5 : sm px) (h6 : sm py) (h7 : 0 <= r) (h8 : r <= 1073741824) : F103_0 ax ay bx by' px py r = nr ax ay bx by' px py r := by
 unfold sm at *
 unfold F103_0 nr F84_0 F84_1
 rw [wrapI (x := bx - ax) (by omega) (by omega), wrapI (x := by' - ay) (by omega) (by omega), wrapI (x := px - ax) (by omega) (by omega), wrapI (x := py - ay) (by omega) (by omega), wrapI (x := px - bx) (by omega) (by omega), wrapI (x := py - by') (by omega) (by omega)]
 have e1 : -1073741824 <= bx - ax /\ bx - ax <= 1073741824 := by omega
 have e2 : -1073741824 <= by' - ay /\ by' - ay <= 1073741824 := by omega
 have e3 : -1073741824 <= px - ax /\ px - ax <= 1073741824 := by omega
 have e4 : -1073741824 <= py - ay /\ py - ay <= 1073741824 := by omega
 have e5 : -1073741824 <= px - bx /\ px - bx <= 1073741824 := by omega
 have e6 : -1073741824 <= py - by' /\ py - by' <= 1073741824 := by omega
 generalize bx - ax = dx at *
 generalize by' - ay = dy at *
 generalize px - ax = ux at *
 generalize py - ay = uy at *
 generalize px - bx = vx at *
 generalize py - by' = vy at *
 have k : ∀ a b c d : Int, (-1073741824 <= a /\ a <= 1073741824) -> (-1073741824 <= b /\ b <= 1073741824) -> (-1073741824 <= c /\ c <= 1073741824) -> (-1073741824 <= d /\ d <= 1073741824) -> F85_0 a b c d = a * c + b * d /\ -2305843009213693952 <= a * c + b * d /\ a * c + b * d <= 2305843009213693952 := by
  intro a b c d ha hb hc hd
  have m1 := mulS ha.1 ha.2 hc.1 hc.2
  have m2 := mulS hb.1 hb.2 hd.1 hd.2
  unfold F85_0
  rw [wrapI (x := a * c) (by omega) (by omega), wrapI (x := b * d) (by omega) (by omega), wrapI (by omega) (by omega)]
  exact ⟨rfl, by omega, by omega⟩
 have hr := mulS (x := r) (y := r) (A := 1073741824) (B := 1073741824) (by omega) h8 (by omega) h8
 have hr0 : 0 <= r * r := imn h7 h7
 have s1 : 0 <= dx * dx := sqN dx
 have s2 : 0 <= dy * dy := sqN dy
 rw [(k ux uy dx dy e3 e4 e1 e2).1, (k ux uy ux uy e3 e4 e3 e4).1, (k dx dy dx dy e1 e2 e1 e2).1, (k vx vy vx vy e5 e6 e5 e6).1, wrapI (x := r * r) (by omega) (by omega)]
 have c1 := mulS e1.1 e1.2 e4.1 e4.2
 have c2 := mulS e2.1 e2.2 e3.1 e3.2
 have d1 := mulS e1.1 e1.2 e1.1 e1.2
 have d2 := mulS e2.1 e2.2 e2.1 e2.2
 rw [show F127_0 dx dy ux uy = dx * uy - dy * ux from by
  unfold F127_0
  rw [wrapI (x := dx * uy) (by omega) (by omega), wrapI (x := dy * ux) (by omega) (by omega), wrapI (by omega) (by omega)]]
 rw [wrapI (x := 0 - (dx * uy - dy * ux)) (by omega) (by omega)]
 rw [atMost_p (by omega) (by omega) (by omega) (by omega) hr0 (by omega) (by omega) (by omega), abs_sq]
end
end
end Go.Dx
namespace Go.Dx
open Go.IntKind (i64 u64 u8)
def sd (ax ay bx b2 px py : Int) : Int := (bx - ax) * (py - ay) - (b2 - ay) * (px - ax)
section
variable {ax ay bx b2 X0 Y0 X1 Y1 : Int}
def Bx (ax ay bx b2 X0 Y0 X1 Y1 : Int) : Prop := ¬ (max ax bx < X0 ∨ X1 < min ax bx ∨ max ay b2 < Y0 ∨ Y1 < min ay b2)
end
end Go.Dx
namespace Go.Dx
open Go.IntKind (i64 u64 u8)
open Go.Sx
noncomputable section
theorem out_from (a l h : Int) : F71_0 a l h = !F86_0 a l h := by
 unfold F71_0 F86_0
 by_cases h1 : a < l
 ·rw [dqt h1, dqf (show ¬ l <= a by omega)]; rfl
 ·rw [dqf h1, dqt (show l <= a by omega)]
  by_cases h2 : h < a
  ·rw [dqt h2, cond_false, cond_true]; exact dqf (by omega)
  ·rw [dqf h2, cond_false, cond_true]; exact dqt (by omega)
theorem exB_congr {n : Nat} {p q : Nat -> Bool} (h : ∀ i, i < n -> p i = q i) : exB n p = exB n q := by
 cases hq : exB n q with
 | true =>
   obtain ⟨i, hi, hp⟩ := exB_iff.1 hq
   exact exB_true i hi (by rw [h i hi]; exact hp)
 | false =>
   refine exB_false fun i hi => ?_
   rw [h i hi]
   cases hp : q i with
   | false => rfl
   | true => rw [exB_true i hi hp] at hq; cases hq
theorem wild_placed (n : Nat) (f : Nat -> List V) : F45_0 n f = !F51 n f := by
 unfold F45_0 F99_0 F133
 rw [idx_geq]
 unfold exB F51
 congr 1
 congr 1
 funext i
 rw [out_from]; rfl
theorem toL_len (s : ByteArray) : ∀ (k i : Nat) (r : List UInt8), s.size - i = k -> (ByteArray.toList.loop s i r).length = r.length + k := by
 intro k
 induction k with
 | zero =>
   intro i r h
   rw [ByteArray.toList.loop]
   have : ¬ i < s.size := by omega
   simp [this]
 | succ k ih =>
   intro i r h
   rw [ByteArray.toList.loop]
   have : i < s.size := by omega
   simp only [this, if_true]
   rw [ih (i + 1) _ (by omega)]
   simp; omega
theorem toL_nil (s : ByteArray) : (s.toList == (⟨#[]⟩ : ByteArray).toList) = decide (s.size = 0) := by
 have e : (⟨#[]⟩ : ByteArray).toList = [] := by decide +kernel
 rw [e]
 have hl : s.toList.length = s.size := by
  unfold ByteArray.toList; rw [toL_len s s.size 0 [] (by omega)]; simp
 by_cases h : s.size = 0
 ·rw [dqt h]
  have : s.toList = [] := List.eq_nil_of_length_eq_zero (by omega)
  rw [this]; rfl
 ·rw [dqf h]
  cases hs : s.toList with
  | nil => rw [hs] at hl; simp at hl; omega
  | cons a l => rfl
theorem dropWhile_nil {α : Type} {p : α -> Bool} : ∀ {l : List α}, l.dropWhile p = [] ↔ ∀ x ∈ l, p x = true
 | [] => by simp
 | a :: l => by
   rw [List.dropWhile_cons]
   cases h : p a with
   | true => simp only [if_true]; rw [dropWhile_nil]; simp [h]
   | false => simp [h]
theorem trim_nil (l cs : List UInt8) : Lib.trimS l cs = [] ↔ ∀ b ∈ l, cs.contains b = true := by
 unfold Lib.trimS Lib.trimLeftS Lib.trimRightS
 rw [dropWhile_nil]
 constructor
 ·intro h
  have h1 : l.reverse.dropWhile (cs.contains ·) = [] := by
   cases hd : l.reverse.dropWhile (cs.contains ·) with
   | nil => rfl
   | cons a r =>
     have ha : cs.contains a = true := h a (by rw [hd]; simp)
     have hh := List.head_dropWhile_not (cs.contains ·) (l := l.reverse) (by rw [hd]; simp)
     simp only [hd, List.head_cons] at hh
     rw [ha] at hh; cases hh
  rw [dropWhile_nil] at h1
  exact fun b hb => h1 b (by simpa using hb)
 ·intro h b hb
  have : b ∈ l.reverse := by
   have := List.mem_reverse.1 hb
   exact (List.dropWhile_sublist _).subset this
  exact h b (by simpa using this)
def nmB (b : Nat) : Bool := (decide (97 <= b) && decide (b <= 122)) || ((decide (48 <= b) && decide (b <= 57)) || decide (b = 45))
theorem cut_bytes (b : UInt8) : ([97, 98, 99, 100, 101, 102, 103, 104, 105, 106, 107, 108, 109, 110, 111, 112, 113, 114, 115, 116, 117, 118, 119, 120, 121, 122, 48, 49, 50, 51, 52, 53, 54, 55, 56, 57, 45] : List UInt8).contains b = nmB b.toNat := by
 have key : ∀ n : Fin 256, ([97, 98, 99, 100, 101, 102, 103, 104, 105, 106, 107, 108, 109, 110, 111, 112, 113, 114, 115, 116, 117, 118, 119, 120, 121, 122, 48, 49, 50, 51, 52, 53, 54, 55, 56, 57, 45] : List UInt8).contains (UInt8.ofNat n.val) = nmB n.val := by decide +kernel
 have := key ⟨b.toNat, b.toNat_lt⟩
 simpa using this
theorem getD_el {l : List UInt8} {i : Nat} (h : i < l.length) : l.getD i 0 = l[i] := by simp [List.getD, h]
theorem badN_eq (s : ByteArray) (i : Nat) : (!badN s i) = (nmB (s.data.toList.getD i 0).toNat && (decide (0 < i) || (decide (97 <= (s.data.toList.getD i 0).toNat) && decide ((s.data.toList.getD i 0).toNat <= 122)))) := by
 unfold badN nmB
 generalize (s.data.toList.getD i 0).toNat = b
 rw [Bool.eq_iff_iff]
 simp only [Bool.cond_eq_ite, Bool.not_eq_true', Bool.and_eq_true, Bool.or_eq_true, decide_eq_true_eq]
 split <;> split <;> (try split) <;> simp_all <;> omega
theorem name_eq (s : ByteArray) : F114_0 s = F122 s := by
 unfold F114_0 F122
 rw [toL_nil]
 have hsz : s.size = s.data.toList.length := by rw [Array.length_toList]; rfl
 by_cases h0 : s.size = 0
 ·rw [dqt h0, h0]; rfl
 rw [dqf h0]
 have e0 : decide (0 < (s.size : Int)) = true := dqt (by omega)
 rw [e0]
 by_cases h24 : (s.size : Int) <= 24
 case neg => rw [dqf h24]; simp
 rw [dqt h24]
 simp only [Bool.not_false, cond_true, Bool.and_true]
 rw [toL_nil]
 rw [Bool.eq_iff_iff]
 have ht : (F146 s (ByteArray.mk (Array.mk [97, 98, 99, 100, 101, 102, 103, 104, 105, 106, 107, 108, 109, 110, 111, 112, 113, 114, 115, 116, 117, 118, 119, 120, 121, 122, 48, 49, 50, 51, 52, 53, 54, 55, 56, 57, 45]))).size = 0 ↔ ∀ b ∈ s.data.toList, nmB b.toNat = true := by
  rw [show (F146 s (ByteArray.mk (Array.mk [97, 98, 99, 100, 101, 102, 103, 104, 105, 106, 107, 108, 109, 110, 111, 112, 113, 114, 115, 116, 117, 118, 119, 120, 121, 122, 48, 49, 50, 51, 52, 53, 54, 55, 56, 57, 45]))).size = (Lib.trimS s.data.toList [97, 98, 99, 100, 101, 102, 103, 104, 105, 106, 107, 108, 109, 110, 111, 112, 113, 114, 115, 116, 117, 118, 119, 120, 121, 122, 48, 49, 50, 51, 52, 53, 54, 55, 56, 57, 45]).length from by simp [F146, ByteArray.size]]
  rw [List.length_eq_zero_iff, trim_nil]
  constructor
  ·intro h b hb; rw [← cut_bytes]; exact h b hb
  ·intro h b hb; rw [cut_bytes]; exact h b hb
 have hb : allB s.size (fun i => !badN s i) = true ↔ (∀ b ∈ s.data.toList, nmB b.toNat = true) /\ 97 <= (s.data.toList.getD 0 0).toNat /\ (s.data.toList.getD 0 0).toNat <= 122 := by
  rw [allB_true]
  constructor
  ·intro h
   refine ⟨fun b hb => ?_, ?_⟩
   ·obtain ⟨i, hi, rfl⟩ := List.getElem_of_mem hb
    have := h i (by omega)
    rw [badN_eq, Bool.and_eq_true] at this
    rw [getD_el hi] at this
    exact this.1
   ·have := h 0 (by omega)
    rw [badN_eq] at this
    simp only [Bool.and_eq_true, Bool.or_eq_true, decide_eq_true_eq] at this
    rcases this.2 with h1 | h1
    ·omega
    ·exact h1
  ·rintro ⟨h1, h2, h3⟩ i hi
   rw [badN_eq]
   have hi' : i < s.data.toList.length := by omega
   rw [h1 _ (by rw [getD_el hi']; exact List.getElem_mem hi')]
   by_cases hz : i = 0
   ·subst hz; rw [dqt h2, dqt h3]; rfl
   ·simp; omega
 rw [hb, ← ht]
 cases hd : decide ((F146 s (ByteArray.mk (Array.mk [97, 98, 99, 100, 101, 102, 103, 104, 105, 106, 107, 108, 109, 110, 111, 112, 113, 114, 115, 116, 117, 118, 119, 120, 121, 122, 48, 49, 50, 51, 52, 53, 54, 55, 56, 57, 45]))).size = 0) with
 | false =>
   have := of_decide_eq_false hd
   simp [this]
 | true =>
   have := of_decide_eq_true hd
   simp only [cond_true, this, true_and]
   rw [show s.data.1.getD 0 0 = s.data.toList.getD 0 0 from rfl]
   generalize (s.data.toList.getD 0 0).toNat = b
   by_cases g : 97 <= b
   ·rw [dqt (show (97 : Int) <= (b : Int) by omega)]
    simp only [cond_true, decide_eq_true_eq]; omega
   ·rw [dqf (show ¬ (97 : Int) <= (b : Int) by omega)]
    simp; omega
end
end Go.Dx
