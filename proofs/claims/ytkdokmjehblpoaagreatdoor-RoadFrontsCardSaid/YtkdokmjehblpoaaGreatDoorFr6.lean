/- Part 6 of a proof: an evaluator of code with its soundness, contracts of functions, and plain facts of what they compute. No conditions. -/
import Derived.Test.YtkdokmjehblpoaaGreatDoorFr5
namespace Go.Dx
open Go.Sx Go.Proofs
set_option maxRecDepth 100000
set_option linter.unusedVariables false
set_option linter.unusedSimpArgs false
noncomputable section
def ctB16b : CTab := [(145, .con C145), (140, .con C140), (49, .con C49), (123, .con C123), (30, .con C30), (31, .con C31), (32, .con C32), (33, .con C33), (50, .con C50), (82, .con C82), (80, .con C80), (44, .con C44), (91, .con C91), (24, .con C24), (23, .con C23), (70, .con C70), (62, .con C62), (68, .con C68), (63, .con C63), (69, .con C69), (117, .inl s117 u0), (116, .inl s116 u0), (115, .con C115), (114, .con C114), (73, .con C73), (147, .con C147), (64, .con C64), (66, .con C66), (113, .con C113), (65, .con C65), (67, .con C67), (53, .con C53), (122, .con C122), (72, .con C72), (45, .con C45), (90, .con C90), (119, .con C119), (121, .con C121), (99, .con C99), (129, .con C129), (148, .con C148), (149, .con C149), (112, .con C112), (118, .con C118), (120, .con C120), (51, .con C51), (133, .con C133), (103, .con C103), (100, .con C100), (134, .con C134), (135, .con C135), (78, .con C78), (54, .con C54), (48, .con C48), (102, .con C102), (81, .con C81), (88, .con C88), (84, .con C84), (85, .con C85), (127, .con C127), (101, .con C101), (86, .con C86), (71, .con C71), (79, .con C79), (162, .con C162), (146, .con C146)]
theorem tabB16b : TabOk Tryz.prog eqs its ctB16b := .con ok145 (.con ok140 (.con ok49 (.con ok123 (.con ok30 (.con ok31 (.con ok32 (.con ok33 (.con ok50 (.con ok82 (.con ok80 (.con ok44 (.con ok91 (.con ok24 (.con ok23 (.con ok70 (.con ok62 (.con ok68 (.con ok63 (.con ok69 (.inl Tryz.func117 (by kernel_rfl) (by kernel_rfl) (by kernel_rfl) (.inl Tryz.func116 (by kernel_rfl) (by kernel_rfl) (by kernel_rfl) (.con ok115 (.con ok114 (.con ok73 (.con ok147 (.con ok64 (.con ok66 (.con ok113 (.con ok65 (.con ok67 (.con ok53 (.con ok122 (.con ok72 (.con ok45 (.con ok90 (.con ok119 (.con ok121 (.con ok99 (.con ok129 (.con ok148 (.con ok149 (.con ok112 (.con ok118 (.con ok120 (.con ok51 (.con ok133 (.con ok103 (.con ok100 (.con ok134 (.con ok135 (.con ok78 (.con ok54 (.con ok48 (.con ok102 (.con ok81 (.con ok88 (.con ok84 (.con ok85 (.con ok127 (.con ok101 (.con ok86 (.con ok71 (.con ok79 (.con ok162 (.con ok146 (.nil))))))))))))))))))))))))))))))))))))))))))))))))))))))))))))))))))
def m111 (x0 : Int) (x1 : Int) (x2 : Int) (x3 : Int) (x4 : Int) (x5 : Int) (x6 : Int) (x7 : Int) (x8 : Int) : RT Empty := .obc (.obt (.brt (.obt (.obc (.obt (.br (F123_0 x0 x1 x2 x3 x4 x5 x6) (.brt (.obt (.obc (.obt (.br (F123_0 x0 x1 x2 x3 x4 x7 x6) (.brt (.obt (.obc (.obt (.br (F123_0 x0 x1 x2 x3 x4 x7 x8) (.brt (.obt (.obc (.obt (.br (F123_0 x0 x1 x2 x3 x4 x5 x8) (.brf (.brt (.ret (V.int IntKind.i64 2)))) (.brf (.brf (.brt (.ret (V.int IntKind.i64 1)))))))))) (.brt (.obt (.obc (.obt (.br (F123_0 x0 x1 x2 x3 x4 x5 x8) (.brf (.brf (.brt (.ret (V.int IntKind.i64 1))))) (.brf (.brf (.brt (.ret (V.int IntKind.i64 1))))))))))))))) (.brt (.obt (.obc (.obt (.br (F123_0 x0 x1 x2 x3 x4 x7 x8) (.brt (.obt (.obc (.obt (.br (F123_0 x0 x1 x2 x3 x4 x5 x8) (.brf (.brf (.brt (.ret (V.int IntKind.i64 1))))) (.brf (.brf (.brt (.ret (V.int IntKind.i64 1)))))))))) (.brt (.obt (.obc (.obt (.br (F123_0 x0 x1 x2 x3 x4 x5 x8) (.brf (.brf (.brt (.ret (V.int IntKind.i64 1))))) (.brf (.brf (.brt (.ret (V.int IntKind.i64 1)))))))))))))))))))) (.brt (.obt (.obc (.obt (.br (F123_0 x0 x1 x2 x3 x4 x7 x6) (.brt (.obt (.obc (.obt (.br (F123_0 x0 x1 x2 x3 x4 x7 x8) (.brt (.obt (.obc (.obt (.br (F123_0 x0 x1 x2 x3 x4 x5 x8) (.brf (.brf (.brt (.ret (V.int IntKind.i64 1))))) (.brf (.brf (.brt (.ret (V.int IntKind.i64 1)))))))))) (.brt (.obt (.obc (.obt (.br (F123_0 x0 x1 x2 x3 x4 x5 x8) (.brf (.brf (.brt (.ret (V.int IntKind.i64 1))))) (.brf (.brf (.brt (.ret (V.int IntKind.i64 1))))))))))))))) (.brt (.obt (.obc (.obt (.br (F123_0 x0 x1 x2 x3 x4 x7 x8) (.brt (.obt (.obc (.obt (.br (F123_0 x0 x1 x2 x3 x4 x5 x8) (.brf (.brf (.brt (.ret (V.int IntKind.i64 1))))) (.brf (.brf (.brt (.ret (V.int IntKind.i64 1)))))))))) (.brt (.obt (.obc (.obt (.br (F123_0 x0 x1 x2 x3 x4 x5 x8) (.brf (.brf (.brt (.ret (V.int IntKind.i64 1))))) (.brf (.brf (.brf (.brt (.obt (.obc (.obt (.br (decide (F85_0 (max (max (IntKind.i64.wrap (IntKind.i64.wrap (2 * x5) - x0)) 0) (IntKind.i64.wrap (x0 - IntKind.i64.wrap (2 * x7)))) (max (max (IntKind.i64.wrap (IntKind.i64.wrap (2 * x6) - x1)) 0) (IntKind.i64.wrap (x1 - IntKind.i64.wrap (2 * x8)))) (max (max (IntKind.i64.wrap (IntKind.i64.wrap (2 * x5) - x0)) 0) (IntKind.i64.wrap (x0 - IntKind.i64.wrap (2 * x7)))) (max (max (IntKind.i64.wrap (IntKind.i64.wrap (2 * x6) - x1)) 0) (IntKind.i64.wrap (x1 - IntKind.i64.wrap (2 * x8)))) ≤ IntKind.i64.wrap (x4 * x4))) (.ret (V.int IntKind.i64 1)) (.brt (.obt (.obc (.obt (.br (decide (F85_0 (max (max (IntKind.i64.wrap (IntKind.i64.wrap (2 * x5) - x2)) 0) (IntKind.i64.wrap (x2 - IntKind.i64.wrap (2 * x7)))) (max (max (IntKind.i64.wrap (IntKind.i64.wrap (2 * x6) - x3)) 0) (IntKind.i64.wrap (x3 - IntKind.i64.wrap (2 * x8)))) (max (max (IntKind.i64.wrap (IntKind.i64.wrap (2 * x5) - x2)) 0) (IntKind.i64.wrap (x2 - IntKind.i64.wrap (2 * x7)))) (max (max (IntKind.i64.wrap (IntKind.i64.wrap (2 * x6) - x3)) 0) (IntKind.i64.wrap (x3 - IntKind.i64.wrap (2 * x8)))) ≤ IntKind.i64.wrap (x4 * x4))) (.ret (V.int IntKind.i64 1)) (.brf (.obc (.obt (.br (F145_0 x0 x1 x2 x3 x5 x6 x7 x8) (.ret (V.int IntKind.i64 1)) (.ret (V.int IntKind.i64 0))))))))))))))))))))))))))))))))))))))))
theorem f111m (x0 : Int) (x1 : Int) (x2 : Int) (x3 : Int) (x4 : Int) (x5 : Int) (x6 : Int) (x7 : Int) (x8 : Int) : fitT noD (runL (Nat × Nat) ctB16b u5 s111 [V.agg [V.int IntKind.i64 x0, V.int IntKind.i64 x1, V.int IntKind.i64 x2, V.int IntKind.i64 x3, V.int IntKind.i64 x4], V.agg [V.int IntKind.i64 x5, V.int IntKind.i64 x6, V.int IntKind.i64 x7, V.int IntKind.i64 x8]]) (m111 x0 x1 x2 x3 x4 x5 x6 x7 x8) = toF noD (m111 x0 x1 x2 x3 x4 x5 x6 x7 x8) := by kernel_rfl
theorem q111m (x0 : Int) (x1 : Int) (x2 : Int) (x3 : Int) (x4 : Int) (x5 : Int) (x6 : Int) (x7 : Int) (x8 : Int) : sameT (runL (Nat × Nat) ctB16b u5 s111 [V.agg [V.int IntKind.i64 x0, V.int IntKind.i64 x1, V.int IntKind.i64 x2, V.int IntKind.i64 x3, V.int IntKind.i64 x4], V.agg [V.int IntKind.i64 x5, V.int IntKind.i64 x6, V.int IntKind.i64 x7, V.int IntKind.i64 x8]]) (m111 x0 x1 x2 x3 x4 x5 x6 x7 x8) = (runL (Nat × Nat) ctB16b u5 s111 [V.agg [V.int IntKind.i64 x0, V.int IntKind.i64 x1, V.int IntKind.i64 x2, V.int IntKind.i64 x3, V.int IntKind.i64 x4], V.agg [V.int IntKind.i64 x5, V.int IntKind.i64 x6, V.int IntKind.i64 x7, V.int IntKind.i64 x8]]) := by kernel_rfl
theorem run111 (w0 : World) (x0 : Int) (x1 : Int) (x2 : Int) (x3 : Int) (x4 : Int) (x5 : Int) (x6 : Int) (x7 : Int) (x8 : Int) {r : V} (h : evR noE (m111 x0 x1 x2 x3 x4 x5 x6 x7 x8) r) : sat (LPof w0 (SV ctB16b)) (runL (Nat × Nat) ctB16b u5 s111 [V.agg [V.int IntKind.i64 x0, V.int IntKind.i64 x1, V.int IntKind.i64 x2, V.int IntKind.i64 x3, V.int IntKind.i64 x4], V.agg [V.int IntKind.i64 x5, V.int IntKind.i64 x6, V.int IntKind.i64 x7, V.int IntKind.i64 x8]]) (topQ r) := run_ev0 (by kernel_rfl) _ (f111m x0 x1 x2 x3 x4 x5 x6 x7 x8) (q111m x0 x1 x2 x3 x4 x5 x6 x7 x8) h
def F111_0 (x0 : Int) (x1 : Int) (x2 : Int) (x3 : Int) (x4 : Int) (x5 : Int) (x6 : Int) (x7 : Int) (x8 : Int) : Int := bif F123_0 x0 x1 x2 x3 x4 x5 x6 then bif F123_0 x0 x1 x2 x3 x4 x7 x6 then bif F123_0 x0 x1 x2 x3 x4 x7 x8 then bif F123_0 x0 x1 x2 x3 x4 x5 x8 then 2 else 1 else 1 else 1 else bif F123_0 x0 x1 x2 x3 x4 x7 x6 then 1 else bif F123_0 x0 x1 x2 x3 x4 x7 x8 then 1 else bif F123_0 x0 x1 x2 x3 x4 x5 x8 then 1 else bif decide (F85_0 (max (max (IntKind.i64.wrap (IntKind.i64.wrap (2 * x5) - x0)) 0) (IntKind.i64.wrap (x0 - IntKind.i64.wrap (2 * x7)))) (max (max (IntKind.i64.wrap (IntKind.i64.wrap (2 * x6) - x1)) 0) (IntKind.i64.wrap (x1 - IntKind.i64.wrap (2 * x8)))) (max (max (IntKind.i64.wrap (IntKind.i64.wrap (2 * x5) - x0)) 0) (IntKind.i64.wrap (x0 - IntKind.i64.wrap (2 * x7)))) (max (max (IntKind.i64.wrap (IntKind.i64.wrap (2 * x6) - x1)) 0) (IntKind.i64.wrap (x1 - IntKind.i64.wrap (2 * x8)))) ≤ IntKind.i64.wrap (x4 * x4)) then 1 else bif decide (F85_0 (max (max (IntKind.i64.wrap (IntKind.i64.wrap (2 * x5) - x2)) 0) (IntKind.i64.wrap (x2 - IntKind.i64.wrap (2 * x7)))) (max (max (IntKind.i64.wrap (IntKind.i64.wrap (2 * x6) - x3)) 0) (IntKind.i64.wrap (x3 - IntKind.i64.wrap (2 * x8)))) (max (max (IntKind.i64.wrap (IntKind.i64.wrap (2 * x5) - x2)) 0) (IntKind.i64.wrap (x2 - IntKind.i64.wrap (2 * x7)))) (max (max (IntKind.i64.wrap (IntKind.i64.wrap (2 * x6) - x3)) 0) (IntKind.i64.wrap (x3 - IntKind.i64.wrap (2 * x8)))) ≤ IntKind.i64.wrap (x4 * x4)) then 1 else bif F145_0 x0 x1 x2 x3 x5 x6 x7 x8 then 1 else 0
def R111 (x0 : Int) (x1 : Int) (x2 : Int) (x3 : Int) (x4 : Int) (x5 : Int) (x6 : Int) (x7 : Int) (x8 : Int) : V := .int IntKind.i64 (F111_0 x0 x1 x2 x3 x4 x5 x6 x7 x8)
theorem ev111 (x0 : Int) (x1 : Int) (x2 : Int) (x3 : Int) (x4 : Int) (x5 : Int) (x6 : Int) (x7 : Int) (x8 : Int) : evR noE (m111 x0 x1 x2 x3 x4 x5 x6 x7 x8) (R111 x0 x1 x2 x3 x4 x5 x6 x7 x8) := evObc (evObt (evBrt (evObt (evObc (evObt (evBr (fun h0 => evBrt (evObt (evObc (evObt (evBr (fun h1 => evBrt (evObt (evObc (evObt (evBr (fun h2 => evBrt (evObt (evObc (evObt (evBr (fun h3 => evBrf (evBrt (evRet (by unfold R111 F111_0; try rw [h0]; try rw [h1]; try rw [h2]; try rw [h3]; rfl)))) (fun h3 => evBrf (evBrf (evBrt (evRet (by unfold R111 F111_0; try rw [h0]; try rw [h1]; try rw [h2]; try rw [h3]; rfl)))))))))) (fun h2 => evBrt (evObt (evObc (evObt (evBr (fun h3 => evBrf (evBrf (evBrt (evRet (by unfold R111 F111_0; try rw [h0]; try rw [h1]; try rw [h2]; try rw [h3]; rfl))))) (fun h3 => evBrf (evBrf (evBrt (evRet (by unfold R111 F111_0; try rw [h0]; try rw [h1]; try rw [h2]; try rw [h3]; rfl))))))))))))))) (fun h1 => evBrt (evObt (evObc (evObt (evBr (fun h2 => evBrt (evObt (evObc (evObt (evBr (fun h3 => evBrf (evBrf (evBrt (evRet (by unfold R111 F111_0; try rw [h0]; try rw [h1]; try rw [h2]; try rw [h3]; rfl))))) (fun h3 => evBrf (evBrf (evBrt (evRet (by unfold R111 F111_0; try rw [h0]; try rw [h1]; try rw [h2]; try rw [h3]; rfl)))))))))) (fun h2 => evBrt (evObt (evObc (evObt (evBr (fun h3 => evBrf (evBrf (evBrt (evRet (by unfold R111 F111_0; try rw [h0]; try rw [h1]; try rw [h2]; try rw [h3]; rfl))))) (fun h3 => evBrf (evBrf (evBrt (evRet (by unfold R111 F111_0; try rw [h0]; try rw [h1]; try rw [h2]; try rw [h3]; rfl)))))))))))))))))))) (fun h0 => evBrt (evObt (evObc (evObt (evBr (fun h1 => evBrt (evObt (evObc (evObt (evBr (fun h2 => evBrt (evObt (evObc (evObt (evBr (fun h3 => evBrf (evBrf (evBrt (evRet (by unfold R111 F111_0; try rw [h0]; try rw [h1]; try rw [h2]; try rw [h3]; rfl))))) (fun h3 => evBrf (evBrf (evBrt (evRet (by unfold R111 F111_0; try rw [h0]; try rw [h1]; try rw [h2]; try rw [h3]; rfl)))))))))) (fun h2 => evBrt (evObt (evObc (evObt (evBr (fun h3 => evBrf (evBrf (evBrt (evRet (by unfold R111 F111_0; try rw [h0]; try rw [h1]; try rw [h2]; try rw [h3]; rfl))))) (fun h3 => evBrf (evBrf (evBrt (evRet (by unfold R111 F111_0; try rw [h0]; try rw [h1]; try rw [h2]; try rw [h3]; rfl))))))))))))))) (fun h1 => evBrt (evObt (evObc (evObt (evBr (fun h2 => evBrt (evObt (evObc (evObt (evBr (fun h3 => evBrf (evBrf (evBrt (evRet (by unfold R111 F111_0; try rw [h0]; try rw [h1]; try rw [h2]; try rw [h3]; rfl))))) (fun h3 => evBrf (evBrf (evBrt (evRet (by unfold R111 F111_0; try rw [h0]; try rw [h1]; try rw [h2]; try rw [h3]; rfl)))))))))) (fun h2 => evBrt (evObt (evObc (evObt (evBr (fun h3 => evBrf (evBrf (evBrt (evRet (by unfold R111 F111_0; try rw [h0]; try rw [h1]; try rw [h2]; try rw [h3]; rfl))))) (fun h3 => evBrf (evBrf (evBrf (evBrt (evObt (evObc (evObt (evBr (fun h4 => evRet (by unfold R111 F111_0; try rw [h0]; try rw [h1]; try rw [h2]; try rw [h3]; try rw [h4]; rfl)) (fun h4 => evBrt (evObt (evObc (evObt (evBr (fun h5 => evRet (by unfold R111 F111_0; try rw [h0]; try rw [h1]; try rw [h2]; try rw [h3]; try rw [h4]; try rw [h5]; rfl)) (fun h5 => evBrf (evObc (evObt (evBr (fun h6 => evRet (by unfold R111 F111_0; try rw [h0]; try rw [h1]; try rw [h2]; try rw [h3]; try rw [h4]; try rw [h5]; try rw [h6]; rfl)) (fun h6 => evRet (by unfold R111 F111_0; try rw [h0]; try rw [h1]; try rw [h2]; try rw [h3]; try rw [h4]; try rw [h5]; try rw [h6]; rfl))))))))))))))))))))))))))))))))))))))))
def C111 : PCon := mkC [.agg tyT, .agg [.int .i64, .int .i64, .int .i64, .int .i64]] (fun _ => True) fun
  | [.agg [.int _ x0, .int _ x1, .int _ x2, .int _ x3, .int _ x4], .agg [.int _ x5, .int _ x6, .int _ x7, .int _ x8]] => R111 x0 x1 x2 x3 x4 x5 x6 x7 x8
  | _ => .any
theorem ok111 : (vP C111).Ok Tryz.prog 111 := mkC_ev (J := Nat × Nat) (un := u5) tabB16b hE hI Tryz.func111 (by kernel_rfl) (by kernel_rfl) (by kernel_rfl) rfl (fun w0 ds hp => run111 w0 _ _ _ _ _ _ _ _ _ (ev111 _ _ _ _ _ _ _ _ _))
def m56 (x0 : Int) (x1 : Int) (x2 : Int) (x3 : Int) (x4 : Int) (x5 : Int) (x6 : Int) (x7 : Int) (x8 : Int) (x9 : Int) (b10 : Bool) : RT Empty := .obc (.obt (.ret (V.bool !F49_0 x2 x3 x4 x5 x6 x7 x8 x9 b10 x0 x1)))
theorem f56m (x0 : Int) (x1 : Int) (x2 : Int) (x3 : Int) (x4 : Int) (x5 : Int) (x6 : Int) (x7 : Int) (x8 : Int) (x9 : Int) (b10 : Bool) : fitT noD (runL (Nat × Nat) ctB16b u0 s56 [V.agg [V.int IntKind.i64 x0, V.int IntKind.i64 x1], V.pd [V.int IntKind.i64 x2, V.int IntKind.i64 x3, V.int IntKind.i64 x4, V.int IntKind.i64 x5, V.int IntKind.i64 x6, V.int IntKind.i64 x7, V.int IntKind.i64 x8, V.int IntKind.i64 x9, V.bool b10]]) (m56 x0 x1 x2 x3 x4 x5 x6 x7 x8 x9 b10) = toF noD (m56 x0 x1 x2 x3 x4 x5 x6 x7 x8 x9 b10) := by kernel_rfl
theorem q56m (x0 : Int) (x1 : Int) (x2 : Int) (x3 : Int) (x4 : Int) (x5 : Int) (x6 : Int) (x7 : Int) (x8 : Int) (x9 : Int) (b10 : Bool) : sameT (runL (Nat × Nat) ctB16b u0 s56 [V.agg [V.int IntKind.i64 x0, V.int IntKind.i64 x1], V.pd [V.int IntKind.i64 x2, V.int IntKind.i64 x3, V.int IntKind.i64 x4, V.int IntKind.i64 x5, V.int IntKind.i64 x6, V.int IntKind.i64 x7, V.int IntKind.i64 x8, V.int IntKind.i64 x9, V.bool b10]]) (m56 x0 x1 x2 x3 x4 x5 x6 x7 x8 x9 b10) = (runL (Nat × Nat) ctB16b u0 s56 [V.agg [V.int IntKind.i64 x0, V.int IntKind.i64 x1], V.pd [V.int IntKind.i64 x2, V.int IntKind.i64 x3, V.int IntKind.i64 x4, V.int IntKind.i64 x5, V.int IntKind.i64 x6, V.int IntKind.i64 x7, V.int IntKind.i64 x8, V.int IntKind.i64 x9, V.bool b10]]) := by kernel_rfl
theorem run56 (w0 : World) (x0 : Int) (x1 : Int) (x2 : Int) (x3 : Int) (x4 : Int) (x5 : Int) (x6 : Int) (x7 : Int) (x8 : Int) (x9 : Int) (b10 : Bool) {r : V} (h : evR noE (m56 x0 x1 x2 x3 x4 x5 x6 x7 x8 x9 b10) r) : sat (LPof w0 (SV ctB16b)) (runL (Nat × Nat) ctB16b u0 s56 [V.agg [V.int IntKind.i64 x0, V.int IntKind.i64 x1], V.pd [V.int IntKind.i64 x2, V.int IntKind.i64 x3, V.int IntKind.i64 x4, V.int IntKind.i64 x5, V.int IntKind.i64 x6, V.int IntKind.i64 x7, V.int IntKind.i64 x8, V.int IntKind.i64 x9, V.bool b10]]) (topQ r) := run_ev0 (by kernel_rfl) _ (f56m x0 x1 x2 x3 x4 x5 x6 x7 x8 x9 b10) (q56m x0 x1 x2 x3 x4 x5 x6 x7 x8 x9 b10) h
def F56_0 (x0 : Int) (x1 : Int) (x2 : Int) (x3 : Int) (x4 : Int) (x5 : Int) (x6 : Int) (x7 : Int) (x8 : Int) (x9 : Int) (b10 : Bool) : Bool := !F49_0 x2 x3 x4 x5 x6 x7 x8 x9 b10 x0 x1
def R56 (x0 : Int) (x1 : Int) (x2 : Int) (x3 : Int) (x4 : Int) (x5 : Int) (x6 : Int) (x7 : Int) (x8 : Int) (x9 : Int) (b10 : Bool) : V := .bool (F56_0 x0 x1 x2 x3 x4 x5 x6 x7 x8 x9 b10)
theorem ev56 (x0 : Int) (x1 : Int) (x2 : Int) (x3 : Int) (x4 : Int) (x5 : Int) (x6 : Int) (x7 : Int) (x8 : Int) (x9 : Int) (b10 : Bool) : evR noE (m56 x0 x1 x2 x3 x4 x5 x6 x7 x8 x9 b10) (R56 x0 x1 x2 x3 x4 x5 x6 x7 x8 x9 b10) := evObc (evObt (evRet (by unfold R56 F56_0; rfl)))
def C56 : PCon := mkC [.agg [.int .i64, .int .i64], .pd [.int .i64, .int .i64, .int .i64, .int .i64, .int .i64, .int .i64, .int .i64, .int .i64, .bool]] (fun _ => True) fun
  | [.agg [.int _ x0, .int _ x1], .pd [.int _ x2, .int _ x3, .int _ x4, .int _ x5, .int _ x6, .int _ x7, .int _ x8, .int _ x9, .bool b10]] => R56 x0 x1 x2 x3 x4 x5 x6 x7 x8 x9 b10
  | _ => .any
theorem ok56 : (vP C56).Ok Tryz.prog 56 := mkC_ev (J := Nat × Nat) (un := u0) tabB16b hE hI Tryz.func56 (by kernel_rfl) (by kernel_rfl) (by kernel_rfl) rfl (fun w0 ds hp => run56 w0 _ _ _ _ _ _ _ _ _ _ _ (ev56 _ _ _ _ _ _ _ _ _ _ _))
def m47 (x0 : Int) (x1 : Int) (x2 : Int) (x3 : Int) (x4 : Int) (n5 : Nat) (f5 : Nat → List V) (n7 : Nat) (f7 : Nat → List V) (n9 : Nat) (f9 : Nat → List V) (n11 : Nat) (f11 : Nat → List V) (x13 : Int) (x14 : Int) (x15 : Int) : RT Empty := .ob (decide (0 ≤ x13 ∧ x13 < (↑n11 : Int))) (.obc (.obt (.obc (.obt (.ret (V.bool (F49_0 (iv (hdV (tlV (f11 x13.toNat)))) (iv (hdV (tlV (tlV (f11 x13.toNat))))) (iv (hdV (tlV (tlV (tlV (f11 x13.toNat)))))) (F48_0 (iv (hdV (tlV (tlV (tlV (f11 x13.toNat)))))) x4) (F48_1 (iv (hdV (tlV (tlV (tlV (f11 x13.toNat)))))) x3) (F48_2 (iv (hdV (tlV (tlV (tlV (f11 x13.toNat)))))) x0) (F48_3 (iv (hdV (tlV (tlV (tlV (f11 x13.toNat)))))) x1) (F48_4 (iv (hdV (tlV (tlV (tlV (f11 x13.toNat)))))) x2) (F48_5 (iv (hdV (tlV (tlV (tlV (f11 x13.toNat)))))) x3) x14 x15)))))))
theorem f47m (x0 : Int) (x1 : Int) (x2 : Int) (x3 : Int) (x4 : Int) (n5 : Nat) (f5 : Nat → List V) (n7 : Nat) (f7 : Nat → List V) (n9 : Nat) (f9 : Nat → List V) (n11 : Nat) (f11 : Nat → List V) (x13 : Int) (x14 : Int) (x15 : Int) : fitT noD (runL (Nat × Nat) ctB16b u0 s47 [V.agg [V.int IntKind.i64 x0, V.int IntKind.i64 x1, V.int IntKind.i64 x2, V.int IntKind.i64 x3, V.int IntKind.i64 x4], V.pd [V.sl n5 (elV tyR f5), V.sl n7 (elV tyT f7), V.sl n9 (elV tyF f9), V.sl n11 (elV tyC f11)], V.pd [V.int IntKind.i64 x13], V.pd [V.int IntKind.i64 x14], V.pd [V.int IntKind.i64 x15]]) (m47 x0 x1 x2 x3 x4 n5 f5 n7 f7 n9 f9 n11 f11 x13 x14 x15) = toF noD (m47 x0 x1 x2 x3 x4 n5 f5 n7 f7 n9 f9 n11 f11 x13 x14 x15) := by kernel_rfl
theorem q47m (x0 : Int) (x1 : Int) (x2 : Int) (x3 : Int) (x4 : Int) (n5 : Nat) (f5 : Nat → List V) (n7 : Nat) (f7 : Nat → List V) (n9 : Nat) (f9 : Nat → List V) (n11 : Nat) (f11 : Nat → List V) (x13 : Int) (x14 : Int) (x15 : Int) : sameT (runL (Nat × Nat) ctB16b u0 s47 [V.agg [V.int IntKind.i64 x0, V.int IntKind.i64 x1, V.int IntKind.i64 x2, V.int IntKind.i64 x3, V.int IntKind.i64 x4], V.pd [V.sl n5 (elV tyR f5), V.sl n7 (elV tyT f7), V.sl n9 (elV tyF f9), V.sl n11 (elV tyC f11)], V.pd [V.int IntKind.i64 x13], V.pd [V.int IntKind.i64 x14], V.pd [V.int IntKind.i64 x15]]) (m47 x0 x1 x2 x3 x4 n5 f5 n7 f7 n9 f9 n11 f11 x13 x14 x15) = (runL (Nat × Nat) ctB16b u0 s47 [V.agg [V.int IntKind.i64 x0, V.int IntKind.i64 x1, V.int IntKind.i64 x2, V.int IntKind.i64 x3, V.int IntKind.i64 x4], V.pd [V.sl n5 (elV tyR f5), V.sl n7 (elV tyT f7), V.sl n9 (elV tyF f9), V.sl n11 (elV tyC f11)], V.pd [V.int IntKind.i64 x13], V.pd [V.int IntKind.i64 x14], V.pd [V.int IntKind.i64 x15]]) := by kernel_rfl
theorem run47 (w0 : World) (x0 : Int) (x1 : Int) (x2 : Int) (x3 : Int) (x4 : Int) (n5 : Nat) (f5 : Nat → List V) (n7 : Nat) (f7 : Nat → List V) (n9 : Nat) (f9 : Nat → List V) (n11 : Nat) (f11 : Nat → List V) (x13 : Int) (x14 : Int) (x15 : Int) {r : V} (h : evR noE (m47 x0 x1 x2 x3 x4 n5 f5 n7 f7 n9 f9 n11 f11 x13 x14 x15) r) : sat (LPof w0 (SV ctB16b)) (runL (Nat × Nat) ctB16b u0 s47 [V.agg [V.int IntKind.i64 x0, V.int IntKind.i64 x1, V.int IntKind.i64 x2, V.int IntKind.i64 x3, V.int IntKind.i64 x4], V.pd [V.sl n5 (elV tyR f5), V.sl n7 (elV tyT f7), V.sl n9 (elV tyF f9), V.sl n11 (elV tyC f11)], V.pd [V.int IntKind.i64 x13], V.pd [V.int IntKind.i64 x14], V.pd [V.int IntKind.i64 x15]]) (topQ r) := run_ev0 (by kernel_rfl) _ (f47m x0 x1 x2 x3 x4 n5 f5 n7 f7 n9 f9 n11 f11 x13 x14 x15) (q47m x0 x1 x2 x3 x4 n5 f5 n7 f7 n9 f9 n11 f11 x13 x14 x15) h
def F47_0 (x0 : Int) (x1 : Int) (x2 : Int) (x3 : Int) (x4 : Int) (f11 : Nat → List V) (x13 : Int) (x14 : Int) (x15 : Int) : Bool := F49_0 (iv (hdV (tlV (f11 x13.toNat)))) (iv (hdV (tlV (tlV (f11 x13.toNat))))) (iv (hdV (tlV (tlV (tlV (f11 x13.toNat)))))) (F48_0 (iv (hdV (tlV (tlV (tlV (f11 x13.toNat)))))) x4) (F48_1 (iv (hdV (tlV (tlV (tlV (f11 x13.toNat)))))) x3) (F48_2 (iv (hdV (tlV (tlV (tlV (f11 x13.toNat)))))) x0) (F48_3 (iv (hdV (tlV (tlV (tlV (f11 x13.toNat)))))) x1) (F48_4 (iv (hdV (tlV (tlV (tlV (f11 x13.toNat)))))) x2) (F48_5 (iv (hdV (tlV (tlV (tlV (f11 x13.toNat)))))) x3) x14 x15
def R47 (x0 : Int) (x1 : Int) (x2 : Int) (x3 : Int) (x4 : Int) (n5 : Nat) (f5 : Nat → List V) (n7 : Nat) (f7 : Nat → List V) (n9 : Nat) (f9 : Nat → List V) (n11 : Nat) (f11 : Nat → List V) (x13 : Int) (x14 : Int) (x15 : Int) : V := .bool (F47_0 x0 x1 x2 x3 x4 f11 x13 x14 x15)
theorem ev47 (x0 : Int) (x1 : Int) (x2 : Int) (x3 : Int) (x4 : Int) (n5 : Nat) (f5 : Nat → List V) (n7 : Nat) (f7 : Nat → List V) (n9 : Nat) (f9 : Nat → List V) (n11 : Nat) (f11 : Nat → List V) (x13 : Int) (x14 : Int) (x15 : Int) (hp : 0 ≤ x13 ∧ x13 < (n11 : Int)) : evR noE (m47 x0 x1 x2 x3 x4 n5 f5 n7 f7 n9 f9 n11 f11 x13 x14 x15) (R47 x0 x1 x2 x3 x4 n5 f5 n7 f7 n9 f9 n11 f11 x13 x14 x15) := evOb (by first | assumption | (exact decide_eq_true hp)) (evObc (evObt (evObc (evObt (evRet (by unfold R47 F47_0; rfl))))))
def C47 : PCon := mkC [.agg tyT, .pd [.sl tyR, .sl tyT, .sl tyF, .sl tyC], .pd [.int .i64], .pd [.int .i64], .pd [.int .i64]] (fun
  | [.agg [.int _ x0, .int _ x1, .int _ x2, .int _ x3, .int _ x4], .pd [.sl n5 f5, .sl n7 f7, .sl n9 f9, .sl n11 f11], .pd [.int _ x13], .pd [.int _ x14], .pd [.int _ x15]] => 0 ≤ x13 ∧ x13 < (n11 : Int)
  | _ => False) fun
  | [.agg [.int _ x0, .int _ x1, .int _ x2, .int _ x3, .int _ x4], .pd [.sl n5 f5, .sl n7 f7, .sl n9 f9, .sl n11 f11], .pd [.int _ x13], .pd [.int _ x14], .pd [.int _ x15]] => R47 x0 x1 x2 x3 x4 n5 f5 n7 f7 n9 f9 n11 f11 x13 x14 x15
  | _ => .any
theorem ok47 : (vP C47).Ok Tryz.prog 47 := mkC_ev (J := Nat × Nat) (un := u0) tabB16b hE hI Tryz.func47 (by kernel_rfl) (by kernel_rfl) (by kernel_rfl) rfl (fun w0 ds hp => run47 w0 _ _ _ _ _ _ _ _ _ _ _ _ _ _ _ _ (ev47 _ _ _ _ _ _ _ _ _ _ _ _ _ _ _ _ hp))
end
end Go.Dx
namespace Go.Dx
open Go.Sx
section
variable {S : Type} {step : S → RT S}
/-- A search by a function, with what is asked of each thing. -/
theorem idx_evW {L : Int → S} {n : Nat} {p : Nat → Bool} {Q : Nat → Prop} {ρ : Rho} (W : Nat → RT S → RT S) (hW : ∀ i x r, Q i → evR (Ev step) x r → evR (Ev step) (W i x) r) (hWn : ∀ i x, noAll (W i x) = noAll x) (hn : n ≤ 9223372036854775807) (hQ : ∀ i, i < n → Q i)
    (hst : ∀ i : Nat, step (L i) = .br (decide ((i : Int) < (n : Int))) (.ob (decide (0 ≤ (i : Int) ∧ (i : Int) < (n : Int))) (W i (.br (p i) (.ret (.int .i64 i)) (.next ρ (L (IntKind.i64.wrap ((i : Int) + 1))) [])))) (.ret (.int .i64 (-1)))) :
    Ev step (L 0) (.int .i64 (idx n p)) :=
  scan hn p (P := fun i => Ev step (L i) (.int .i64 (idx n p))) (fun i hlt hj next => Ev.of (by rw [hst]; simp only [noAll, hWn, Bool.and_self]) (by
    rw [hst]
    refine evBrLt hlt (evObLt hlt (hW i _ _ (hQ i hlt) (evBr (fun hb => evRet ?_) (fun hb => evNext (next hb)))))
    rw [idx_some hb hlt hj])) (fun hj => Ev.of (by rw [hst]; simp only [noAll, hWn, Bool.and_self]) (by
    rw [hst]
    refine evBrGe (evRet ?_)
    rw [idx_none hj]))
end
end Go.Dx
namespace Go.Dx
open Go.Sx
/-- The greatest of some numbers, and 0. -/
def maxTo (p : Nat → Int) : Nat → Int
  | 0 => 0
  | k + 1 => max (maxTo p k) (p k)
section
variable {S : Type} {step : S → RT S}
/-- A loop over pieces: all of them. -/
theorem pieces_ev {L : Int → Nat → Int → S} {n : Nat} {p : Nat → Int} {ρ : Rho} {l : Nat} (hn : n ≤ 9223372036854775807)
    (hst : ∀ (i : Nat) (a : Int), IntKind.i64.wrap ((i : Int) + 1) = ((i + 1 : Nat) : Int) → step (L i l a) = .br (decide ((i : Int) < IntKind.i64.wrap ((n : Int) - 1))) (.ob (decide (0 ≤ (i : Int) ∧ (i : Int) < (n : Int))) (.ob (decide (0 ≤ IntKind.i64.wrap ((i : Int) + 1) ∧ IntKind.i64.wrap ((i : Int) + 1) < (n : Int))) (.obt (.obt (.obt (.obt (.obc (.obt (.next ρ (L (IntKind.i64.wrap ((i : Int) + 1)) l (max a (p i))) [])))))))) ) (.ret (.int .i64 a))) :
    Ev step (L 0 l 0) (.int .i64 (maxTo p (n - 1))) := by
  have w0 : IntKind.i64.wrap ((n : Int) - 1) = (n : Int) - 1 := wrapI (by omega) (by omega)
  have key := up_ind (n := n - 1) (P := fun i => Ev step (L i l (maxTo p i)) (.int .i64 (maxTo p (n - 1)))) fun i hi ih => by
    have w1 : IntKind.i64.wrap ((i : Int) + 1) = ((i + 1 : Nat) : Int) := by rw [wrapI (by omega) (by omega)]; omega
    refine Ev.of (by rw [hst i _ w1]; rfl) ?_
    rw [hst i _ w1]
    by_cases hlt : i < n - 1
    · refine evBrT (decide_eq_true (by rw [w0]; omega)) (evOb (decide_eq_true (by omega)) (evOb (decide_eq_true (by rw [w1]; omega)) (evObt (evObt (evObt (evObt (evObc (evObt (evNext ?_)))))))))
      rw [w1]; exact ih hlt
    · refine evBrF (decide_eq_false (by rw [w0]; omega)) (evRet ?_)
      have : i = n - 1 := by omega
      subst this; rfl
  exact key 0 (Nat.zero_le _)
end
end Go.Dx
namespace Go.Dx
open Go.Sx Go.Proofs
set_option maxRecDepth 100000
set_option linter.unusedVariables false
set_option linter.unusedSimpArgs false
noncomputable section
def ctB16c : CTab := [(111, .con C111), (56, .con C56), (47, .con C47), (145, .con C145), (140, .con C140), (49, .con C49), (123, .con C123), (30, .con C30), (31, .con C31), (32, .con C32), (33, .con C33), (50, .con C50), (82, .con C82), (80, .con C80), (44, .con C44), (91, .con C91), (24, .con C24), (23, .con C23), (70, .con C70), (62, .con C62), (68, .con C68), (63, .con C63), (69, .con C69), (117, .inl s117 u0), (116, .inl s116 u0), (115, .con C115), (114, .con C114), (73, .con C73), (147, .con C147), (64, .con C64), (66, .con C66), (113, .con C113), (65, .con C65), (67, .con C67), (53, .con C53), (122, .con C122), (72, .con C72), (45, .con C45), (90, .con C90), (119, .con C119), (121, .con C121), (99, .con C99), (129, .con C129), (148, .con C148), (149, .con C149), (112, .con C112), (118, .con C118), (120, .con C120), (51, .con C51), (133, .con C133), (103, .con C103), (100, .con C100), (134, .con C134), (135, .con C135), (78, .con C78), (54, .con C54), (48, .con C48), (102, .con C102), (81, .con C81), (88, .con C88), (84, .con C84), (85, .con C85), (127, .con C127), (101, .con C101), (86, .con C86), (71, .con C71), (79, .con C79), (162, .con C162), (146, .con C146)]
theorem tabB16c : TabOk Tryz.prog eqs its ctB16c := .con ok111 (.con ok56 (.con ok47 (.con ok145 (.con ok140 (.con ok49 (.con ok123 (.con ok30 (.con ok31 (.con ok32 (.con ok33 (.con ok50 (.con ok82 (.con ok80 (.con ok44 (.con ok91 (.con ok24 (.con ok23 (.con ok70 (.con ok62 (.con ok68 (.con ok63 (.con ok69 (.inl Tryz.func117 (by kernel_rfl) (by kernel_rfl) (by kernel_rfl) (.inl Tryz.func116 (by kernel_rfl) (by kernel_rfl) (by kernel_rfl) (.con ok115 (.con ok114 (.con ok73 (.con ok147 (.con ok64 (.con ok66 (.con ok113 (.con ok65 (.con ok67 (.con ok53 (.con ok122 (.con ok72 (.con ok45 (.con ok90 (.con ok119 (.con ok121 (.con ok99 (.con ok129 (.con ok148 (.con ok149 (.con ok112 (.con ok118 (.con ok120 (.con ok51 (.con ok133 (.con ok103 (.con ok100 (.con ok134 (.con ok135 (.con ok78 (.con ok54 (.con ok48 (.con ok102 (.con ok81 (.con ok88 (.con ok84 (.con ok85 (.con ok127 (.con ok101 (.con ok86 (.con ok71 (.con ok79 (.con ok162 (.con ok146 (.nil)))))))))))))))))))))))))))))))))))))))))))))))))))))))))))))))))))))
inductive S108 where
  | L0 (i_100 : Int)
def inv108 (n0 : Nat) (f0 : Nat → List V) (x2 : Int) (x3 : Int) (x4 : Int) (x5 : Int) (x6 : Int) (x7 : Int) (x8 : Int) (x9 : Int) (b10 : Bool) : S108 → Env × List O × Option Ex
  | .L0 i_100 => ([(8, V.int IntKind.i64 i_100), (7, V.int IntKind.i64 (↑n0 : Int)), (6, V.sl n0 (elV [Ty.int IntKind.i64, Ty.int IntKind.i64] f0)), (4, V.int IntKind.i64 0), (0, V.sl n0 (elV [Ty.int IntKind.i64, Ty.int IntKind.i64] f0)), (1, V.fn 56 [] [V.pd [V.int IntKind.i64 x2, V.int IntKind.i64 x3, V.int IntKind.i64 x4, V.int IntKind.i64 x5, V.int IntKind.i64 x6, V.int IntKind.i64 x7, V.int IntKind.i64 x8, V.int IntKind.i64 x9, V.bool b10]])], [], none)
def id108 : S108 → Nat × Nat
  | .L0 i_100 => (0, 0)
def lp108_0 (n0 : Nat) (f0 : Nat → List V) (x2 : Int) (x3 : Int) (x4 : Int) (x5 : Int) (x6 : Int) (x7 : Int) (x8 : Int) (x9 : Int) (b10 : Bool) (cx : Nat) : Lp (Nat × Nat) := lpT (atT (runL (Nat × Nat) ctB16c u0 s108 [V.sl n0 (elV [Ty.int IntKind.i64, Ty.int IntKind.i64] f0), V.fn 56 [] [V.pd [V.int IntKind.i64 x2, V.int IntKind.i64 x3, V.int IntKind.i64 x4, V.int IntKind.i64 x5, V.int IntKind.i64 x6, V.int IntKind.i64 x7, V.int IntKind.i64 x8, V.int IntKind.i64 x9, V.bool b10]]]) [])
def lp108 (n0 : Nat) (f0 : Nat → List V) (x2 : Int) (x3 : Int) (x4 : Int) (x5 : Int) (x6 : Int) (x7 : Int) (x8 : Int) (x9 : Int) (b10 : Bool) : Nat × Nat → Lp (Nat × Nat)
  | (0, cx) => lp108_0 n0 f0 x2 x3 x4 x5 x6 x7 x8 x9 b10 cx
  | (_, cx) => lp108_0 n0 f0 x2 x3 x4 x5 x6 x7 x8 x9 b10 cx
def D108 (n0 : Nat) (f0 : Nat → List V) (x2 : Int) (x3 : Int) (x4 : Int) (x5 : Int) (x6 : Int) (x7 : Int) (x8 : Int) (x9 : Int) (b10 : Bool) : LD (Nat × Nat) S108 := ⟨id108, lp108 n0 f0 x2 x3 x4 x5 x6 x7 x8 x9 b10, inv108 n0 f0 x2 x3 x4 x5 x6 x7 x8 x9 b10⟩
def st108 (n0 : Nat) (f0 : Nat → List V) (x2 : Int) (x3 : Int) (x4 : Int) (x5 : Int) (x6 : Int) (x7 : Int) (x8 : Int) (x9 : Int) (b10 : Bool) : S108 → RT S108
  | .L0 i_100 => .br (decide (i_100 < (↑n0 : Int))) (.ob (decide (0 ≤ i_100 ∧ i_100 < (↑n0 : Int))) (.obc (.obt (.br (F56_0 (iv (hdV (f0 i_100.toNat))) (iv (hdV (tlV (f0 i_100.toNat)))) x2 x3 x4 x5 x6 x7 x8 x9 b10) (.ret (V.int IntKind.i64 i_100)) (.next [] (S108.L0 (IntKind.i64.wrap (i_100 + 1))) []))))) (.ret (V.int IntKind.i64 (-1)))
def m108 (n0 : Nat) (f0 : Nat → List V) (x2 : Int) (x3 : Int) (x4 : Int) (x5 : Int) (x6 : Int) (x7 : Int) (x8 : Int) (x9 : Int) (b10 : Bool) : RT S108 := .asm (true = true → n0 ≤ 9223372036854775807) (.enter [] (S108.L0 (0)) [])
theorem f108m (n0 : Nat) (f0 : Nat → List V) (x2 : Int) (x3 : Int) (x4 : Int) (x5 : Int) (x6 : Int) (x7 : Int) (x8 : Int) (x9 : Int) (b10 : Bool) : fitT (D108 n0 f0 x2 x3 x4 x5 x6 x7 x8 x9 b10) (runL (Nat × Nat) ctB16c u0 s108 [V.sl n0 (elV [Ty.int IntKind.i64, Ty.int IntKind.i64] f0), V.fn 56 [] [V.pd [V.int IntKind.i64 x2, V.int IntKind.i64 x3, V.int IntKind.i64 x4, V.int IntKind.i64 x5, V.int IntKind.i64 x6, V.int IntKind.i64 x7, V.int IntKind.i64 x8, V.int IntKind.i64 x9, V.bool b10]]]) (m108 n0 f0 x2 x3 x4 x5 x6 x7 x8 x9 b10) = toF (D108 n0 f0 x2 x3 x4 x5 x6 x7 x8 x9 b10) (m108 n0 f0 x2 x3 x4 x5 x6 x7 x8 x9 b10) := by kernel_rfl
theorem q108m (n0 : Nat) (f0 : Nat → List V) (x2 : Int) (x3 : Int) (x4 : Int) (x5 : Int) (x6 : Int) (x7 : Int) (x8 : Int) (x9 : Int) (b10 : Bool) : sameT (runL (Nat × Nat) ctB16c u0 s108 [V.sl n0 (elV [Ty.int IntKind.i64, Ty.int IntKind.i64] f0), V.fn 56 [] [V.pd [V.int IntKind.i64 x2, V.int IntKind.i64 x3, V.int IntKind.i64 x4, V.int IntKind.i64 x5, V.int IntKind.i64 x6, V.int IntKind.i64 x7, V.int IntKind.i64 x8, V.int IntKind.i64 x9, V.bool b10]]]) (m108 n0 f0 x2 x3 x4 x5 x6 x7 x8 x9 b10) = (runL (Nat × Nat) ctB16c u0 s108 [V.sl n0 (elV [Ty.int IntKind.i64, Ty.int IntKind.i64] f0), V.fn 56 [] [V.pd [V.int IntKind.i64 x2, V.int IntKind.i64 x3, V.int IntKind.i64 x4, V.int IntKind.i64 x5, V.int IntKind.i64 x6, V.int IntKind.i64 x7, V.int IntKind.i64 x8, V.int IntKind.i64 x9, V.bool b10]]]) := by kernel_rfl
theorem f108_0 (n0 : Nat) (f0 : Nat → List V) (x2 : Int) (x3 : Int) (x4 : Int) (x5 : Int) (x6 : Int) (x7 : Int) (x8 : Int) (x9 : Int) (b10 : Bool) (i_100 : Int) : fitT (D108 n0 f0 x2 x3 x4 x5 x6 x7 x8 x9 b10) (rdS ctB16c u0 (D108 n0 f0 x2 x3 x4 x5 x6 x7 x8 x9 b10) (S108.L0 i_100)) (st108 n0 f0 x2 x3 x4 x5 x6 x7 x8 x9 b10 (S108.L0 i_100)) = toF (D108 n0 f0 x2 x3 x4 x5 x6 x7 x8 x9 b10) (st108 n0 f0 x2 x3 x4 x5 x6 x7 x8 x9 b10 (S108.L0 i_100)) := by kernel_rfl
theorem q108_0 (n0 : Nat) (f0 : Nat → List V) (x2 : Int) (x3 : Int) (x4 : Int) (x5 : Int) (x6 : Int) (x7 : Int) (x8 : Int) (x9 : Int) (b10 : Bool) (i_100 : Int) : sameT (rdS ctB16c u0 (D108 n0 f0 x2 x3 x4 x5 x6 x7 x8 x9 b10) (S108.L0 i_100)) (st108 n0 f0 x2 x3 x4 x5 x6 x7 x8 x9 b10 (S108.L0 i_100)) = rdS ctB16c u0 (D108 n0 f0 x2 x3 x4 x5 x6 x7 x8 x9 b10) (S108.L0 i_100) := by kernel_rfl
theorem run108 (w0 : World) (n0 : Nat) (f0 : Nat → List V) (x2 : Int) (x3 : Int) (x4 : Int) (x5 : Int) (x6 : Int) (x7 : Int) (x8 : Int) (x9 : Int) (b10 : Bool) {r : V} (h : evR (Ev (st108 n0 f0 x2 x3 x4 x5 x6 x7 x8 x9 b10)) (m108 n0 f0 x2 x3 x4 x5 x6 x7 x8 x9 b10) r) : sat (LPof w0 (SV ctB16c)) (runL (Nat × Nat) ctB16c u0 s108 [V.sl n0 (elV [Ty.int IntKind.i64, Ty.int IntKind.i64] f0), V.fn 56 [] [V.pd [V.int IntKind.i64 x2, V.int IntKind.i64 x3, V.int IntKind.i64 x4, V.int IntKind.i64 x5, V.int IntKind.i64 x6, V.int IntKind.i64 x7, V.int IntKind.i64 x8, V.int IntKind.i64 x9, V.bool b10]]]) (topQ r) := run_ev (by kernel_rfl) (D108 n0 f0 x2 x3 x4 x5 x6 x7 x8 x9 b10) (st108 n0 f0 x2 x3 x4 x5 x6 x7 x8 x9 b10) _ (f108m n0 f0 x2 x3 x4 x5 x6 x7 x8 x9 b10) (q108m n0 f0 x2 x3 x4 x5 x6 x7 x8 x9 b10) (fun s => match s with | .L0 i_100 => f108_0 n0 f0 x2 x3 x4 x5 x6 x7 x8 x9 b10 i_100) (fun s => match s with | .L0 i_100 => q108_0 n0 f0 x2 x3 x4 x5 x6 x7 x8 x9 b10 i_100) h
def F108 (n0 : Nat) (f0 : Nat → List V) (x2 : Int) (x3 : Int) (x4 : Int) (x5 : Int) (x6 : Int) (x7 : Int) (x8 : Int) (x9 : Int) (b10 : Bool) : Int   := idx n0 fun ii => F56_0 (iv (hdV (f0 ii))) (iv (hdV (tlV (f0 ii)))) x2 x3 x4 x5 x6 x7 x8 x9 b10
theorem ev108_0 (n0 : Nat) (f0 : Nat → List V) (x2 : Int) (x3 : Int) (x4 : Int) (x5 : Int) (x6 : Int) (x7 : Int) (x8 : Int) (x9 : Int) (b10 : Bool) : evR (Ev (st108 n0 f0 x2 x3 x4 x5 x6 x7 x8 x9 b10)) (m108 n0 f0 x2 x3 x4 x5 x6 x7 x8 x9 b10) (.int .i64 (F108 n0 f0 x2 x3 x4 x5 x6 x7 x8 x9 b10)) := evAsm1 fun hn => evEnter (idx_ev hn fun i => rfl)
theorem ev108 (n0 : Nat) (f0 : Nat → List V) (x2 : Int) (x3 : Int) (x4 : Int) (x5 : Int) (x6 : Int) (x7 : Int) (x8 : Int) (x9 : Int) (b10 : Bool) : evR (Ev (st108 n0 f0 x2 x3 x4 x5 x6 x7 x8 x9 b10)) (m108 n0 f0 x2 x3 x4 x5 x6 x7 x8 x9 b10) (.int .i64 (F108 n0 (elV [.int .i64, .int .i64] f0) x2 x3 x4 x5 x6 x7 x8 x9 b10)) := ev108_0 n0 f0 x2 x3 x4 x5 x6 x7 x8 x9 b10
def C108 : PCon := mkC [.sl [.int .i64, .int .i64], .fn 56 [] [.pd [.int .i64, .int .i64, .int .i64, .int .i64, .int .i64, .int .i64, .int .i64, .int .i64, .bool]]] (fun _ => True) fun
  | [.sl n0 f0, .fn _ [] [.pd [.int _ x2, .int _ x3, .int _ x4, .int _ x5, .int _ x6, .int _ x7, .int _ x8, .int _ x9, .bool b10]]] => .int .i64 (F108 n0 f0 x2 x3 x4 x5 x6 x7 x8 x9 b10)
  | _ => .any
theorem ok108 : (vP C108).Ok Tryz.prog 108 := mkC_ev (J := Nat × Nat) (un := u0) tabB16c hE hI Tryz.func108 (by kernel_rfl) (by kernel_rfl) (by kernel_rfl) rfl (fun w0 ds hp => run108 w0 _ _ _ _ _ _ _ _ _ _ _ (ev108 _ _ _ _ _ _ _ _ _ _ _))
inductive S46 where
  | L0 (i_100 : Int)
def inv46 (n0 : Nat) (f0 : Nat → List V) (n2 : Nat) (f2 : Nat → List V) (n4 : Nat) (f4 : Nat → List V) (n6 : Nat) (f6 : Nat → List V) (n8 : Nat) (f8 : Nat → List V) (x10 : Int) (x11 : Int) (x12 : Int) : S46 → Env × List O × Option Ex
  | .L0 i_100 => ([(8, V.int IntKind.i64 i_100), (7, V.int IntKind.i64 (↑n0 : Int)), (6, V.sl n0 (elV tyT f0)), (4, V.int IntKind.i64 0), (0, V.sl n0 (elV tyT f0)), (1, V.fn 47 [] [V.pd [V.sl n2 (elV tyR f2), V.sl n4 (elV tyT f4), V.sl n6 (elV tyF f6), V.sl n8 (elV tyC f8)], V.pd [V.int IntKind.i64 x10], V.pd [V.int IntKind.i64 x11], V.pd [V.int IntKind.i64 x12]])], [], none)
def id46 : S46 → Nat × Nat
  | .L0 i_100 => (0, 0)
def lp46_0 (n0 : Nat) (f0 : Nat → List V) (n2 : Nat) (f2 : Nat → List V) (n4 : Nat) (f4 : Nat → List V) (n6 : Nat) (f6 : Nat → List V) (n8 : Nat) (f8 : Nat → List V) (x10 : Int) (x11 : Int) (x12 : Int) (cx : Nat) : Lp (Nat × Nat) := lpT (atT (runL (Nat × Nat) ctB16c u0 s46 [V.sl n0 (elV tyT f0), V.fn 47 [] [V.pd [V.sl n2 (elV tyR f2), V.sl n4 (elV tyT f4), V.sl n6 (elV tyF f6), V.sl n8 (elV tyC f8)], V.pd [V.int IntKind.i64 x10], V.pd [V.int IntKind.i64 x11], V.pd [V.int IntKind.i64 x12]]]) [])
def lp46 (n0 : Nat) (f0 : Nat → List V) (n2 : Nat) (f2 : Nat → List V) (n4 : Nat) (f4 : Nat → List V) (n6 : Nat) (f6 : Nat → List V) (n8 : Nat) (f8 : Nat → List V) (x10 : Int) (x11 : Int) (x12 : Int) : Nat × Nat → Lp (Nat × Nat)
  | (0, cx) => lp46_0 n0 f0 n2 f2 n4 f4 n6 f6 n8 f8 x10 x11 x12 cx
  | (_, cx) => lp46_0 n0 f0 n2 f2 n4 f4 n6 f6 n8 f8 x10 x11 x12 cx
def D46 (n0 : Nat) (f0 : Nat → List V) (n2 : Nat) (f2 : Nat → List V) (n4 : Nat) (f4 : Nat → List V) (n6 : Nat) (f6 : Nat → List V) (n8 : Nat) (f8 : Nat → List V) (x10 : Int) (x11 : Int) (x12 : Int) : LD (Nat × Nat) S46 := ⟨id46, lp46 n0 f0 n2 f2 n4 f4 n6 f6 n8 f8 x10 x11 x12, inv46 n0 f0 n2 f2 n4 f4 n6 f6 n8 f8 x10 x11 x12⟩
def st46 (n0 : Nat) (f0 : Nat → List V) (n2 : Nat) (f2 : Nat → List V) (n4 : Nat) (f4 : Nat → List V) (n6 : Nat) (f6 : Nat → List V) (n8 : Nat) (f8 : Nat → List V) (x10 : Int) (x11 : Int) (x12 : Int) : S46 → RT S46
  | .L0 i_100 => .br (decide (i_100 < (↑n0 : Int))) (.ob (decide (0 ≤ i_100 ∧ i_100 < (↑n0 : Int))) (.obp ((0 : Int) ≤ x10 ∧ x10 < (↑n8 : Int)) (.obt (.br (F47_0 (iv (hdV (f0 i_100.toNat))) (iv (hdV (tlV (f0 i_100.toNat)))) (iv (hdV (tlV (tlV (f0 i_100.toNat))))) (iv (hdV (tlV (tlV (tlV (f0 i_100.toNat)))))) (iv (hdV (tlV (tlV (tlV (tlV (f0 i_100.toNat))))))) (elV tyC f8) x10 x11 x12) (.ret (V.int IntKind.i64 i_100)) (.next [] (S46.L0 (IntKind.i64.wrap (i_100 + 1))) []))))) (.ret (V.int IntKind.i64 (-1)))
def m46 (n0 : Nat) (f0 : Nat → List V) (n2 : Nat) (f2 : Nat → List V) (n4 : Nat) (f4 : Nat → List V) (n6 : Nat) (f6 : Nat → List V) (n8 : Nat) (f8 : Nat → List V) (x10 : Int) (x11 : Int) (x12 : Int) : RT S46 := .asm (true = true → n0 ≤ 9223372036854775807) (.enter [] (S46.L0 (0)) [])
theorem f46m (n0 : Nat) (f0 : Nat → List V) (n2 : Nat) (f2 : Nat → List V) (n4 : Nat) (f4 : Nat → List V) (n6 : Nat) (f6 : Nat → List V) (n8 : Nat) (f8 : Nat → List V) (x10 : Int) (x11 : Int) (x12 : Int) : fitT (D46 n0 f0 n2 f2 n4 f4 n6 f6 n8 f8 x10 x11 x12) (runL (Nat × Nat) ctB16c u0 s46 [V.sl n0 (elV tyT f0), V.fn 47 [] [V.pd [V.sl n2 (elV tyR f2), V.sl n4 (elV tyT f4), V.sl n6 (elV tyF f6), V.sl n8 (elV tyC f8)], V.pd [V.int IntKind.i64 x10], V.pd [V.int IntKind.i64 x11], V.pd [V.int IntKind.i64 x12]]]) (m46 n0 f0 n2 f2 n4 f4 n6 f6 n8 f8 x10 x11 x12) = toF (D46 n0 f0 n2 f2 n4 f4 n6 f6 n8 f8 x10 x11 x12) (m46 n0 f0 n2 f2 n4 f4 n6 f6 n8 f8 x10 x11 x12) := by kernel_rfl
theorem q46m (n0 : Nat) (f0 : Nat → List V) (n2 : Nat) (f2 : Nat → List V) (n4 : Nat) (f4 : Nat → List V) (n6 : Nat) (f6 : Nat → List V) (n8 : Nat) (f8 : Nat → List V) (x10 : Int) (x11 : Int) (x12 : Int) : sameT (runL (Nat × Nat) ctB16c u0 s46 [V.sl n0 (elV tyT f0), V.fn 47 [] [V.pd [V.sl n2 (elV tyR f2), V.sl n4 (elV tyT f4), V.sl n6 (elV tyF f6), V.sl n8 (elV tyC f8)], V.pd [V.int IntKind.i64 x10], V.pd [V.int IntKind.i64 x11], V.pd [V.int IntKind.i64 x12]]]) (m46 n0 f0 n2 f2 n4 f4 n6 f6 n8 f8 x10 x11 x12) = (runL (Nat × Nat) ctB16c u0 s46 [V.sl n0 (elV tyT f0), V.fn 47 [] [V.pd [V.sl n2 (elV tyR f2), V.sl n4 (elV tyT f4), V.sl n6 (elV tyF f6), V.sl n8 (elV tyC f8)], V.pd [V.int IntKind.i64 x10], V.pd [V.int IntKind.i64 x11], V.pd [V.int IntKind.i64 x12]]]) := by kernel_rfl
theorem f46_0 (n0 : Nat) (f0 : Nat → List V) (n2 : Nat) (f2 : Nat → List V) (n4 : Nat) (f4 : Nat → List V) (n6 : Nat) (f6 : Nat → List V) (n8 : Nat) (f8 : Nat → List V) (x10 : Int) (x11 : Int) (x12 : Int) (i_100 : Int) : fitT (D46 n0 f0 n2 f2 n4 f4 n6 f6 n8 f8 x10 x11 x12) (rdS ctB16c u0 (D46 n0 f0 n2 f2 n4 f4 n6 f6 n8 f8 x10 x11 x12) (S46.L0 i_100)) (st46 n0 f0 n2 f2 n4 f4 n6 f6 n8 f8 x10 x11 x12 (S46.L0 i_100)) = toF (D46 n0 f0 n2 f2 n4 f4 n6 f6 n8 f8 x10 x11 x12) (st46 n0 f0 n2 f2 n4 f4 n6 f6 n8 f8 x10 x11 x12 (S46.L0 i_100)) := by kernel_rfl
theorem q46_0 (n0 : Nat) (f0 : Nat → List V) (n2 : Nat) (f2 : Nat → List V) (n4 : Nat) (f4 : Nat → List V) (n6 : Nat) (f6 : Nat → List V) (n8 : Nat) (f8 : Nat → List V) (x10 : Int) (x11 : Int) (x12 : Int) (i_100 : Int) : sameT (rdS ctB16c u0 (D46 n0 f0 n2 f2 n4 f4 n6 f6 n8 f8 x10 x11 x12) (S46.L0 i_100)) (st46 n0 f0 n2 f2 n4 f4 n6 f6 n8 f8 x10 x11 x12 (S46.L0 i_100)) = rdS ctB16c u0 (D46 n0 f0 n2 f2 n4 f4 n6 f6 n8 f8 x10 x11 x12) (S46.L0 i_100) := by kernel_rfl
theorem run46 (w0 : World) (n0 : Nat) (f0 : Nat → List V) (n2 : Nat) (f2 : Nat → List V) (n4 : Nat) (f4 : Nat → List V) (n6 : Nat) (f6 : Nat → List V) (n8 : Nat) (f8 : Nat → List V) (x10 : Int) (x11 : Int) (x12 : Int) {r : V} (h : evR (Ev (st46 n0 f0 n2 f2 n4 f4 n6 f6 n8 f8 x10 x11 x12)) (m46 n0 f0 n2 f2 n4 f4 n6 f6 n8 f8 x10 x11 x12) r) : sat (LPof w0 (SV ctB16c)) (runL (Nat × Nat) ctB16c u0 s46 [V.sl n0 (elV tyT f0), V.fn 47 [] [V.pd [V.sl n2 (elV tyR f2), V.sl n4 (elV tyT f4), V.sl n6 (elV tyF f6), V.sl n8 (elV tyC f8)], V.pd [V.int IntKind.i64 x10], V.pd [V.int IntKind.i64 x11], V.pd [V.int IntKind.i64 x12]]]) (topQ r) := run_ev (by kernel_rfl) (D46 n0 f0 n2 f2 n4 f4 n6 f6 n8 f8 x10 x11 x12) (st46 n0 f0 n2 f2 n4 f4 n6 f6 n8 f8 x10 x11 x12) _ (f46m n0 f0 n2 f2 n4 f4 n6 f6 n8 f8 x10 x11 x12) (q46m n0 f0 n2 f2 n4 f4 n6 f6 n8 f8 x10 x11 x12) (fun s => match s with | .L0 i_100 => f46_0 n0 f0 n2 f2 n4 f4 n6 f6 n8 f8 x10 x11 x12 i_100) (fun s => match s with | .L0 i_100 => q46_0 n0 f0 n2 f2 n4 f4 n6 f6 n8 f8 x10 x11 x12 i_100) h
def F46 (n0 : Nat) (f0 : Nat → List V) (f8 : Nat → List V) (x10 : Int) (x11 : Int) (x12 : Int) : Int   := idx n0 fun ii => F47_0 (iv (hdV (f0 ii))) (iv (hdV (tlV (f0 ii)))) (iv (hdV (tlV (tlV (f0 ii))))) (iv (hdV (tlV (tlV (tlV (f0 ii)))))) (iv (hdV (tlV (tlV (tlV (tlV (f0 ii))))))) (elV tyC f8) x10 x11 x12
theorem ev46_0 (n0 : Nat) (f0 : Nat → List V) (n2 : Nat) (f2 : Nat → List V) (n4 : Nat) (f4 : Nat → List V) (n6 : Nat) (f6 : Nat → List V) (n8 : Nat) (f8 : Nat → List V) (x10 : Int) (x11 : Int) (x12 : Int) (hp : 0 ≤ x10 ∧ x10 < (n8 : Int)) : evR (Ev (st46 n0 f0 n2 f2 n4 f4 n6 f6 n8 f8 x10 x11 x12)) (m46 n0 f0 n2 f2 n4 f4 n6 f6 n8 f8 x10 x11 x12) (.int .i64 (F46 n0 f0 f8 x10 x11 x12)) := evAsm1 fun hn => evEnter (idx_evW (Q := fun ii => (0 : Int) ≤ x10 ∧ x10 < (↑n8 : Int)) (fun ii x => .obp ((0 : Int) ≤ x10 ∧ x10 < (↑n8 : Int)) (.obt x)) (fun i x r h hx => evObp h (evObt hx)) (fun _ _ => rfl) hn (fun _ _ => hp) fun i => rfl)
theorem ev46 (n0 : Nat) (f0 : Nat → List V) (n2 : Nat) (f2 : Nat → List V) (n4 : Nat) (f4 : Nat → List V) (n6 : Nat) (f6 : Nat → List V) (n8 : Nat) (f8 : Nat → List V) (x10 : Int) (x11 : Int) (x12 : Int) (hp : 0 ≤ x10 ∧ x10 < (n8 : Int)) : evR (Ev (st46 n0 f0 n2 f2 n4 f4 n6 f6 n8 f8 x10 x11 x12)) (m46 n0 f0 n2 f2 n4 f4 n6 f6 n8 f8 x10 x11 x12) (.int .i64 (F46 n0 (elV tyT f0) (elV tyC f8) x10 x11 x12)) := ev46_0 n0 f0 n2 f2 n4 f4 n6 f6 n8 f8 x10 x11 x12 hp
def C46 : PCon := mkC [.sl tyT, .fn 47 [] [.pd [.sl tyR, .sl tyT, .sl tyF, .sl tyC], .pd [.int .i64], .pd [.int .i64], .pd [.int .i64]]] (fun
  | [.sl n0 f0, .fn _ [] [.pd [.sl n2 f2, .sl n4 f4, .sl n6 f6, .sl n8 f8], .pd [.int _ x10], .pd [.int _ x11], .pd [.int _ x12]]] => 0 ≤ x10 ∧ x10 < (n8 : Int)
  | _ => False) fun
  | [.sl n0 f0, .fn _ [] [.pd [.sl n2 f2, .sl n4 f4, .sl n6 f6, .sl n8 f8], .pd [.int _ x10], .pd [.int _ x11], .pd [.int _ x12]]] => .int .i64 (F46 n0 f0 f8 x10 x11 x12)
  | _ => .any
theorem ok46 : (vP C46).Ok Tryz.prog 46 := mkC_ev (J := Nat × Nat) (un := u0) tabB16c hE hI Tryz.func46 (by kernel_rfl) (by kernel_rfl) (by kernel_rfl) rfl (fun w0 ds hp => run46 w0 _ _ _ _ _ _ _ _ _ _ _ _ _ (ev46 _ _ _ _ _ _ _ _ _ _ _ _ _ hp))
end
end Go.Dx
namespace Go.Dx
open Go.Sx Go.Proofs
set_option maxRecDepth 100000
set_option linter.unusedVariables false
set_option linter.unusedSimpArgs false
noncomputable section
def ctB16d : CTab := [(108, .con C108), (46, .con C46), (111, .con C111), (56, .con C56), (47, .con C47), (145, .con C145), (140, .con C140), (49, .con C49), (123, .con C123), (30, .con C30), (31, .con C31), (32, .con C32), (33, .con C33), (50, .con C50), (82, .con C82), (80, .con C80), (44, .con C44), (91, .con C91), (24, .con C24), (23, .con C23), (70, .con C70), (62, .con C62), (68, .con C68), (63, .con C63), (69, .con C69), (117, .inl s117 u0), (116, .inl s116 u0), (115, .con C115), (114, .con C114), (73, .con C73), (147, .con C147), (64, .con C64), (66, .con C66), (113, .con C113), (65, .con C65), (67, .con C67), (53, .con C53), (122, .con C122), (72, .con C72), (45, .con C45), (90, .con C90), (119, .con C119), (121, .con C121), (99, .con C99), (129, .con C129), (148, .con C148), (149, .con C149), (112, .con C112), (118, .con C118), (120, .con C120), (51, .con C51), (133, .con C133), (103, .con C103), (100, .con C100), (134, .con C134), (135, .con C135), (78, .con C78), (54, .con C54), (48, .con C48), (102, .con C102), (81, .con C81), (88, .con C88), (84, .con C84), (85, .con C85), (127, .con C127), (101, .con C101), (86, .con C86), (71, .con C71), (79, .con C79), (162, .con C162), (146, .con C146), (83, .inl s83 u0)]
theorem tabB16d : TabOk Tryz.prog eqs its ctB16d := .con ok108 (.con ok46 (.con ok111 (.con ok56 (.con ok47 (.con ok145 (.con ok140 (.con ok49 (.con ok123 (.con ok30 (.con ok31 (.con ok32 (.con ok33 (.con ok50 (.con ok82 (.con ok80 (.con ok44 (.con ok91 (.con ok24 (.con ok23 (.con ok70 (.con ok62 (.con ok68 (.con ok63 (.con ok69 (.inl Tryz.func117 (by kernel_rfl) (by kernel_rfl) (by kernel_rfl) (.inl Tryz.func116 (by kernel_rfl) (by kernel_rfl) (by kernel_rfl) (.con ok115 (.con ok114 (.con ok73 (.con ok147 (.con ok64 (.con ok66 (.con ok113 (.con ok65 (.con ok67 (.con ok53 (.con ok122 (.con ok72 (.con ok45 (.con ok90 (.con ok119 (.con ok121 (.con ok99 (.con ok129 (.con ok148 (.con ok149 (.con ok112 (.con ok118 (.con ok120 (.con ok51 (.con ok133 (.con ok103 (.con ok100 (.con ok134 (.con ok135 (.con ok78 (.con ok54 (.con ok48 (.con ok102 (.con ok81 (.con ok88 (.con ok84 (.con ok85 (.con ok127 (.con ok101 (.con ok86 (.con ok71 (.con ok79 (.con ok162 (.con ok146 (.inl Tryz.func83 (by kernel_rfl) (by kernel_rfl) (by kernel_rfl) (.nil))))))))))))))))))))))))))))))))))))))))))))))))))))))))))))))))))))))))
def m55 (n0 : Nat) (f0 : Nat → List V) (x2 : Int) (x3 : Int) (x4 : Int) (x5 : Int) (x6 : Int) (x7 : Int) (x8 : Int) (x9 : Int) (b10 : Bool) : RT Empty := .obc (.obt (.ret (V.bool (decide (0 ≤ F108 n0 (elV [Ty.int IntKind.i64, Ty.int IntKind.i64] f0) x2 x3 x4 x5 x6 x7 x8 x9 b10)))))
theorem f55m (n0 : Nat) (f0 : Nat → List V) (x2 : Int) (x3 : Int) (x4 : Int) (x5 : Int) (x6 : Int) (x7 : Int) (x8 : Int) (x9 : Int) (b10 : Bool) : fitT noD (runL (Nat × Nat) ctB16d u0 s55 [V.sl n0 (elV [Ty.int IntKind.i64, Ty.int IntKind.i64] f0), V.fn 56 [] [V.pd [V.int IntKind.i64 x2, V.int IntKind.i64 x3, V.int IntKind.i64 x4, V.int IntKind.i64 x5, V.int IntKind.i64 x6, V.int IntKind.i64 x7, V.int IntKind.i64 x8, V.int IntKind.i64 x9, V.bool b10]]]) (m55 n0 f0 x2 x3 x4 x5 x6 x7 x8 x9 b10) = toF noD (m55 n0 f0 x2 x3 x4 x5 x6 x7 x8 x9 b10) := by kernel_rfl
theorem q55m (n0 : Nat) (f0 : Nat → List V) (x2 : Int) (x3 : Int) (x4 : Int) (x5 : Int) (x6 : Int) (x7 : Int) (x8 : Int) (x9 : Int) (b10 : Bool) : sameT (runL (Nat × Nat) ctB16d u0 s55 [V.sl n0 (elV [Ty.int IntKind.i64, Ty.int IntKind.i64] f0), V.fn 56 [] [V.pd [V.int IntKind.i64 x2, V.int IntKind.i64 x3, V.int IntKind.i64 x4, V.int IntKind.i64 x5, V.int IntKind.i64 x6, V.int IntKind.i64 x7, V.int IntKind.i64 x8, V.int IntKind.i64 x9, V.bool b10]]]) (m55 n0 f0 x2 x3 x4 x5 x6 x7 x8 x9 b10) = (runL (Nat × Nat) ctB16d u0 s55 [V.sl n0 (elV [Ty.int IntKind.i64, Ty.int IntKind.i64] f0), V.fn 56 [] [V.pd [V.int IntKind.i64 x2, V.int IntKind.i64 x3, V.int IntKind.i64 x4, V.int IntKind.i64 x5, V.int IntKind.i64 x6, V.int IntKind.i64 x7, V.int IntKind.i64 x8, V.int IntKind.i64 x9, V.bool b10]]]) := by kernel_rfl
theorem run55 (w0 : World) (n0 : Nat) (f0 : Nat → List V) (x2 : Int) (x3 : Int) (x4 : Int) (x5 : Int) (x6 : Int) (x7 : Int) (x8 : Int) (x9 : Int) (b10 : Bool) {r : V} (h : evR noE (m55 n0 f0 x2 x3 x4 x5 x6 x7 x8 x9 b10) r) : sat (LPof w0 (SV ctB16d)) (runL (Nat × Nat) ctB16d u0 s55 [V.sl n0 (elV [Ty.int IntKind.i64, Ty.int IntKind.i64] f0), V.fn 56 [] [V.pd [V.int IntKind.i64 x2, V.int IntKind.i64 x3, V.int IntKind.i64 x4, V.int IntKind.i64 x5, V.int IntKind.i64 x6, V.int IntKind.i64 x7, V.int IntKind.i64 x8, V.int IntKind.i64 x9, V.bool b10]]]) (topQ r) := run_ev0 (by kernel_rfl) _ (f55m n0 f0 x2 x3 x4 x5 x6 x7 x8 x9 b10) (q55m n0 f0 x2 x3 x4 x5 x6 x7 x8 x9 b10) h
def F55_0 (n0 : Nat) (f0 : Nat → List V) (x2 : Int) (x3 : Int) (x4 : Int) (x5 : Int) (x6 : Int) (x7 : Int) (x8 : Int) (x9 : Int) (b10 : Bool) : Bool := decide (0 ≤ F108 n0 (elV [Ty.int IntKind.i64, Ty.int IntKind.i64] f0) x2 x3 x4 x5 x6 x7 x8 x9 b10)
def R55 (n0 : Nat) (f0 : Nat → List V) (x2 : Int) (x3 : Int) (x4 : Int) (x5 : Int) (x6 : Int) (x7 : Int) (x8 : Int) (x9 : Int) (b10 : Bool) : V := .bool (F55_0 n0 f0 x2 x3 x4 x5 x6 x7 x8 x9 b10)
theorem ev55 (n0 : Nat) (f0 : Nat → List V) (x2 : Int) (x3 : Int) (x4 : Int) (x5 : Int) (x6 : Int) (x7 : Int) (x8 : Int) (x9 : Int) (b10 : Bool) : evR noE (m55 n0 f0 x2 x3 x4 x5 x6 x7 x8 x9 b10) (R55 n0 f0 x2 x3 x4 x5 x6 x7 x8 x9 b10) := evObc (evObt (evRet (by unfold R55 F55_0; rfl)))
def C55 : PCon := mkC [.sl [.int .i64, .int .i64], .fn 56 [] [.pd [.int .i64, .int .i64, .int .i64, .int .i64, .int .i64, .int .i64, .int .i64, .int .i64, .bool]]] (fun _ => True) fun
  | [.sl n0 f0, .fn _ [] [.pd [.int _ x2, .int _ x3, .int _ x4, .int _ x5, .int _ x6, .int _ x7, .int _ x8, .int _ x9, .bool b10]]] => R55 n0 f0 x2 x3 x4 x5 x6 x7 x8 x9 b10
  | _ => .any
theorem ok55 : (vP C55).Ok Tryz.prog 55 := mkC_ev (J := Nat × Nat) (un := u0) tabB16d hE hI Tryz.func55 (by kernel_rfl) (by kernel_rfl) (by kernel_rfl) rfl (fun w0 ds hp => run55 w0 _ _ _ _ _ _ _ _ _ _ _ (ev55 _ _ _ _ _ _ _ _ _ _ _))
inductive S61 where
  | L0 (i_100 : Int) (n_101 : Nat) (i_102 : Int)
def inv61 (s0 : ByteArray) (x1 : Int) (n2 : Nat) (f2 : Nat → List V) (x4 : Int) (x5 : Int) (x6 : Int) (x7 : Int) (x8 : Int) : S61 → Env × List O × Option Ex
  | .L0 i_100 n_101 i_102 => ([(10, V.int IntKind.i64 i_100), (9, V.int IntKind.i64 (IntKind.i64.wrap ((↑n2 : Int) - 1))), (8, V.int IntKind.i64 (↑n2 : Int)), (7, V.sl n2 (elV [Ty.int IntKind.i64, Ty.int IntKind.i64] f2)), (6, V.pl 3 2), (0, V.yl n_101), (1, V.pl 3 0)], [O.cells [V.str s0, V.int IntKind.i64 x1, V.sl n2 (elV [Ty.int IntKind.i64, Ty.int IntKind.i64] f2), V.int IntKind.i64 x4] 54, O.cells [V.int IntKind.i64 x5, V.int IntKind.i64 x6, V.int IntKind.i64 x7, V.int IntKind.i64 x8] 29, O.cells [V.int IntKind.i64 i_102] 3, O.cells [V.str s0, V.int IntKind.i64 x1, V.sl n2 (elV [Ty.int IntKind.i64, Ty.int IntKind.i64] f2), V.int IntKind.i64 x4] 54], none)
def id61 : S61 → Nat × Nat
  | .L0 i_100 n_101 i_102 => (0, n_101)
def lp61_0 (s0 : ByteArray) (x1 : Int) (n2 : Nat) (f2 : Nat → List V) (x4 : Int) (x5 : Int) (x6 : Int) (x7 : Int) (x8 : Int) (cx : Nat) : Lp (Nat × Nat) := lpT (atT (afT (atT (runL (Nat × Nat) ctB16d u0 s61 [V.agg [V.str s0, V.int IntKind.i64 x1, V.sl n2 (elV [Ty.int IntKind.i64, Ty.int IntKind.i64] f2), V.int IntKind.i64 x4], V.agg [V.int IntKind.i64 x5, V.int IntKind.i64 x6, V.int IntKind.i64 x7, V.int IntKind.i64 x8]]) []) cx) [])
def lp61 (s0 : ByteArray) (x1 : Int) (n2 : Nat) (f2 : Nat → List V) (x4 : Int) (x5 : Int) (x6 : Int) (x7 : Int) (x8 : Int) : Nat × Nat → Lp (Nat × Nat)
  | (0, cx) => lp61_0 s0 x1 n2 f2 x4 x5 x6 x7 x8 cx
  | (_, cx) => lp61_0 s0 x1 n2 f2 x4 x5 x6 x7 x8 cx
def D61 (s0 : ByteArray) (x1 : Int) (n2 : Nat) (f2 : Nat → List V) (x4 : Int) (x5 : Int) (x6 : Int) (x7 : Int) (x8 : Int) : LD (Nat × Nat) S61 := ⟨id61, lp61 s0 x1 n2 f2 x4 x5 x6 x7 x8, inv61 s0 x1 n2 f2 x4 x5 x6 x7 x8⟩
def st61 (s0 : ByteArray) (x1 : Int) (n2 : Nat) (f2 : Nat → List V) (x4 : Int) (x5 : Int) (x6 : Int) (x7 : Int) (x8 : Int) : S61 → RT S61
  | .L0 i_100 n_101 i_102 => .br (decide (i_100 < IntKind.i64.wrap ((↑n2 : Int) - 1))) (.ob (decide (0 ≤ i_100 ∧ i_100 < (↑n2 : Int))) (.ob (decide (0 ≤ IntKind.i64.wrap (i_100 + 1) ∧ IntKind.i64.wrap (i_100 + 1) < (↑n2 : Int))) (.obt (.obt (.obt (.obt (.obc (.obt (.next [some (some 0), some (some 1), some (some 2), some (some 3)] (S61.L0 (IntKind.i64.wrap (i_100 + 1)) (n_101) (max i_102 (F111_0 (IntKind.i64.wrap (2 * iv (hdV (f2 i_100.toNat)))) (IntKind.i64.wrap (2 * iv (hdV (tlV (f2 i_100.toNat))))) (IntKind.i64.wrap (2 * iv (hdV (f2 (IntKind.i64.wrap (i_100 + 1)).toNat)))) (IntKind.i64.wrap (2 * iv (hdV (tlV (f2 (IntKind.i64.wrap (i_100 + 1)).toNat))))) x4 x5 x6 x7 x8))) []))))))))) (.ret (V.int IntKind.i64 i_102))
def m61 (s0 : ByteArray) (x1 : Int) (n2 : Nat) (f2 : Nat → List V) (x4 : Int) (x5 : Int) (x6 : Int) (x7 : Int) (x8 : Int) : RT S61 := .all (fun l_6790 => .asm (true = true → n2 ≤ 9223372036854775807) (.enter [some (some 0), some (some 1), some (some 2), some (some 3)] (S61.L0 (0) (l_6790) (0)) []))
theorem f61m (s0 : ByteArray) (x1 : Int) (n2 : Nat) (f2 : Nat → List V) (x4 : Int) (x5 : Int) (x6 : Int) (x7 : Int) (x8 : Int) : fitT (D61 s0 x1 n2 f2 x4 x5 x6 x7 x8) (runL (Nat × Nat) ctB16d u0 s61 [V.agg [V.str s0, V.int IntKind.i64 x1, V.sl n2 (elV [Ty.int IntKind.i64, Ty.int IntKind.i64] f2), V.int IntKind.i64 x4], V.agg [V.int IntKind.i64 x5, V.int IntKind.i64 x6, V.int IntKind.i64 x7, V.int IntKind.i64 x8]]) (m61 s0 x1 n2 f2 x4 x5 x6 x7 x8) = toF (D61 s0 x1 n2 f2 x4 x5 x6 x7 x8) (m61 s0 x1 n2 f2 x4 x5 x6 x7 x8) := by kernel_rfl
theorem q61m (s0 : ByteArray) (x1 : Int) (n2 : Nat) (f2 : Nat → List V) (x4 : Int) (x5 : Int) (x6 : Int) (x7 : Int) (x8 : Int) : sameT (runL (Nat × Nat) ctB16d u0 s61 [V.agg [V.str s0, V.int IntKind.i64 x1, V.sl n2 (elV [Ty.int IntKind.i64, Ty.int IntKind.i64] f2), V.int IntKind.i64 x4], V.agg [V.int IntKind.i64 x5, V.int IntKind.i64 x6, V.int IntKind.i64 x7, V.int IntKind.i64 x8]]) (m61 s0 x1 n2 f2 x4 x5 x6 x7 x8) = (runL (Nat × Nat) ctB16d u0 s61 [V.agg [V.str s0, V.int IntKind.i64 x1, V.sl n2 (elV [Ty.int IntKind.i64, Ty.int IntKind.i64] f2), V.int IntKind.i64 x4], V.agg [V.int IntKind.i64 x5, V.int IntKind.i64 x6, V.int IntKind.i64 x7, V.int IntKind.i64 x8]]) := by kernel_rfl
theorem f61_0 (s0 : ByteArray) (x1 : Int) (n2 : Nat) (f2 : Nat → List V) (x4 : Int) (x5 : Int) (x6 : Int) (x7 : Int) (x8 : Int) (i_100 : Int) (n_101 : Nat) (i_102 : Int) : fitT (D61 s0 x1 n2 f2 x4 x5 x6 x7 x8) (rdS ctB16d u0 (D61 s0 x1 n2 f2 x4 x5 x6 x7 x8) (S61.L0 i_100 n_101 i_102)) (st61 s0 x1 n2 f2 x4 x5 x6 x7 x8 (S61.L0 i_100 n_101 i_102)) = toF (D61 s0 x1 n2 f2 x4 x5 x6 x7 x8) (st61 s0 x1 n2 f2 x4 x5 x6 x7 x8 (S61.L0 i_100 n_101 i_102)) := by kernel_rfl
theorem q61_0 (s0 : ByteArray) (x1 : Int) (n2 : Nat) (f2 : Nat → List V) (x4 : Int) (x5 : Int) (x6 : Int) (x7 : Int) (x8 : Int) (i_100 : Int) (n_101 : Nat) (i_102 : Int) : sameT (rdS ctB16d u0 (D61 s0 x1 n2 f2 x4 x5 x6 x7 x8) (S61.L0 i_100 n_101 i_102)) (st61 s0 x1 n2 f2 x4 x5 x6 x7 x8 (S61.L0 i_100 n_101 i_102)) = rdS ctB16d u0 (D61 s0 x1 n2 f2 x4 x5 x6 x7 x8) (S61.L0 i_100 n_101 i_102) := by kernel_rfl
theorem run61 (w0 : World) (s0 : ByteArray) (x1 : Int) (n2 : Nat) (f2 : Nat → List V) (x4 : Int) (x5 : Int) (x6 : Int) (x7 : Int) (x8 : Int) {r : V} (h : evR (Ev (st61 s0 x1 n2 f2 x4 x5 x6 x7 x8)) (m61 s0 x1 n2 f2 x4 x5 x6 x7 x8) r) : sat (LPof w0 (SV ctB16d)) (runL (Nat × Nat) ctB16d u0 s61 [V.agg [V.str s0, V.int IntKind.i64 x1, V.sl n2 (elV [Ty.int IntKind.i64, Ty.int IntKind.i64] f2), V.int IntKind.i64 x4], V.agg [V.int IntKind.i64 x5, V.int IntKind.i64 x6, V.int IntKind.i64 x7, V.int IntKind.i64 x8]]) (topQ r) := run_ev (by kernel_rfl) (D61 s0 x1 n2 f2 x4 x5 x6 x7 x8) (st61 s0 x1 n2 f2 x4 x5 x6 x7 x8) _ (f61m s0 x1 n2 f2 x4 x5 x6 x7 x8) (q61m s0 x1 n2 f2 x4 x5 x6 x7 x8) (fun s => match s with | .L0 i_100 n_101 i_102 => f61_0 s0 x1 n2 f2 x4 x5 x6 x7 x8 i_100 n_101 i_102) (fun s => match s with | .L0 i_100 n_101 i_102 => q61_0 s0 x1 n2 f2 x4 x5 x6 x7 x8 i_100 n_101 i_102) h
def p61 (n2 : Nat) (f2 : Nat → List V) (x4 : Int) (x5 : Int) (x6 : Int) (x7 : Int) (x8 : Int) (ii : Nat) : Int := F111_0 (IntKind.i64.wrap (2 * iv (hdV (f2 ii)))) (IntKind.i64.wrap (2 * iv (hdV (tlV (f2 ii))))) (IntKind.i64.wrap (2 * iv (hdV (f2 (IntKind.i64.wrap ((ii : Int) + 1)).toNat)))) (IntKind.i64.wrap (2 * iv (hdV (tlV (f2 (IntKind.i64.wrap ((ii : Int) + 1)).toNat))))) x4 x5 x6 x7 x8
def F61 (n2 : Nat) (f2 : Nat → List V) (x4 : Int) (x5 : Int) (x6 : Int) (x7 : Int) (x8 : Int) : Int := maxTo (p61 n2 f2 x4 x5 x6 x7 x8) (n2 - 1)
theorem ev61_0 (s0 : ByteArray) (x1 : Int) (n2 : Nat) (f2 : Nat → List V) (x4 : Int) (x5 : Int) (x6 : Int) (x7 : Int) (x8 : Int) : evR (Ev (st61 s0 x1 n2 f2 x4 x5 x6 x7 x8)) (m61 s0 x1 n2 f2 x4 x5 x6 x7 x8) (.int .i64 (F61 n2 f2 x4 x5 x6 x7 x8)) := evAll fun l => evAsm1 fun hn => evEnter (pieces_ev hn fun i a _ => rfl)
theorem ev61 (s0 : ByteArray) (x1 : Int) (n2 : Nat) (f2 : Nat → List V) (x4 : Int) (x5 : Int) (x6 : Int) (x7 : Int) (x8 : Int) : evR (Ev (st61 s0 x1 n2 f2 x4 x5 x6 x7 x8)) (m61 s0 x1 n2 f2 x4 x5 x6 x7 x8) (.int .i64 (F61 n2 (elV [.int .i64, .int .i64] f2) x4 x5 x6 x7 x8)) := ev61_0 s0 x1 n2 f2 x4 x5 x6 x7 x8
def C61 : PCon := mkC [.agg tyR, .agg [.int .i64, .int .i64, .int .i64, .int .i64]] (fun _ => True) fun
  | [.agg [.str s0, .int _ x1, .sl n2 f2, .int _ x4], .agg [.int _ x5, .int _ x6, .int _ x7, .int _ x8]] => .int .i64 (F61 n2 f2 x4 x5 x6 x7 x8)
  | _ => .any
theorem ok61 : (vP C61).Ok Tryz.prog 61 := mkC_ev (J := Nat × Nat) (un := u0) tabB16d hE hI Tryz.func61 (by kernel_rfl) (by kernel_rfl) (by kernel_rfl) rfl (fun w0 ds hp => run61 w0 _ _ _ _ _ _ _ _ _ (ev61 _ _ _ _ _ _ _ _ _))
end
end Go.Dx
namespace Go.Dx
open Go.Sx Go.Proofs
set_option maxRecDepth 100000
set_option linter.unusedVariables false
set_option linter.unusedSimpArgs false
noncomputable section
def ctB16e : CTab := [(55, .con C55), (61, .con C61), (108, .con C108), (46, .con C46), (111, .con C111), (56, .con C56), (47, .con C47), (145, .con C145), (140, .con C140), (49, .con C49), (123, .con C123), (30, .con C30), (31, .con C31), (32, .con C32), (33, .con C33), (50, .con C50), (82, .con C82), (80, .con C80), (44, .con C44), (91, .con C91), (24, .con C24), (23, .con C23), (70, .con C70), (62, .con C62), (68, .con C68), (63, .con C63), (69, .con C69), (117, .inl s117 u0), (116, .inl s116 u0), (115, .con C115), (114, .con C114), (73, .con C73), (147, .con C147), (64, .con C64), (66, .con C66), (113, .con C113), (65, .con C65), (67, .con C67), (53, .con C53), (122, .con C122), (72, .con C72), (45, .con C45), (90, .con C90), (119, .con C119), (121, .con C121), (99, .con C99), (129, .con C129), (148, .con C148), (149, .con C149), (112, .con C112), (118, .con C118), (120, .con C120), (51, .con C51), (133, .con C133), (103, .con C103), (100, .con C100), (134, .con C134), (135, .con C135), (78, .con C78), (54, .con C54), (48, .con C48), (102, .con C102), (81, .con C81), (88, .con C88), (84, .con C84), (85, .con C85), (127, .con C127), (101, .con C101), (86, .con C86), (71, .con C71), (79, .con C79), (162, .con C162), (146, .con C146), (83, .inl s83 u0)]
theorem tabB16e : TabOk Tryz.prog eqs its ctB16e := .con ok55 (.con ok61 (.con ok108 (.con ok46 (.con ok111 (.con ok56 (.con ok47 (.con ok145 (.con ok140 (.con ok49 (.con ok123 (.con ok30 (.con ok31 (.con ok32 (.con ok33 (.con ok50 (.con ok82 (.con ok80 (.con ok44 (.con ok91 (.con ok24 (.con ok23 (.con ok70 (.con ok62 (.con ok68 (.con ok63 (.con ok69 (.inl Tryz.func117 (by kernel_rfl) (by kernel_rfl) (by kernel_rfl) (.inl Tryz.func116 (by kernel_rfl) (by kernel_rfl) (by kernel_rfl) (.con ok115 (.con ok114 (.con ok73 (.con ok147 (.con ok64 (.con ok66 (.con ok113 (.con ok65 (.con ok67 (.con ok53 (.con ok122 (.con ok72 (.con ok45 (.con ok90 (.con ok119 (.con ok121 (.con ok99 (.con ok129 (.con ok148 (.con ok149 (.con ok112 (.con ok118 (.con ok120 (.con ok51 (.con ok133 (.con ok103 (.con ok100 (.con ok134 (.con ok135 (.con ok78 (.con ok54 (.con ok48 (.con ok102 (.con ok81 (.con ok88 (.con ok84 (.con ok85 (.con ok127 (.con ok101 (.con ok86 (.con ok71 (.con ok79 (.con ok162 (.con ok146 (.inl Tryz.func83 (by kernel_rfl) (by kernel_rfl) (by kernel_rfl) (.nil))))))))))))))))))))))))))))))))))))))))))))))))))))))))))))))))))))))))))
attribute [local irreducible] F44 F50_0 F91_0
def m22 (n0 : Nat) (f0 : Nat → List V) (n2 : Nat) (f2 : Nat → List V) (n4 : Nat) (f4 : Nat → List V) (n6 : Nat) (f6 : Nat → List V) (x8 : Int) (x9 : Int) (x10 : Int) (x11 : Int) (x12 : Int) : RT Empty := .asm (true = true → n0 ≤ 9223372036854775807) (.obp (((∀ (i : Nat), i < n0 → (sv (hdV (f0 i))).size ≤ (9223372036854775807 : Nat)) ∧ ∀ (i : Nat), i < n6 → (sv (hdV (f6 i))).size ≤ (9223372036854775807 : Nat)) ∧ (0 : Nat) = (0 : Nat) ∧ (2 : Nat) ≤ (100 : Nat)) (.obt (.br (F44 n0 (elV tyR f0) n2 (elV tyT f2) n4 (elV tyF f4) n6 (elV tyC f6) 2 (elV [Ty.int IntKind.i64] (secF [V.int IntKind.i64 x8, V.int IntKind.i64 (↑n0 : Int)] 0 ((1 + 1 - 0) / 2))) != 0) (.ret (V.tup [V.int IntKind.i64 0, V.int IntKind.i64 (F44 n0 (elV tyR f0) n2 (elV tyT f2) n4 (elV tyF f4) n6 (elV tyC f6) 2 (elV [Ty.int IntKind.i64] (secF [V.int IntKind.i64 x8, V.int IntKind.i64 (↑n0 : Int)] 0 ((1 + 1 - 0) / 2))))])) (.obc (.obt (.br (F53_0 x9 x10 x11 x12) (.ret (V.tup [V.int IntKind.i64 0, V.int IntKind.i64 7])) (.ob (decide (0 ≤ x8 ∧ x8 < (↑n0 : Int))) (.obc (.obt (.ret (V.tup [V.int IntKind.i64 (F61 (lenV (hdV (tlV (tlV (f0 x8.toNat))))) (fun i => views [Ty.int IntKind.i64, Ty.int IntKind.i64] (atV (hdV (tlV (tlV (f0 x8.toNat)))) i)) (iv (hdV (tlV (tlV (tlV (f0 x8.toNat)))))) x9 x10 x11 x12), V.int IntKind.i64 0])))))))))))
theorem f22m (n0 : Nat) (f0 : Nat → List V) (n2 : Nat) (f2 : Nat → List V) (n4 : Nat) (f4 : Nat → List V) (n6 : Nat) (f6 : Nat → List V) (x8 : Int) (x9 : Int) (x10 : Int) (x11 : Int) (x12 : Int) : fitT noD (runL (Nat × Nat) ctB16e u0 s22 [V.agg [V.sl n0 (elV tyR f0), V.sl n2 (elV tyT f2), V.sl n4 (elV tyF f4), V.sl n6 (elV tyC f6)], V.int IntKind.i64 x8, V.agg [V.int IntKind.i64 x9, V.int IntKind.i64 x10, V.int IntKind.i64 x11, V.int IntKind.i64 x12]]) (m22 n0 f0 n2 f2 n4 f4 n6 f6 x8 x9 x10 x11 x12) = toF noD (m22 n0 f0 n2 f2 n4 f4 n6 f6 x8 x9 x10 x11 x12) := by kernel_rfl
theorem q22m (n0 : Nat) (f0 : Nat → List V) (n2 : Nat) (f2 : Nat → List V) (n4 : Nat) (f4 : Nat → List V) (n6 : Nat) (f6 : Nat → List V) (x8 : Int) (x9 : Int) (x10 : Int) (x11 : Int) (x12 : Int) : sameT (runL (Nat × Nat) ctB16e u0 s22 [V.agg [V.sl n0 (elV tyR f0), V.sl n2 (elV tyT f2), V.sl n4 (elV tyF f4), V.sl n6 (elV tyC f6)], V.int IntKind.i64 x8, V.agg [V.int IntKind.i64 x9, V.int IntKind.i64 x10, V.int IntKind.i64 x11, V.int IntKind.i64 x12]]) (m22 n0 f0 n2 f2 n4 f4 n6 f6 x8 x9 x10 x11 x12) = (runL (Nat × Nat) ctB16e u0 s22 [V.agg [V.sl n0 (elV tyR f0), V.sl n2 (elV tyT f2), V.sl n4 (elV tyF f4), V.sl n6 (elV tyC f6)], V.int IntKind.i64 x8, V.agg [V.int IntKind.i64 x9, V.int IntKind.i64 x10, V.int IntKind.i64 x11, V.int IntKind.i64 x12]]) := by kernel_rfl
theorem run22 (w0 : World) (n0 : Nat) (f0 : Nat → List V) (n2 : Nat) (f2 : Nat → List V) (n4 : Nat) (f4 : Nat → List V) (n6 : Nat) (f6 : Nat → List V) (x8 : Int) (x9 : Int) (x10 : Int) (x11 : Int) (x12 : Int) {r : V} (h : evR noE (m22 n0 f0 n2 f2 n4 f4 n6 f6 x8 x9 x10 x11 x12) r) : sat (LPof w0 (SV ctB16e)) (runL (Nat × Nat) ctB16e u0 s22 [V.agg [V.sl n0 (elV tyR f0), V.sl n2 (elV tyT f2), V.sl n4 (elV tyF f4), V.sl n6 (elV tyC f6)], V.int IntKind.i64 x8, V.agg [V.int IntKind.i64 x9, V.int IntKind.i64 x10, V.int IntKind.i64 x11, V.int IntKind.i64 x12]]) (topQ r) := run_ev0 (by kernel_rfl) _ (f22m n0 f0 n2 f2 n4 f4 n6 f6 x8 x9 x10 x11 x12) (q22m n0 f0 n2 f2 n4 f4 n6 f6 x8 x9 x10 x11 x12) h
def F22_0 (n0 : Nat) (f0 : Nat → List V) (n2 : Nat) (f2 : Nat → List V) (n4 : Nat) (f4 : Nat → List V) (n6 : Nat) (f6 : Nat → List V) (x8 : Int) (x9 : Int) (x10 : Int) (x11 : Int) (x12 : Int) : Int := bif F44 n0 (elV tyR f0) n2 (elV tyT f2) n4 (elV tyF f4) n6 (elV tyC f6) 2 (elV [Ty.int IntKind.i64] (secF [V.int IntKind.i64 x8, V.int IntKind.i64 (↑n0 : Int)] 0 ((1 + 1 - 0) / 2))) != 0 then 0 else bif F53_0 x9 x10 x11 x12 then 0 else F61 (lenV (hdV (tlV (tlV (f0 x8.toNat))))) (fun i => views [Ty.int IntKind.i64, Ty.int IntKind.i64] (atV (hdV (tlV (tlV (f0 x8.toNat)))) i)) (iv (hdV (tlV (tlV (tlV (f0 x8.toNat)))))) x9 x10 x11 x12
def F22_1 (n0 : Nat) (f0 : Nat → List V) (n2 : Nat) (f2 : Nat → List V) (n4 : Nat) (f4 : Nat → List V) (n6 : Nat) (f6 : Nat → List V) (x8 : Int) (x9 : Int) (x10 : Int) (x11 : Int) (x12 : Int) : Int := bif F44 n0 (elV tyR f0) n2 (elV tyT f2) n4 (elV tyF f4) n6 (elV tyC f6) 2 (elV [Ty.int IntKind.i64] (secF [V.int IntKind.i64 x8, V.int IntKind.i64 (↑n0 : Int)] 0 ((1 + 1 - 0) / 2))) != 0 then F44 n0 (elV tyR f0) n2 (elV tyT f2) n4 (elV tyF f4) n6 (elV tyC f6) 2 (elV [Ty.int IntKind.i64] (secF [V.int IntKind.i64 x8, V.int IntKind.i64 (↑n0 : Int)] 0 ((1 + 1 - 0) / 2))) else bif F53_0 x9 x10 x11 x12 then 7 else 0
def R22 (n0 : Nat) (f0 : Nat → List V) (n2 : Nat) (f2 : Nat → List V) (n4 : Nat) (f4 : Nat → List V) (n6 : Nat) (f6 : Nat → List V) (x8 : Int) (x9 : Int) (x10 : Int) (x11 : Int) (x12 : Int) : V := .tup [.int IntKind.i64 (F22_0 n0 f0 n2 f2 n4 f4 n6 f6 x8 x9 x10 x11 x12), .int IntKind.i64 (F22_1 n0 f0 n2 f2 n4 f4 n6 f6 x8 x9 x10 x11 x12)]
theorem ev22 (n0 : Nat) (f0 : Nat → List V) (n2 : Nat) (f2 : Nat → List V) (n4 : Nat) (f4 : Nat → List V) (n6 : Nat) (f6 : Nat → List V) (x8 : Int) (x9 : Int) (x10 : Int) (x11 : Int) (x12 : Int) (hp : SzOk n0 f0 ∧ SzOk n6 f6) : evR noE (m22 n0 f0 n2 f2 n4 f4 n6 f6 x8 x9 x10 x11 x12) (R22 n0 f0 n2 f2 n4 f4 n6 f6 x8 x9 x10 x11 x12) := evAsm (fun a0 => evObp (by first | assumption | ((first | exact ⟨hp, rfl, by decide⟩ | (simp_all [cond_eq_ite] <;> first | omega | exact (k44_4 (by assumption) (by assumption) h0).1 | exact (k44_4 (by assumption) (by assumption) h0).2 | exact k44_2 (by assumption) h0 | exact k44_2 (by assumption) h1 | exact k50 h0 | exact k50 h1 | exact k50 hc.1 | exact k44_2 (by assumption) hc)))) (evObt (evBr (fun h0 => evRet (by unfold R22 F22_0 F22_1; try rw [h0]; rfl)) (fun h0 => evObc (evObt (evBr (fun h1 => evRet (by unfold R22 F22_0 F22_1; try rw [h0]; try rw [h1]; rfl)) (fun h1 => evOb (by first | assumption | ((simp_all [cond_eq_ite] <;> first | omega | exact (k44_4 (by assumption) (by assumption) h0).1 | exact (k44_4 (by assumption) (by assumption) h0).2 | exact k44_2 (by assumption) h0 | exact k44_2 (by assumption) h1 | exact k50 h0 | exact k50 h1 | exact k50 hc.1 | exact k44_2 (by assumption) hc))) (evObc (evObt (evRet (by unfold R22 F22_0 F22_1; try rw [h0]; try rw [h1]; rfl)))))))))))
def C22 : PCon := mkC [.agg [.sl tyR, .sl tyT, .sl tyF, .sl tyC], .int .i64, .agg [.int .i64, .int .i64, .int .i64, .int .i64]] (fun
  | [.agg [.sl n0 f0, .sl n2 f2, .sl n4 f4, .sl n6 f6], .int _ x8, .agg [.int _ x9, .int _ x10, .int _ x11, .int _ x12]] => SzOk n0 f0 ∧ SzOk n6 f6
  | _ => False) fun
  | [.agg [.sl n0 f0, .sl n2 f2, .sl n4 f4, .sl n6 f6], .int _ x8, .agg [.int _ x9, .int _ x10, .int _ x11, .int _ x12]] => R22 n0 f0 n2 f2 n4 f4 n6 f6 x8 x9 x10 x11 x12
  | _ => .any
theorem ok22 : (vP C22).Ok Tryz.prog 22 := mkC_ev (J := Nat × Nat) (un := u0) tabB16e hE hI Tryz.func22 (by kernel_rfl) (by kernel_rfl) (by kernel_rfl) rfl (fun w0 ds hp => run22 w0 _ _ _ _ _ _ _ _ _ _ _ _ _ (ev22 _ _ _ _ _ _ _ _ _ _ _ _ _ hp))
def m15 (n0 : Nat) (f0 : Nat → List V) (n2 : Nat) (f2 : Nat → List V) (n4 : Nat) (f4 : Nat → List V) (n6 : Nat) (f6 : Nat → List V) (x8 : Int) (x9 : Int) (x10 : Int) : RT Empty := .asm (true = true → n6 ≤ 9223372036854775807) (.obp (((∀ (i : Nat), i < n0 → (sv (hdV (f0 i))).size ≤ (9223372036854775807 : Nat)) ∧ ∀ (i : Nat), i < n6 → (sv (hdV (f6 i))).size ≤ (9223372036854775807 : Nat)) ∧ (0 : Nat) = (0 : Nat) ∧ (2 : Nat) ≤ (100 : Nat)) (.obt (.br (F44 n0 (elV tyR f0) n2 (elV tyT f2) n4 (elV tyF f4) n6 (elV tyC f6) 2 (elV [Ty.int IntKind.i64] (secF [V.int IntKind.i64 x8, V.int IntKind.i64 (↑n6 : Int)] 0 ((1 + 1 - 0) / 2))) != 0) (.ret (V.tup [V.int IntKind.i64 0, V.int IntKind.i64 (F44 n0 (elV tyR f0) n2 (elV tyT f2) n4 (elV tyF f4) n6 (elV tyC f6) 2 (elV [Ty.int IntKind.i64] (secF [V.int IntKind.i64 x8, V.int IntKind.i64 (↑n6 : Int)] 0 ((1 + 1 - 0) / 2))))])) (.obc (.obt (.br (F45_0 2 (elV [Ty.int IntKind.i64] (secF [V.int IntKind.i64 x9, V.int IntKind.i64 x10] 0 ((1 + 1 - 0) / 2)))) (.ret (V.tup [V.int IntKind.i64 0, V.int IntKind.i64 7])) (.obp ((0 : Int) ≤ x8 ∧ x8 < (↑n6 : Int)) (.obt (.ret (V.tup [V.int IntKind.i64 (F46 n2 (elV tyT f2) (elV tyC f6) x8 x9 x10), V.int IntKind.i64 0]))))))))))
theorem f15m (n0 : Nat) (f0 : Nat → List V) (n2 : Nat) (f2 : Nat → List V) (n4 : Nat) (f4 : Nat → List V) (n6 : Nat) (f6 : Nat → List V) (x8 : Int) (x9 : Int) (x10 : Int) : fitT noD (runL (Nat × Nat) ctB16e u0 s15 [V.agg [V.sl n0 (elV tyR f0), V.sl n2 (elV tyT f2), V.sl n4 (elV tyF f4), V.sl n6 (elV tyC f6)], V.int IntKind.i64 x8, V.int IntKind.i64 x9, V.int IntKind.i64 x10]) (m15 n0 f0 n2 f2 n4 f4 n6 f6 x8 x9 x10) = toF noD (m15 n0 f0 n2 f2 n4 f4 n6 f6 x8 x9 x10) := by kernel_rfl
theorem q15m (n0 : Nat) (f0 : Nat → List V) (n2 : Nat) (f2 : Nat → List V) (n4 : Nat) (f4 : Nat → List V) (n6 : Nat) (f6 : Nat → List V) (x8 : Int) (x9 : Int) (x10 : Int) : sameT (runL (Nat × Nat) ctB16e u0 s15 [V.agg [V.sl n0 (elV tyR f0), V.sl n2 (elV tyT f2), V.sl n4 (elV tyF f4), V.sl n6 (elV tyC f6)], V.int IntKind.i64 x8, V.int IntKind.i64 x9, V.int IntKind.i64 x10]) (m15 n0 f0 n2 f2 n4 f4 n6 f6 x8 x9 x10) = (runL (Nat × Nat) ctB16e u0 s15 [V.agg [V.sl n0 (elV tyR f0), V.sl n2 (elV tyT f2), V.sl n4 (elV tyF f4), V.sl n6 (elV tyC f6)], V.int IntKind.i64 x8, V.int IntKind.i64 x9, V.int IntKind.i64 x10]) := by kernel_rfl
theorem run15 (w0 : World) (n0 : Nat) (f0 : Nat → List V) (n2 : Nat) (f2 : Nat → List V) (n4 : Nat) (f4 : Nat → List V) (n6 : Nat) (f6 : Nat → List V) (x8 : Int) (x9 : Int) (x10 : Int) {r : V} (h : evR noE (m15 n0 f0 n2 f2 n4 f4 n6 f6 x8 x9 x10) r) : sat (LPof w0 (SV ctB16e)) (runL (Nat × Nat) ctB16e u0 s15 [V.agg [V.sl n0 (elV tyR f0), V.sl n2 (elV tyT f2), V.sl n4 (elV tyF f4), V.sl n6 (elV tyC f6)], V.int IntKind.i64 x8, V.int IntKind.i64 x9, V.int IntKind.i64 x10]) (topQ r) := run_ev0 (by kernel_rfl) _ (f15m n0 f0 n2 f2 n4 f4 n6 f6 x8 x9 x10) (q15m n0 f0 n2 f2 n4 f4 n6 f6 x8 x9 x10) h
def F15_0 (n0 : Nat) (f0 : Nat → List V) (n2 : Nat) (f2 : Nat → List V) (n4 : Nat) (f4 : Nat → List V) (n6 : Nat) (f6 : Nat → List V) (x8 : Int) (x9 : Int) (x10 : Int) : Int := bif F44 n0 (elV tyR f0) n2 (elV tyT f2) n4 (elV tyF f4) n6 (elV tyC f6) 2 (elV [Ty.int IntKind.i64] (secF [V.int IntKind.i64 x8, V.int IntKind.i64 (↑n6 : Int)] 0 ((1 + 1 - 0) / 2))) != 0 then 0 else bif F45_0 2 (elV [Ty.int IntKind.i64] (secF [V.int IntKind.i64 x9, V.int IntKind.i64 x10] 0 ((1 + 1 - 0) / 2))) then 0 else F46 n2 (elV tyT f2) (elV tyC f6) x8 x9 x10
def F15_1 (n0 : Nat) (f0 : Nat → List V) (n2 : Nat) (f2 : Nat → List V) (n4 : Nat) (f4 : Nat → List V) (n6 : Nat) (f6 : Nat → List V) (x8 : Int) (x9 : Int) (x10 : Int) : Int := bif F44 n0 (elV tyR f0) n2 (elV tyT f2) n4 (elV tyF f4) n6 (elV tyC f6) 2 (elV [Ty.int IntKind.i64] (secF [V.int IntKind.i64 x8, V.int IntKind.i64 (↑n6 : Int)] 0 ((1 + 1 - 0) / 2))) != 0 then F44 n0 (elV tyR f0) n2 (elV tyT f2) n4 (elV tyF f4) n6 (elV tyC f6) 2 (elV [Ty.int IntKind.i64] (secF [V.int IntKind.i64 x8, V.int IntKind.i64 (↑n6 : Int)] 0 ((1 + 1 - 0) / 2))) else bif F45_0 2 (elV [Ty.int IntKind.i64] (secF [V.int IntKind.i64 x9, V.int IntKind.i64 x10] 0 ((1 + 1 - 0) / 2))) then 7 else 0
def R15 (n0 : Nat) (f0 : Nat → List V) (n2 : Nat) (f2 : Nat → List V) (n4 : Nat) (f4 : Nat → List V) (n6 : Nat) (f6 : Nat → List V) (x8 : Int) (x9 : Int) (x10 : Int) : V := .tup [.int IntKind.i64 (F15_0 n0 f0 n2 f2 n4 f4 n6 f6 x8 x9 x10), .int IntKind.i64 (F15_1 n0 f0 n2 f2 n4 f4 n6 f6 x8 x9 x10)]
theorem ev15 (n0 : Nat) (f0 : Nat → List V) (n2 : Nat) (f2 : Nat → List V) (n4 : Nat) (f4 : Nat → List V) (n6 : Nat) (f6 : Nat → List V) (x8 : Int) (x9 : Int) (x10 : Int) (hp : SzOk n0 f0 ∧ SzOk n6 f6) : evR noE (m15 n0 f0 n2 f2 n4 f4 n6 f6 x8 x9 x10) (R15 n0 f0 n2 f2 n4 f4 n6 f6 x8 x9 x10) := evAsm (fun a0 => evObp (by first | assumption | ((first | exact ⟨hp, rfl, by decide⟩ | (simp_all [cond_eq_ite] <;> first | omega | exact (k44_4 (by assumption) (by assumption) h0).1 | exact (k44_4 (by assumption) (by assumption) h0).2 | exact k44_2 (by assumption) h0 | exact k44_2 (by assumption) h1 | exact k50 h0 | exact k50 h1 | exact k50 hc.1 | exact k44_2 (by assumption) hc)))) (evObt (evBr (fun h0 => evRet (by unfold R15 F15_0 F15_1; try rw [h0]; rfl)) (fun h0 => evObc (evObt (evBr (fun h1 => evRet (by unfold R15 F15_0 F15_1; try rw [h0]; try rw [h1]; rfl)) (fun h1 => evObp (by first | assumption | ((first | exact ⟨hp, rfl, by decide⟩ | (simp_all [cond_eq_ite] <;> first | omega | exact (k44_4 (by assumption) (by assumption) h0).1 | exact (k44_4 (by assumption) (by assumption) h0).2 | exact k44_2 (by assumption) h0 | exact k44_2 (by assumption) h1 | exact k50 h0 | exact k50 h1 | exact k50 hc.1 | exact k44_2 (by assumption) hc)))) (evObt (evRet (by unfold R15 F15_0 F15_1; try rw [h0]; try rw [h1]; rfl))))))))))
def C15 : PCon := mkC [.agg [.sl tyR, .sl tyT, .sl tyF, .sl tyC], .int .i64, .int .i64, .int .i64] (fun
  | [.agg [.sl n0 f0, .sl n2 f2, .sl n4 f4, .sl n6 f6], .int _ x8, .int _ x9, .int _ x10] => SzOk n0 f0 ∧ SzOk n6 f6
  | _ => False) fun
  | [.agg [.sl n0 f0, .sl n2 f2, .sl n4 f4, .sl n6 f6], .int _ x8, .int _ x9, .int _ x10] => R15 n0 f0 n2 f2 n4 f4 n6 f6 x8 x9 x10
  | _ => .any
theorem ok15 : (vP C15).Ok Tryz.prog 15 := mkC_ev (J := Nat × Nat) (un := u0) tabB16e hE hI Tryz.func15 (by kernel_rfl) (by kernel_rfl) (by kernel_rfl) rfl (fun w0 ds hp => run15 w0 _ _ _ _ _ _ _ _ _ _ _ (ev15 _ _ _ _ _ _ _ _ _ _ _ hp))
end
end Go.Dx
namespace Go.Dx
open Go.Sx
section
variable {J : Type}
def normR : V → Leaf J → Leaf J
  | .bool b, .res (.kb _) => .res (.kb b)
  | r, _ => .res r
theorem normR_ok (r : V) (a : Leaf J) : topQ r (normR r a) := by
  unfold normR; split <;> rfl
def norm (r : V) : T (Leaf J) → T (Leaf J)
  | .ret a => .ret (normR r a)
  | .br b x y => match b with
    | true => .br true (norm r x) y
    | false => .br false x (norm r y)
  | .ob _ x => .ob true (norm r x)
  | .obi c d x => match c with
    | true => .obi true true (norm r x)
    | false => .obi false d (norm r x)
  | .obp _ x => .obp True (norm r x)
  | .obq a _ x => .obq a a (norm r x)
  | .fail _ => .ret (.res r)
  | .loop .. => .ret (.res r)
  | .all f => .all fun l => norm r (f l)
  | .und x y => .und (norm r x) (norm r y)
  | .asm p x => .asm p (norm r x)
theorem norm_sat {LP : LPred} (r : V) : ∀ t : T (Leaf J), sat LP (norm r t) (topQ r) := by
  intro t
  induction t with
  | ret a => exact normR_ok r a
  | br b x y hx hy =>
    cases b with
    | true => exact ⟨fun _ => hx, (fun e => by cases e)⟩
    | false => exact ⟨(fun e => by cases e), fun _ => hy⟩
  | ob b x hx => exact ⟨rfl, hx⟩
  | obi c d x hx =>
    cases c with
    | true => exact ⟨fun _ => rfl, hx⟩
    | false => exact ⟨(fun e => by cases e), hx⟩
  | obp p x hx => exact ⟨trivial, hx⟩
  | obq a b x hx => exact ⟨rfl, hx⟩
  | fail n => exact (rfl : toA r = toA r)
  | loop fr b e h g k hk => exact (rfl : toA r = toA r)
  | all f hf => exact fun l => hf l
  | und x y hx hy => exact ⟨hx, hy⟩
  | asm p x hx => exact fun _ => hx
theorem run_norm {ct : CTab} {un : Unr} {w0 : World} {sf : SFun} {ds : List V} {r : V} (h : norm r (runL J ct un sf ds) = runL J ct un sf ds) : sat (LPof w0 (SV ct)) (runL J ct un sf ds) (topQ r) := by
  rw [← h]; exact norm_sat r _
end
def mkCB (ts : List Ty) (pre : List V → Bool) (r : List V → V) : PCon := fun ds => cond (pre (unqs ts ds)) (some ((fxLs ts ds [], fxRs ts ds []), True, r (unqs ts ds))) none
theorem mkCB_ok {P : Program} {f : FuncId} {ts : List Ty} {pre : List V → Prop} {preB : List V → Bool} {r : List V → V} (h : ∀ ds, preB ds = true → pre ds) (hO : (vP (mkC ts pre r)).Ok P f) : (vP (mkCB ts preB r)).Ok P f := by
  refine ⟨fun B m lh w args vs K hrel hargs hsp => ?_, fun _ _ _ _ _ hk ⟨ds, d, p, r, h1, h2, h3, h4, h5⟩ => ⟨ds, d, p, r, h1, h2, h3, h4, hk _ _ h5⟩, fun _ _ _ _ ⟨_, _, _, _, _, _, _, _, h⟩ => h⟩
  refine hO.sound B m lh w args vs K hrel hargs ?_
  obtain ⟨ds, d, p, r', h1, h2, ⟨h30, h3⟩, h4, h5⟩ := hsp
  unfold mkCB at h2
  cases hb : preB (unqs ts ds) with
  | false => rw [hb] at h2; cases h2
  | true =>
    rw [hb] at h2
    simp only [cond_true, Option.some.injEq, Prod.mk.injEq] at h2
    obtain ⟨rfl, rfl, rfl⟩ := h2
    exact ⟨ds, _, _, _, h1, rfl, ⟨h30, h _ hb⟩, h4, h5⟩
def eqL (p : V → V → Bool) : List V → List V → Bool
  | [], [] => true
  | v :: vs, x :: xs => p v x && eqL p vs xs
  | _, _ => false
def eqD : Nat → V → V → Bool
  | 0, _, _ => false
  | fu + 1, v, x => match v, x with
    | .int k a, .int k' b => decide (k = k') && decide (a = b)
    | .bool a, .bool b => a == b
    | .kb a, .bool b => a == b
    | .str a, .str b => decide (a.data.toList = b.data.toList)
    | .agg xs, .agg ys => eqL (eqD fu) xs ys
    | .sl n f, .sl m g => Nat.beq n m && allB n fun i => eqL (eqD fu) (f i) (g i) && (g i).all V.fc
    | .sq n _ f, .sl m g => Nat.beq n m && allB n fun i => eqL (eqD fu) (f i) (g i) && (g i).all V.fc
    | _, _ => false
theorem eqL_ok {w0 : World} {lh : List LObj} {p : V → V → Bool} (hp : ∀ v x a, p v x = true → vr w0 lh Nu.nil v a → vr w0 lh Nu.nil x a) : ∀ (vs xs : List V) (qs : List AVal), eqL p vs xs = true → vrs w0 lh Nu.nil vs qs → vrs w0 lh Nu.nil xs qs
  | [], [], qs, _, h => h
  | v :: vs, x :: xs, qs, h, h1 => by
    simp only [eqL, Bool.and_eq_true] at h
    simp only [vrs] at h1 ⊢
    obtain ⟨y, ys, rfl, h2, h3⟩ := h1
    exact ⟨y, ys, rfl, hp _ _ _ h.1 h2, eqL_ok hp vs xs ys h.2 h3⟩
  | [], _ :: _, _, h, _ => by simp [eqL] at h
  | _ :: _, [], _, h, _ => by simp [eqL] at h
theorem eqD_ok {w0 : World} {lh : List LObj} : ∀ (fu : Nat) (v x : V) (a : AVal), eqD fu v x = true → vr w0 lh Nu.nil v a → vr w0 lh Nu.nil x a
  | 0, v, x, a, h, _ => by simp [eqD] at h
  | fu + 1, v, x, a, h, hv => by
    simp only [eqD] at h
    split at h
    · simp only [Bool.and_eq_true, decide_eq_true_eq] at h; obtain ⟨rfl, rfl⟩ := h; exact hv
    · have := eq_of_beq h; subst this; exact hv
    · have := eq_of_beq h; subst this; simp only [vr] at hv ⊢; exact hv
    · rename_i s t
      have h0 := of_decide_eq_true h
      have : s = t := by
        cases s with | mk d =>
        cases t with | mk e =>
        have : d = e := Array.toList_inj.1 h0
        rw [this]
      subst this; exact hv
    · simp only [vr] at hv ⊢
      obtain ⟨qs, rfl, h2⟩ := hv
      exact ⟨qs, rfl, eqL_ok (fun v x a => eqD_ok fu v x a) _ _ _ h h2⟩
    · simp only [Bool.and_eq_true] at h
      have hn := Nat.eq_of_beq_eq_true h.1
      subst hn
      simp only [vr] at hv ⊢
      obtain ⟨p, c, esz, h1, h2, h3, h4, h5⟩ := hv
      refine ⟨p, c, esz, h1, h2, h3, h4, fun i hi => ?_⟩
      obtain ⟨q, qs, g1, g2, g3, g4⟩ := h5 i hi
      have hh := allB_ok h.2 i hi
      simp only [Bool.and_eq_true] at hh
      exact ⟨q, qs, g1, g2, eqL_ok (fun v x a => eqD_ok fu v x a) _ _ _ hh.1 g3, hh.2⟩
    · simp only [Bool.and_eq_true] at h
      have hn := Nat.eq_of_beq_eq_true h.1
      subst hn
      simp only [vr] at hv ⊢
      obtain ⟨p, c, esz, h1, h2, h3, h4, h5⟩ := hv
      refine ⟨p, c, esz, h1, h2.1, h3, h4, fun i hi => ?_⟩
      obtain ⟨q, qs, g1, g2, g3, g4⟩ := h5 i hi
      have hh := allB_ok h.2 i hi
      simp only [Bool.and_eq_true] at hh
      exact ⟨q, qs, g1, g2, eqL_ok (fun v x a => eqD_ok fu v x a) _ _ _ hh.1 g3, hh.2⟩
    · cases h
def atC : List (List V × V) → PCon
  | [], _ => none
  | (ex, r) :: l, ds => cond (eqL (eqD 8) ds ex) (some (([], []), True, r)) (atC l ds)
theorem atC_ok {P : Program} {f : FuncId} {C : PCon} (hO : (vP C).Ok P f) : ∀ (l : List (List V × V)), (∀ e ∈ l, ∃ d p, C e.1 = some (d, p, e.2) ∧ d.1 = d.2 ∧ p) → (vP (atC l)).Ok P f := by
  intro l hl
  refine ⟨fun B m lh w args vs K hrel hargs hsp => ?_, fun _ _ _ _ _ hk ⟨ds, d, p, r, h1, h2, h3, h4, h5⟩ => ⟨ds, d, p, r, h1, h2, h3, h4, hk _ _ h5⟩, fun _ _ _ _ ⟨_, _, _, _, _, _, _, _, h⟩ => h⟩
  refine hO.sound B m lh w args vs K hrel hargs ?_
  obtain ⟨ds, d, p, r', h1, h2, _, h4, h5⟩ := hsp
  induction l with
  | nil => simp [atC] at h2
  | cons e l ih =>
    simp only [atC] at h2
    cases hb : eqL (eqD 8) ds e.1 with
    | true =>
      rw [hb] at h2
      simp only [cond_true, Option.some.injEq, Prod.mk.injEq] at h2
      obtain ⟨_, _, rfl⟩ := h2
      obtain ⟨d', p', e1, e2, e3⟩ := hl e (List.mem_cons_self ..)
      exact ⟨e.1, d', p', _, eqL_ok (fun v x a => eqD_ok 8 v x a) _ _ _ hb h1, e1, ⟨e2, e3⟩, h4, h5⟩
    | false =>
      rw [hb] at h2
      exact ih (fun e he => hl e (List.mem_cons_of_mem _ he)) h2
end Go.Dx
namespace Go.Dx
open Go.Sx
theorem at1 {ts : List Ty} {pre : List V → Prop} {r : List V → V} {raw : List V} {res : V} (hp : pre (unqs ts (views ts raw))) (hr : r (unqs ts (views ts raw)) = res) : ∃ d p, mkC ts pre r (views ts raw) = some (d, p, res) ∧ d.1 = d.2 ∧ p :=
  ⟨_, _, by rw [mkC, hr], fxs_views ts raw [], hp⟩
theorem all2 {α : Type} {a : α} {l : List α} {Q : α → Prop} (h : Q a) (hl : ∀ e ∈ l, Q e) : ∀ e ∈ a :: l, Q e := fun e he => by
  rcases List.mem_cons.1 he with rfl | he
  · exact h
  · exact hl e he
theorem all0 {α : Type} {Q : α → Prop} : ∀ e ∈ ([] : List α), Q e := fun e he => by cases he
end Go.Dx
namespace Go.Dx
open Go.Sx Go.Proofs
set_option maxRecDepth 100000
set_option linter.unusedVariables false
set_option linter.unusedSimpArgs false
noncomputable section
def uB : Unr := fun _ => 1000
def szB (n : Nat) (f : Nat → List V) : Bool := allB n fun i => Nat.ble (sv (hdV (f i))).size 9223372036854775807
theorem szB_ok {n : Nat} {f : Nat → List V} (h : szB n f = true) : SzOk n f := fun i hi => Nat.le_of_ble_eq_true (allB_ok h i hi)
def exN1 : ByteArray := ⟨#[104, 105, 103, 104]⟩
def exN2 : ByteArray := ⟨#[122, 101, 98, 114, 97]⟩
def exN3 : ByteArray := ⟨#[99, 49]⟩
def vi (n : Int) : V := .int .i64 n
def exR : Nat → List V
  | 0 => [.str exN1, vi 0, .sl 3 (fun | 0 => [vi 0, vi 0] | 1 => [vi 10000, vi 0] | _ => [vi 10000, vi 10000]), vi 4000]
  | _ => [.str exN2, vi 3, .sl 2 (fun | 0 => [vi 5000, vi (-2000)] | _ => [vi 5000, vi 2000]), vi 3000]
def exT : Nat → List V := fun _ => [vi 4000, vi 3000, vi 1000, vi 20, vi 40]
def exF : Nat → List V := fun _ => [vi 10000, vi 5000, vi 0, vi 5000, .sl 1 fun _ => [vi 250, vi 750, vi 10, vi 30]]
def exK : Nat → List V := fun _ => [.str exN3, vi 4000, vi 4000, vi 60, vi 0, vi (-1)]
/-- The scene of the examples. -/
def exS : V := .agg [.sl 2 exR, .sl 1 exT, .sl 1 exF, .sl 1 exK]
def ty44 : List Ty := [.agg [.sl tyR, .sl tyT, .sl tyF, .sl tyC], .sl [.int .i64]]
def AT44 : PCon := atC [(views ty44 [exS, .sl 2 (fun | 0 => [vi 0] | _ => [vi 1])], vi 0)]
theorem okA44 : (vP AT44).Ok Tryz.prog 44 := atC_ok ok44 _ (all2 (at1 (ts := ty44) (raw := [exS, .sl 2 (fun | 0 => [vi 0] | _ => [vi 1])]) (⟨⟨szB_ok (by kernel_rfl), szB_ok (by kernel_rfl)⟩, rfl, by decide⟩) (by kernel_rfl)) (all0))
def ty23 : List Ty := [.agg [.sl tyR, .sl tyT, .sl tyF, .sl tyC]]
def AT23 : PCon := atC [(views ty23 [.agg [.sl 0 exR, .sl 1 (fun _ => [vi 0, vi 0, vi 0, vi 0, vi 0]), .sl 0 exF, .sl 0 exK]], .tup [vi 2, vi 0, vi 7])]
theorem okA23 : (vP AT23).Ok Tryz.prog 23 := atC_ok ok23 _ (all2 (at1 (ts := ty23) (raw := [.agg [.sl 0 exR, .sl 1 (fun _ => [vi 0, vi 0, vi 0, vi 0, vi 0]), .sl 0 exF, .sl 0 exK]]) (⟨szB_ok (by kernel_rfl), szB_ok (by kernel_rfl)⟩) (by kernel_rfl)) (all0))
def ty22 : List Ty := [.agg [.sl tyR, .sl tyT, .sl tyF, .sl tyC], .int .i64, .agg [.int .i64, .int .i64, .int .i64, .int .i64]]
def AT22 : PCon := atC [(views ty22 [exS, vi 0, .agg [vi 8500, vi (-1500), vi 11500, vi 1500]], .tup [vi 1, vi 0])]
theorem okA22 : (vP AT22).Ok Tryz.prog 22 := atC_ok ok22 _ (all2 (at1 (ts := ty22) (raw := [exS, vi 0, .agg [vi 8500, vi (-1500), vi 11500, vi 1500]]) (⟨szB_ok (by kernel_rfl), szB_ok (by kernel_rfl)⟩) (by kernel_rfl)) (all0))
def ty15 : List Ty := [.agg [.sl tyR, .sl tyT, .sl tyF, .sl tyC], .int .i64, .int .i64, .int .i64]
def AT15 : PCon := atC [(views ty15 [exS, vi 0, vi 4000, vi 5000], .tup [vi (-1), vi 0])]
theorem okA15 : (vP AT15).Ok Tryz.prog 15 := atC_ok ok15 _ (all2 (at1 (ts := ty15) (raw := [exS, vi 0, vi 4000, vi 5000]) (⟨szB_ok (by kernel_rfl), szB_ok (by kernel_rfl)⟩) (by kernel_rfl)) (all0))
end
end Go.Dx
namespace Go.Dx
open Go.Sx Go.Proofs
set_option maxRecDepth 100000
set_option linter.unusedVariables false
set_option linter.unusedSimpArgs false
noncomputable section
def ctB18 : CTab := [(44, .con AT44), (23, .con AT23), (22, .con AT22), (15, .con AT15), (55, .con C55), (61, .con C61), (108, .con C108), (46, .con C46), (111, .con C111), (56, .con C56), (47, .con C47), (145, .con C145), (140, .con C140), (49, .con C49), (123, .con C123), (30, .con C30), (31, .con C31), (32, .con C32), (33, .con C33), (50, .con C50), (82, .con C82), (80, .con C80), (91, .con C91), (24, .con C24), (70, .con C70), (62, .con C62), (68, .con C68), (63, .con C63), (69, .con C69), (117, .inl s117 u0), (116, .inl s116 u0), (115, .con C115), (114, .con C114), (73, .con C73), (147, .con C147), (64, .con C64), (66, .con C66), (113, .con C113), (65, .con C65), (67, .con C67), (53, .con C53), (122, .con C122), (72, .con C72), (45, .con C45), (90, .con C90), (119, .con C119), (121, .con C121), (99, .con C99), (129, .con C129), (148, .con C148), (149, .con C149), (112, .con C112), (118, .con C118), (120, .con C120), (51, .con C51), (133, .con C133), (103, .con C103), (100, .con C100), (134, .con C134), (135, .con C135), (78, .con C78), (54, .con C54), (48, .con C48), (102, .con C102), (81, .con C81), (88, .con C88), (84, .con C84), (85, .con C85), (127, .con C127), (101, .con C101), (86, .con C86), (71, .con C71), (79, .con C79), (162, .con C162), (146, .con C146), (83, .inl s83 u0), (19, .inl s19 uB), (17, .inl s17 uB), (43, .inl s43 uB), (57, .inl s57 uB), (109, .inl s109 uB), (139, .inl s139 uB), (163, .inl s163 uB), (177, .inl s177 uB), (141, .inl s141 uB), (142, .inl s142 uB), (143, .inl s143 uB), (131, .inl s131 uB), (161, .inl s161 uB)]
theorem tabB18 : TabOk Tryz.prog eqs its ctB18 := .con okA44 (.con okA23 (.con okA22 (.con okA15 (.con ok55 (.con ok61 (.con ok108 (.con ok46 (.con ok111 (.con ok56 (.con ok47 (.con ok145 (.con ok140 (.con ok49 (.con ok123 (.con ok30 (.con ok31 (.con ok32 (.con ok33 (.con ok50 (.con ok82 (.con ok80 (.con ok91 (.con ok24 (.con ok70 (.con ok62 (.con ok68 (.con ok63 (.con ok69 (.inl Tryz.func117 (by kernel_rfl) (by kernel_rfl) (by kernel_rfl) (.inl Tryz.func116 (by kernel_rfl) (by kernel_rfl) (by kernel_rfl) (.con ok115 (.con ok114 (.con ok73 (.con ok147 (.con ok64 (.con ok66 (.con ok113 (.con ok65 (.con ok67 (.con ok53 (.con ok122 (.con ok72 (.con ok45 (.con ok90 (.con ok119 (.con ok121 (.con ok99 (.con ok129 (.con ok148 (.con ok149 (.con ok112 (.con ok118 (.con ok120 (.con ok51 (.con ok133 (.con ok103 (.con ok100 (.con ok134 (.con ok135 (.con ok78 (.con ok54 (.con ok48 (.con ok102 (.con ok81 (.con ok88 (.con ok84 (.con ok85 (.con ok127 (.con ok101 (.con ok86 (.con ok71 (.con ok79 (.con ok162 (.con ok146 (.inl Tryz.func83 (by kernel_rfl) (by kernel_rfl) (by kernel_rfl) (.inl Tryz.func19 (by kernel_rfl) (by kernel_rfl) (by kernel_rfl) (.inl Tryz.func17 (by kernel_rfl) (by kernel_rfl) (by kernel_rfl) (.inl Tryz.func43 (by kernel_rfl) (by kernel_rfl) (by kernel_rfl) (.inl Tryz.func57 (by kernel_rfl) (by kernel_rfl) (by kernel_rfl) (.inl Tryz.func109 (by kernel_rfl) (by kernel_rfl) (by kernel_rfl) (.inl Tryz.func139 (by kernel_rfl) (by kernel_rfl) (by kernel_rfl) (.inl Tryz.func163 (by kernel_rfl) (by kernel_rfl) (by kernel_rfl) (.inl Tryz.func177 (by kernel_rfl) (by kernel_rfl) (by kernel_rfl) (.inl Tryz.func141 (by kernel_rfl) (by kernel_rfl) (by kernel_rfl) (.inl Tryz.func142 (by kernel_rfl) (by kernel_rfl) (by kernel_rfl) (.inl Tryz.func143 (by kernel_rfl) (by kernel_rfl) (by kernel_rfl) (.inl Tryz.func131 (by kernel_rfl) (by kernel_rfl) (by kernel_rfl) (.inl Tryz.func161 (by kernel_rfl) (by kernel_rfl) (by kernel_rfl) (.nil)))))))))))))))))))))))))))))))))))))))))))))))))))))))))))))))))))))))))))))))))))))))))
theorem run19 (w0 : World) : sat (LPof w0 (SV ctB18)) (runL (Nat × Nat) ctB18 uB s19 []) (topQ (.bool true)) := run_norm (by kernel_rfl)
def C19 : PCon := mkC [] (fun _ => True) fun _ => .bool true
theorem ok19 : (vP C19).Ok Tryz.prog 19 := mkC_ev (J := Nat × Nat) (un := uB) tabB18 hE hI Tryz.func19 (by kernel_rfl) (by kernel_rfl) (by kernel_rfl) rfl (fun w0 ds hp => run19 w0)
end
end Go.Dx
namespace Go.Dx
open Go.Sx
noncomputable section
set_option linter.unusedSimpArgs false
theorem out_from (a l h : Int) : F71_0 a l h = !F86_0 a l h := by
  unfold F71_0 F86_0
  by_cases h1 : a < l
  · rw [decide_eq_true h1, decide_eq_false (show ¬ l ≤ a by omega)]; rfl
  · rw [decide_eq_false h1, decide_eq_true (show l ≤ a by omega)]
    by_cases h2 : h < a
    · rw [decide_eq_true h2, cond_false, cond_true]; exact decide_eq_false (by omega)
    · rw [decide_eq_false h2, cond_false, cond_true]; exact decide_eq_true (by omega)
theorem exB_congr {n : Nat} {p q : Nat → Bool} (h : ∀ i, i < n → p i = q i) : exB n p = exB n q := by
  cases hq : exB n q with
  | true =>
    obtain ⟨i, hi, hp⟩ := exB_iff.1 hq
    exact exB_true i hi (by rw [h i hi]; exact hp)
  | false =>
    refine exB_false fun i hi => ?_
    rw [h i hi]
    cases hp : q i with
    | false => rfl
    | true => rw [exB_true i hi hp] at hq; cases hq
theorem wild_placed (n : Nat) (f : Nat → List V) : F45_0 n f = !F51 n f := by
  unfold F45_0 F99_0 F133
  rw [idx_geq]
  unfold exB F51
  congr 1
  congr 1
  funext i
  rw [out_from]; rfl
/-! ### Names -/
theorem toL_len (s : ByteArray) : ∀ (k i : Nat) (r : List UInt8), s.size - i = k → (ByteArray.toList.loop s i r).length = r.length + k := by
  intro k
  induction k with
  | zero =>
    intro i r h
    rw [ByteArray.toList.loop]
    have : ¬ i < s.size := by omega
    simp [this]
  | succ k ih =>
    intro i r h
    rw [ByteArray.toList.loop]
    have : i < s.size := by omega
    simp only [this, if_true]
    rw [ih (i + 1) _ (by omega)]
    simp; omega
theorem toL_nil (s : ByteArray) : (s.toList == (⟨#[]⟩ : ByteArray).toList) = decide (s.size = 0) := by
  have e : (⟨#[]⟩ : ByteArray).toList = [] := by decide +kernel
  rw [e]
  have hl : s.toList.length = s.size := by
    unfold ByteArray.toList; rw [toL_len s s.size 0 [] (by omega)]; simp
  by_cases h : s.size = 0
  · rw [decide_eq_true h]
    have : s.toList = [] := List.eq_nil_of_length_eq_zero (by omega)
    rw [this]; rfl
  · rw [decide_eq_false h]
    cases hs : s.toList with
    | nil => rw [hs] at hl; simp at hl; omega
    | cons a l => rfl
theorem dropWhile_nil {α : Type} {p : α → Bool} : ∀ {l : List α}, l.dropWhile p = [] ↔ ∀ x ∈ l, p x = true
  | [] => by simp
  | a :: l => by
    rw [List.dropWhile_cons]
    cases h : p a with
    | true => simp only [if_true]; rw [dropWhile_nil]; simp [h]
    | false => simp [h]
theorem trim_nil (l cs : List UInt8) : Lib.trimS l cs = [] ↔ ∀ b ∈ l, cs.contains b = true := by
  unfold Lib.trimS Lib.trimLeftS Lib.trimRightS
  rw [dropWhile_nil]
  constructor
  · intro h
    have h1 : l.reverse.dropWhile (cs.contains ·) = [] := by
      cases hd : l.reverse.dropWhile (cs.contains ·) with
      | nil => rfl
      | cons a r =>
        have ha : cs.contains a = true := h a (by rw [hd]; simp)
        have hh := List.head_dropWhile_not (cs.contains ·) (l := l.reverse) (by rw [hd]; simp)
        simp only [hd, List.head_cons] at hh
        rw [ha] at hh; cases hh
    rw [dropWhile_nil] at h1
    exact fun b hb => h1 b (by simpa using hb)
  · intro h b hb
    have : b ∈ l.reverse := by
      have := List.mem_reverse.1 hb
      exact (List.dropWhile_sublist _).subset this
    exact h b (by simpa using this)
/-- The bytes of names. -/
def nmB (b : Nat) : Bool := (decide (97 ≤ b) && decide (b ≤ 122)) || ((decide (48 ≤ b) && decide (b ≤ 57)) || decide (b = 45))
theorem cut_bytes (b : UInt8) : ([97, 98, 99, 100, 101, 102, 103, 104, 105, 106, 107, 108, 109, 110, 111, 112, 113, 114, 115, 116, 117, 118, 119, 120, 121, 122, 48, 49, 50, 51, 52, 53, 54, 55, 56, 57, 45] : List UInt8).contains b = nmB b.toNat := by
  have key : ∀ n : Fin 256, ([97, 98, 99, 100, 101, 102, 103, 104, 105, 106, 107, 108, 109, 110, 111, 112, 113, 114, 115, 116, 117, 118, 119, 120, 121, 122, 48, 49, 50, 51, 52, 53, 54, 55, 56, 57, 45] : List UInt8).contains (UInt8.ofNat n.val) = nmB n.val := by decide +kernel
  have := key ⟨b.toNat, b.toNat_lt⟩
  simpa using this
theorem getD_el {l : List UInt8} {i : Nat} (h : i < l.length) : l.getD i 0 = l[i] := by simp [List.getD, h]
theorem badN_eq (s : ByteArray) (i : Nat) : (!badN s i) = (nmB (s.data.toList.getD i 0).toNat && (decide (0 < i) || (decide (97 ≤ (s.data.toList.getD i 0).toNat) && decide ((s.data.toList.getD i 0).toNat ≤ 122)))) := by
  unfold badN nmB
  generalize (s.data.toList.getD i 0).toNat = b
  rw [Bool.eq_iff_iff]
  simp only [Bool.cond_eq_ite, Bool.not_eq_true', Bool.and_eq_true, Bool.or_eq_true, decide_eq_true_eq]
  split <;> split <;> (try split) <;> simp_all <;> omega
theorem name_eq (s : ByteArray) : F114_0 s = F122 s := by
  unfold F114_0 F122
  rw [toL_nil]
  have hsz : s.size = s.data.toList.length := by rw [Array.length_toList]; rfl
  by_cases h0 : s.size = 0
  · rw [decide_eq_true h0, h0]; rfl
  rw [decide_eq_false h0]
  have e0 : decide (0 < (s.size : Int)) = true := decide_eq_true (by omega)
  rw [e0]
  by_cases h24 : (s.size : Int) ≤ 24
  case neg => rw [decide_eq_false h24]; simp
  rw [decide_eq_true h24]
  simp only [Bool.not_false, cond_true, Bool.and_true]
  rw [toL_nil]
  rw [Bool.eq_iff_iff]
  have ht : (F146 s (ByteArray.mk (Array.mk [97, 98, 99, 100, 101, 102, 103, 104, 105, 106, 107, 108, 109, 110, 111, 112, 113, 114, 115, 116, 117, 118, 119, 120, 121, 122, 48, 49, 50, 51, 52, 53, 54, 55, 56, 57, 45]))).size = 0 ↔ ∀ b ∈ s.data.toList, nmB b.toNat = true := by
    rw [show (F146 s (ByteArray.mk (Array.mk [97, 98, 99, 100, 101, 102, 103, 104, 105, 106, 107, 108, 109, 110, 111, 112, 113, 114, 115, 116, 117, 118, 119, 120, 121, 122, 48, 49, 50, 51, 52, 53, 54, 55, 56, 57, 45]))).size = (Lib.trimS s.data.toList [97, 98, 99, 100, 101, 102, 103, 104, 105, 106, 107, 108, 109, 110, 111, 112, 113, 114, 115, 116, 117, 118, 119, 120, 121, 122, 48, 49, 50, 51, 52, 53, 54, 55, 56, 57, 45]).length from by simp [F146, ByteArray.size]]
    rw [List.length_eq_zero_iff, trim_nil]
    constructor
    · intro h b hb; rw [← cut_bytes]; exact h b hb
    · intro h b hb; rw [cut_bytes]; exact h b hb
  have hb : allB s.size (fun i => !badN s i) = true ↔ (∀ b ∈ s.data.toList, nmB b.toNat = true) ∧ 97 ≤ (s.data.toList.getD 0 0).toNat ∧ (s.data.toList.getD 0 0).toNat ≤ 122 := by
    rw [allB_true]
    constructor
    · intro h
      refine ⟨fun b hb => ?_, ?_⟩
      · obtain ⟨i, hi, rfl⟩ := List.getElem_of_mem hb
        have := h i (by omega)
        rw [badN_eq, Bool.and_eq_true] at this
        rw [getD_el hi] at this
        exact this.1
      · have := h 0 (by omega)
        rw [badN_eq] at this
        simp only [Bool.and_eq_true, Bool.or_eq_true, decide_eq_true_eq] at this
        rcases this.2 with h1 | h1
        · omega
        · exact h1
    · rintro ⟨h1, h2, h3⟩ i hi
      rw [badN_eq]
      have hi' : i < s.data.toList.length := by omega
      rw [h1 _ (by rw [getD_el hi']; exact List.getElem_mem hi')]
      by_cases hz : i = 0
      · subst hz; rw [decide_eq_true h2, decide_eq_true h3]; rfl
      · simp; omega
  rw [hb, ← ht]
  cases hd : decide ((F146 s (ByteArray.mk (Array.mk [97, 98, 99, 100, 101, 102, 103, 104, 105, 106, 107, 108, 109, 110, 111, 112, 113, 114, 115, 116, 117, 118, 119, 120, 121, 122, 48, 49, 50, 51, 52, 53, 54, 55, 56, 57, 45]))).size = 0) with
  | false =>
    have := of_decide_eq_false hd
    simp [this]
  | true =>
    have := of_decide_eq_true hd
    simp only [cond_true, this, true_and]
    rw [show s.data.1.getD 0 0 = s.data.toList.getD 0 0 from rfl]
    generalize (s.data.toList.getD 0 0).toNat = b
    by_cases g : 97 ≤ b
    · rw [decide_eq_true (show (97 : Int) ≤ (b : Int) by omega)]
      simp only [cond_true, decide_eq_true_eq]; omega
    · rw [decide_eq_false (show ¬ (97 : Int) ≤ (b : Int) by omega)]
      simp; omega
end
end Go.Dx
namespace Go.Dx
open Go.Sx
noncomputable section
set_option linter.unusedSimpArgs false
theorem pt_wild (x y : Int) : F113_0 x y = !ptOk x y := by unfold F113_0 ptOk; exact wild_placed _ _
theorem dup_eq (n : Nat) (f : Nat → List V) (s : ByteArray) : F90_0 n f s = exB n fun k => (sv (hdV (f k))).toList == s.toList := by
  unfold F90_0 F129; rw [idx_geq]; rfl
theorem dupC_eq (n : Nat) (f : Nat → List V) (s : ByteArray) : F121_0 n f s = exB n fun k => (sv (hdV (f k))).toList == s.toList := by
  unfold F121_0 F149; rw [idx_geq]; rfl
theorem far_eq (n : Nat) (f : Nat → List V) : F115_0 n f = exB n fun i => !ptOk (iv (hdV (f i))) (iv (hdV (tlV (f i)))) := by
  unfold F115_0 F147; rw [idx_geq]; exact exB_congr fun i _ => pt_wild _ _
theorem road_eq (n0 : Nat) (f0 : Nat → List V) (i : Nat) : c62 n0 (elV tyR f0) i = cR n0 f0 i := by
  unfold c62 cR F63 F70 roadE
  rw [name_eq, dup_eq, far_eq]
  simp only [Int.toNat_natCast, Nat.sub_zero, Nat.zero_add, out_from, Bool.not_not]
  rfl
theorem tree_eq (n2 : Nat) (f2 : Nat → List V) (i : Nat) : c64 n2 (elV tyT f2) i = cT f2 i := by
  show F65_0 (iv (hdV (f2 i))) (iv (hdV (tlV (f2 i)))) (iv (hdV (tlV (tlV (f2 i))))) (iv (hdV (tlV (tlV (tlV (f2 i)))))) (iv (hdV (tlV (tlV (tlV (tlV (f2 i))))))) = _
  unfold cT F65_0 treeE
  rw [wild_placed]
  show (bif !!ptOk _ _ then _ else _) = _
  generalize ptOk _ _ = p
  generalize iv (hdV (tlV (tlV (f2 i)))) = a
  generalize iv (hdV (tlV (tlV (tlV (f2 i))))) = z
  generalize iv (hdV (tlV (tlV (tlV (tlV (f2 i)))))) = w
  cases p
  · rfl
  · simp only [Bool.not_true, Bool.not_false, cond_true]
    rw [out_from]
    cases ha : F86_0 a 1 20000
    · simp only [Bool.not_false, Bool.not_true, cond_true, cond_false]
      by_cases hw : 1 ≤ w ∧ w ≤ 1000
      · have e : F86_0 w 1 1000 = false := by unfold F86_0; rw [decide_eq_false (by omega), cond_false]; exact decide_eq_false (by omega)
        rw [e, wrapI (by omega) (by omega)]
        unfold F86_0
        by_cases hz : z < 0
        · rw [decide_eq_true hz]; rfl
        · rw [decide_eq_false hz]
          by_cases hz2 : w ≤ z
          · rw [decide_eq_true (show w - 1 < z by omega), decide_eq_true hz2]; rfl
          · rw [decide_eq_false (show ¬ w - 1 < z by omega), decide_eq_false hz2, decide_eq_false (show ¬ 1000 < w by omega)]; rfl
      · have e : F86_0 w 1 1000 = true := by
          unfold F86_0
          by_cases h1 : w < 1
          · rw [decide_eq_true h1]; rfl
          · rw [decide_eq_false h1, cond_false]; exact decide_eq_true (by omega)
        rw [e]
        have : (bif bif decide (z < 0) then true else decide (w ≤ z) then true else decide (1000 < w)) = true := by
          by_cases hz : z < 0
          · rw [decide_eq_true hz]; rfl
          · rw [decide_eq_false hz, cond_false]
            by_cases h2 : w ≤ z
            · rw [decide_eq_true h2]; rfl
            · rw [decide_eq_false h2, cond_false]; exact decide_eq_true (by omega)
        rw [this]
        cases !F86_0 z 0 (IntKind.i64.wrap (w - 1)) <;> rfl
    · rfl
theorem wnd_eq (x0 x1 x2 x3 : Int) : F118_0 x0 x1 x2 x3 = bif bif bif bif bif decide (x0 < 0) then true else decide (x1 ≤ x0) then true else decide (1000 < x1) then true else decide (x2 < 0) then true else decide (x3 ≤ x2) then true else decide (1000 < x3) := by
  have key : ∀ a b : Int, ((bif !F86_0 b 1 1000 then F86_0 a 0 (IntKind.i64.wrap (b - 1)) else true) = true) ↔ (a < 0 ∨ b ≤ a ∨ 1000 < b) := by
    intro a b
    unfold F86_0
    by_cases h1 : b < 1
    · rw [decide_eq_true h1]; simp; omega
    · rw [decide_eq_false h1]
      by_cases h2 : 1000 < b
      · rw [decide_eq_true h2]; simp; omega
      · rw [decide_eq_false h2, wrapI (by omega) (by omega)]
        simp only [cond_false, Bool.not_false, cond_true, Bool.cond_eq_ite]
        split <;> simp_all <;> omega
  have e1 := key x0 x1
  have e2 := key x2 x3
  have : F118_0 x0 x1 x2 x3 = (bif !(bif !F86_0 x1 1 1000 then F86_0 x0 0 (IntKind.i64.wrap (x1 - 1)) else true) then (bif !F86_0 x3 1 1000 then F86_0 x2 0 (IntKind.i64.wrap (x3 - 1)) else true) else true) := by
    unfold F118_0
    cases F86_0 x1 1 1000 <;> cases F86_0 x0 0 (IntKind.i64.wrap (x1 - 1)) <;> rfl
  rw [this]
  generalize (bif !F86_0 x1 1 1000 then F86_0 x0 0 (IntKind.i64.wrap (x1 - 1)) else true) = p at e1 ⊢
  generalize (bif !F86_0 x3 1 1000 then F86_0 x2 0 (IntKind.i64.wrap (x3 - 1)) else true) = q at e2 ⊢
  rw [Bool.eq_iff_iff]
  simp only [Bool.cond_eq_ite]
  cases p <;> cases q <;> simp_all <;> omega
theorem front_eq (n4 : Nat) (f4 : Nat → List V) (i : Nat) : c66 n4 (elV tyF f4) i = cF f4 i := by
  show F67_0 (iv (hdV (f4 i))) (iv (hdV (tlV (f4 i)))) (iv (hdV (tlV (tlV (f4 i))))) (iv (hdV (tlV (tlV (tlV (f4 i)))))) (lenV (hdV (tlV (tlV (tlV (tlV (f4 i))))))) (fun j => views [Ty.int IntKind.i64, Ty.int IntKind.i64, Ty.int IntKind.i64, Ty.int IntKind.i64] (atV (hdV (tlV (tlV (tlV (tlV (f4 i)))))) j)) = _
  unfold cF F67_0 F72
  rw [wild_placed]
  have : ∀ n (f : Nat → List V), F119_0 n f = exB n fun j => badW (f j) := by
    intro n f
    unfold F119_0 F148; rw [idx_geq]
    exact exB_congr fun j _ => by rw [wnd_eq]; rfl
  rw [this]
  rfl
theorem colx (p q r t : Bool) (B : Int) : (bif p then bif !q then bif !r then bif t then 7 else B else 7 else 7 else 7) = (bif bif bif bif !p then true else q then true else r then true else t then 7 else B) := by
  cases p <;> cases q <;> cases r <;> cases t <;> rfl
theorem col_eq (n6 : Nat) (f6 : Nat → List V) (i : Nat) : c68 n6 (elV tyC f6) i = cC n6 f6 i := by
  unfold c68 cC F69_0 F73
  rw [name_eq, dupC_eq, wild_placed]
  simp only [Int.toNat_natCast, Nat.sub_zero, Nat.zero_add]
  unfold colE
  simp only [out_from, Bool.not_not]
  rw [colx]
  rfl
theorem first_congr {n : Nat} {c d : Nat → Int} (h : ∀ i, c i = d i) : firstI n c = firstI n d ∧ firstE n c = firstE n d := by
  have : c = d := funext h
  rw [this]; exact ⟨rfl, rfl⟩
theorem check_eq (n0 : Nat) (f0 : Nat → List V) (n2 : Nat) (f2 : Nat → List V) (n4 : Nat) (f4 : Nat → List V) (n6 : Nat) (f6 : Nat → List V) :
    (F23_0 n0 f0 n2 f2 n4 f4 n6 f6, F23_1 n0 f0 n2 f2 n4 f4 n6 f6, F23_2 n0 f0 n2 f2 n4 f4 n6 f6) = F24 n0 f0 n2 f2 n4 f4 n6 f6 := by
  unfold F23_0 F23_1 F23_2 F24 long z1 z2 z3 r24 F62_0 F62_1 F64_0 F64_1 F66_0 F66_1 F68_0 F68_1
  rw [(first_congr (road_eq n0 f0)).1, (first_congr (road_eq n0 f0)).2, (first_congr (tree_eq n2 f2)).1, (first_congr (tree_eq n2 f2)).2, (first_congr (front_eq n4 f4)).1, (first_congr (front_eq n4 f4)).2, (first_congr (col_eq n6 f6)).1, (first_congr (col_eq n6 f6)).2]
  cases (bif bif bif decide (8 < (n0 : Int)) then true else decide (12 < (n2 : Int)) then true else decide (8 < (n4 : Int)) then true else decide (24 < (n6 : Int)))
  · simp only [cond_false]
    cases h1 : firstE n0 (cR n0 f0) != 0
    · simp only [cond_false]
      cases h2 : firstE n2 (cT f2) != 0
      · simp only [cond_false]
        cases h3 : firstE n4 (cF f4) != 0
        · simp only [cond_false]
          cases h4 : firstE n6 (cC n6 f6) != 0
          · rfl
          · rfl
        · rfl
      · rfl
    · rfl
  · rfl
end
end Go.Dx
namespace Go.Dx
open Go.Sx
noncomputable section
set_option linter.unusedSimpArgs false
theorem elV2 (ts : List Ty) (f : Nat → List V) : elV ts (elV ts f) = elV ts f := by
  funext i; exact views_idem ts _
theorem firstE_zero {n : Nat} {c : Nat → Int} (h : firstE n c = 0) : ∀ i, i < n → c i = 0 := by
  unfold firstE at h
  rcases idx_ex (n := n) (p := fun i => c i != 0) with ⟨_, h2⟩ | ⟨j, h1, h2, h3, _⟩
  · intro i hi
    have := h2 i hi
    simpa using this
  · rw [h2] at h
    have : ((j : Int) == -1) = false := by rw [beq_eq_false_iff_ne]; omega
    rw [this, cond_false, Int.toNat_natCast] at h
    rw [h] at h3; cases h3
section
variable {n0 : Nat} {f0 : Nat → List V} {n2 : Nat} {f2 : Nat → List V} {n4 : Nat} {f4 : Nat → List V} {n6 : Nat} {f6 : Nat → List V} {i j m l : Int}
/-- What is so in a scene in which nothing is wrong. -/
structure Valid (n0 : Nat) (f0 : Nat → List V) (n2 : Nat) (f2 : Nat → List V) (n4 : Nat) (f4 : Nat → List V) (n6 : Nat) (f6 : Nat → List V) : Prop where
  l0 : n0 ≤ 8
  l2 : n2 ≤ 12
  l4 : n4 ≤ 8
  l6 : n6 ≤ 24
  rd : ∀ i, i < n0 → cR n0 f0 i = 0
  tr : ∀ i, i < n2 → cT f2 i = 0
  fr : ∀ i, i < n4 → cF f4 i = 0
  cl : ∀ i, i < n6 → cC n6 f6 i = 0
theorem r24_zero {n : Nat} {c : Nat → Int} {k : Int} {z : Int × Int × Int} (h : (r24 n c k z).2.2 = 0) : (∀ i, i < n → c i = 0) ∧ z.2.2 = 0 := by
  unfold r24 at h
  cases hb : firstE n c != 0 with
  | true => rw [hb] at h; simp only [cond_true] at h; rw [h] at hb; cases hb
  | false =>
    rw [hb] at h
    exact ⟨firstE_zero (by simpa using hb), h⟩
theorem valid (h : F24_2 n0 f0 n2 f2 n4 f4 n6 f6 = 0) : Valid n0 f0 n2 f2 n4 f4 n6 f6 := by
  unfold F24_2 F24 at h
  cases hl : long n0 f0 n2 f2 n4 f4 n6 f6 with
  | true => rw [hl] at h; cases h
  | false =>
    rw [hl, cond_false] at h
    obtain ⟨h1, h⟩ := r24_zero h
    unfold z1 at h
    obtain ⟨h2, h⟩ := r24_zero h
    unfold z2 at h
    obtain ⟨h3, h⟩ := r24_zero h
    unfold z3 at h
    obtain ⟨h4, _⟩ := r24_zero h
    unfold long at hl
    simp only [Bool.cond_eq_ite, Bool.ite_eq_false_distrib] at hl
    have : n0 ≤ 8 ∧ n2 ≤ 12 ∧ n4 ≤ 8 ∧ n6 ≤ 24 := by
      refine ⟨?_, ?_, ?_, ?_⟩ <;> (apply Classical.byContradiction; intro hn) <;> simp_all <;> omega
    exact ⟨this.1, this.2.1, this.2.2.1, this.2.2.2, h1, h2, h3, h4⟩
/-- The error of a scene, and of an index. -/
def bad1 (i m : Int) : Bool := bif decide (i < 0) then true else decide (m ≤ i)
def ix1 (e i m : Int) : Int := bif e == 0 then (bif bad1 i m then 4 else 0) else e
def ix2 (e i m j l : Int) : Int := bif e == 0 then (bif bif bad1 i m then true else bad1 j l then 4 else 0) else e
theorem F23_24 : F23_2 n0 f0 n2 f2 n4 f4 n6 f6 = F24_2 n0 f0 n2 f2 n4 f4 n6 f6 := congrArg (fun t => t.2.2) (check_eq n0 f0 n2 f2 n4 f4 n6 f6)
theorem out_bad {i : Int} {m : Nat} (hm : m ≤ 9223372036854775807) : F86_0 i 0 (IntKind.i64.wrap ((m : Int) - 1)) = bad1 i m := by
  unfold F86_0 bad1
  rw [wrapI (by omega) (by omega)]
  by_cases h : i < 0
  · rw [decide_eq_true h]; rfl
  · rw [decide_eq_false h, cond_false, cond_false]
    by_cases g : (m : Int) ≤ i
    · rw [decide_eq_true g]; exact decide_eq_true (by omega)
    · rw [decide_eq_false g]; exact decide_eq_false (by omega)
theorem chk2 {i : Int} {m : Nat} (hm : F24_2 n0 (elV tyR f0) n2 (elV tyT f2) n4 (elV tyF f4) n6 (elV tyC f6) = 0 → m ≤ 9223372036854775807) :
    F44 n0 (elV tyR f0) n2 (elV tyT f2) n4 (elV tyF f4) n6 (elV tyC f6) 2 (elV [Ty.int IntKind.i64] (secF [V.int IntKind.i64 i, V.int IntKind.i64 m] 0 1)) = ix1 (F24_2 n0 (elV tyR f0) n2 (elV tyT f2) n4 (elV tyF f4) n6 (elV tyC f6)) i m := by
  unfold F44 outs ix1
  simp only [elV2, F23_24]
  cases he : F24_2 n0 (elV tyR f0) n2 (elV tyT f2) n4 (elV tyF f4) n6 (elV tyC f6) == 0 with
  | false => rfl
  | true =>
    rw [cond_true, cond_true]
    have := hm (eq_of_beq he)
    rw [← out_bad this]
    show (bif !(true && !F86_0 i 0 (IntKind.i64.wrap ((m : Int) - 1))) then _ else _) = _
    rw [Bool.true_and, Bool.not_not]
theorem chk4 {i j : Int} {m l : Nat} (hm : F24_2 n0 (elV tyR f0) n2 (elV tyT f2) n4 (elV tyF f4) n6 (elV tyC f6) = 0 → m ≤ 9223372036854775807 ∧ l ≤ 9223372036854775807) :
    F44 n0 (elV tyR f0) n2 (elV tyT f2) n4 (elV tyF f4) n6 (elV tyC f6) 4 (elV [Ty.int IntKind.i64] (secF [V.int IntKind.i64 i, V.int IntKind.i64 m, V.int IntKind.i64 j, V.int IntKind.i64 l] 0 1)) = ix2 (F24_2 n0 (elV tyR f0) n2 (elV tyT f2) n4 (elV tyF f4) n6 (elV tyC f6)) i m j l := by
  unfold F44 outs ix2
  simp only [elV2, F23_24]
  cases he : F24_2 n0 (elV tyR f0) n2 (elV tyT f2) n4 (elV tyF f4) n6 (elV tyC f6) == 0 with
  | false => rfl
  | true =>
    rw [cond_true, cond_true]
    have := hm (eq_of_beq he)
    rw [← out_bad this.1, ← out_bad this.2]
    show (bif !((true && !F86_0 i 0 (IntKind.i64.wrap ((m : Int) - 1))) && !F86_0 j 0 (IntKind.i64.wrap ((l : Int) - 1))) then _ else _) = _
    cases F86_0 i 0 (IntKind.i64.wrap ((m : Int) - 1)) <;> cases F86_0 j 0 (IntKind.i64.wrap ((l : Int) - 1)) <;> rfl
theorem chk50 {i m : Int} : F50_0 n0 (elV tyR f0) n2 (elV tyT f2) n4 (elV tyF f4) n6 (elV tyC f6) i m = ix1 (F24_2 n0 (elV tyR f0) n2 (elV tyT f2) n4 (elV tyF f4) n6 (elV tyC f6)) i m := by
  unfold F50_0 F91_0 ix1 bad1
  simp only [elV2]
  generalize F24_2 n0 (elV tyR f0) n2 (elV tyT f2) n4 (elV tyF f4) n6 (elV tyC f6) = e
  by_cases he : e = 0
  · subst he
    cases (bif decide (i < 0) then true else decide (m ≤ i)) <;> rfl
  · rw [show (e == 0) = false from by simpa using he]; rfl
theorem faces_eq (x8 x9 : Int) : F30_0 n0 f0 n2 f2 n4 f4 n6 f6 x8 x9 = F31_0 n0 f0 n2 f2 n4 f4 n6 f6 x8 x9 ∧ F30_1 n0 f0 n2 f2 n4 f4 n6 f6 x8 x9 = F31_1 n0 f0 n2 f2 n4 f4 n6 f6 x8 x9 := by
  have hc := chk4 (n0 := n0) (f0 := f0) (n2 := n2) (f2 := f2) (n4 := n4) (f4 := f4) (n6 := n6) (f6 := f6) (i := x9) (j := x8) (m := n4) (l := n6) (fun h => ⟨by have := (valid h).l4; omega, by have := (valid h).l6; omega⟩)
  have hd := chk50 (n0 := n0) (f0 := f0) (n2 := n2) (f2 := f2) (n4 := n4) (f4 := f4) (n6 := n6) (f6 := f6) (i := x9) (m := n4)
  unfold F30_0 F31_0 F30_1 F31_1
  simp only [show (1 + 1 + 1 + 1 - 0) / 4 = 1 from rfl]
  rw [show (F78_0 (iv (hdV (f4 x9.toNat))) (iv (hdV (tlV (f4 x9.toNat)))) (iv (hdV (tlV (tlV (f4 x9.toNat))))) (iv (hdV (tlV (tlV (tlV (f4 x9.toNat)))))) (iv (hdV (tlV (f6 x8.toNat)))) (iv (hdV (tlV (tlV (f6 x8.toNat)))))) = F79_0 (IntKind.i64.wrap (iv (hdV (tlV (tlV (f4 x9.toNat)))) - iv (hdV (f4 x9.toNat)))) (IntKind.i64.wrap (iv (hdV (tlV (tlV (tlV (f4 x9.toNat))))) - iv (hdV (tlV (f4 x9.toNat))))) (IntKind.i64.wrap (iv (hdV (tlV (f6 x8.toNat))) - iv (hdV (f4 x9.toNat)))) (IntKind.i64.wrap (iv (hdV (tlV (tlV (f6 x8.toNat)))) - iv (hdV (tlV (f4 x9.toNat))))) from rfl]
  rw [show F44 n0 (elV tyR f0) n2 (elV tyT f2) n4 (elV tyF f4) n6 (elV tyC f6) 4 (elV [Ty.int IntKind.i64] (secF [V.int IntKind.i64 x9, V.int IntKind.i64 n4, V.int IntKind.i64 x8, V.int IntKind.i64 n6] 0 1)) = _ from hc]
  rw [show F50_0 n0 (elV tyR f0) n2 (elV tyT f2) n4 (elV tyF f4) n6 (elV tyC f6) x9 (n4 : Int) = _ from hd]
  show (bif _ then false else decide (0 < _)) = (bif bif _ then bad1 x8 n6 else false then false else _) ∧ _ = (bif bif _ then bad1 x8 n6 else false then _ else _)
  unfold ix1 ix2
  generalize decide (0 < F79_0 _ _ _ _) = v
  generalize F24_2 _ _ _ _ _ _ _ _ = e
  generalize bad1 x8 _ = b
  generalize bad1 x9 _ = a
  by_cases he : e = 0
  · subst he; cases a <;> cases b <;> cases v <;> exact ⟨rfl, rfl⟩
  · rw [show (e == 0) = false from by simpa using he]
    have : (e != 0) = true := by simpa using he
    have h2 : (e == 0) = false := by simpa using he
    simp only [cond_false, this, h2, cond_true, and_self]
end
end
end Go.Dx
namespace Go.Dx
open Go.Sx
noncomputable section
set_option linter.unusedSimpArgs false
theorem ediv_q {n d q r : Int} (hd : 0 < d) (h : n = d * q + r) (h1 : 0 ≤ r) (h2 : r < d) : n / d = q := by
  rw [h, Int.add_comm, Int.add_mul_ediv_left _ _ (by omega), Int.ediv_eq_zero_of_lt h1 h2]; omega
theorem ediv_bd {n d B : Int} (hd : 0 < d) (h1 : -B ≤ n) (h2 : n ≤ B) : -B ≤ n / d ∧ n / d ≤ B := by
  constructor
  · have : -B ≤ n / d ↔ -B * d ≤ n := Int.le_ediv_iff_mul_le hd
    rw [this]
    by_cases hB : 0 ≤ B
    · have : B * 1 ≤ B * d := Int.mul_le_mul_of_nonneg_left (by omega) hB
      have e : -B * d = -(B * d) := Int.neg_mul _ _
      omega
    · omega
  · have hB : 0 ≤ B := by omega
    have : n / d < B + 1 ↔ n < (B + 1) * d := Int.ediv_lt_iff_lt_mul hd
    have h3 : (B + 1) * 1 ≤ (B + 1) * d := Int.mul_le_mul_of_nonneg_left (by omega) (by omega)
    have := this.2 (by omega)
    omega
/-- The program's quotient. -/
theorem down_p {n d : Int} (hd : 0 < d) (hd2 : d ≤ 1000000000) (h1 : -1000000000000 ≤ n) (h2 : n ≤ 1000000000000) : F81_0 n d = n / d := by
  have hb := ediv_bd hd h1 h2
  unfold F81_0
  by_cases hn : n < 0
  · rw [decide_eq_true hn, cond_true, wrapI (x := d - 1) (by omega) (by omega), wrapI (x := d - 1 - n) (by omega) (by omega), Int.tdiv_eq_ediv_of_nonneg (by omega)]
    have e := Int.mul_ediv_add_emod n d
    have r1 := Int.emod_nonneg n (by omega : d ≠ 0)
    have r2 := Int.emod_lt_of_pos n hd
    have : (d - 1 - n) / d = -(n / d) := ediv_q (r := d - 1 - n % d) hd (by have : d * -(n / d) = -(d * (n / d)) := Int.mul_neg _ _; omega) (by omega) (by omega)
    rw [this, wrapI (x := -(n / d)) (by omega) (by omega), wrapI (by omega) (by omega)]; omega
  · rw [decide_eq_false hn, cond_false, Int.tdiv_eq_ediv_of_nonneg (by omega), wrapI (by omega) (by omega)]
/-- The document's quotient. -/
theorem down_r {n d : Int} (hd : 0 < d) (hd2 : d ≤ 1000000000) (h1 : -1000000000000 ≤ n) (h2 : n ≤ 1000000000000) : F88_0 n d = n / d := by
  have hb := ediv_bd hd h1 h2
  unfold F88_0
  by_cases hn : n < 0
  · rw [decide_eq_true hn, cond_true]
    have e := Int.mul_ediv_add_emod n d
    have r1 := Int.emod_nonneg n (by omega : d ≠ 0)
    have r2 := Int.emod_lt_of_pos n hd
    have ht : n.tdiv d = -((-n) / d) := by
      have : n = -(-n) := by omega
      rw [this, Int.neg_tdiv, Int.tdiv_eq_ediv_of_nonneg (by omega)]; simp
    have hm : n.tmod d = n - d * n.tdiv d := Int.tmod_def n d
    by_cases hr : n % d = 0
    · have hq : (-n) / d = -(n / d) := ediv_q (r := 0) hd (by have : d * -(n / d) = -(d * (n / d)) := Int.mul_neg _ _; omega) (by omega) (by omega)
      have ht' : n.tdiv d = n / d := by rw [ht, hq]; omega
      have hm0 : n.tmod d = 0 := by rw [hm, ht']; omega
      rw [hm0, ht']
      exact wrapI (by omega) (by omega)
    · have h0 : d * (-(n / d) - 1) = -(d * (n / d)) - d := by rw [Int.mul_sub, Int.mul_neg]; omega
      have hq : (-n) / d = -(n / d) - 1 := ediv_q (r := d - n % d) hd (by omega) (by omega) (by omega)
      have ht' : n.tdiv d = n / d + 1 := by rw [ht, hq]; omega
      have hm0 : (n.tmod d != 0) = true := by
        rw [bne_iff_ne, hm, ht', Int.mul_add]; omega
      rw [hm0, ht', cond_true]
      have hb1 : n / d < 0 := by
        have := ediv_bd (n := n) hd h1 h2
        rw [Int.ediv_lt_iff_lt_mul hd]; omega
      rw [wrapI (x := n / d + 1) (by omega) (by omega), wrapI (by omega) (by omega)]; omega
  · rw [decide_eq_false hn, cond_false, cond_false, Int.tdiv_eq_ediv_of_nonneg (by omega), wrapI (by omega) (by omega)]
theorem mulB {x p A B : Int} (h1 : -A ≤ x) (h2 : x ≤ A) (h3 : 0 ≤ p) (h4 : p ≤ B) : -(A * B) ≤ x * p ∧ x * p ≤ A * B := by
  have hA : 0 ≤ A := by omega
  have a1 : x * p ≤ A * p := Int.mul_le_mul_of_nonneg_right h2 h3
  have a2 : A * p ≤ A * B := Int.mul_le_mul_of_nonneg_left h4 hA
  have a3 : -A * p ≤ x * p := Int.mul_le_mul_of_nonneg_right h1 h3
  rw [Int.neg_mul] at a3
  exact ⟨by omega, by omega⟩
theorem span_eq {a b p q : Int} (ha : -100000 ≤ a ∧ a ≤ 100000) (hb : -100000 ≤ b ∧ b ≤ 100000) (hp : 0 ≤ p ∧ p ≤ 1000) (hq : 0 ≤ q ∧ q ≤ 1000) : F80_0 a b p q = F82_0 a b p q ∧ F80_1 a b p q = F82_1 a b p q := by
  have m1 := mulB (x := b - a) (A := 200000) (by omega) (by omega) hp.1 hp.2
  have m2 := mulB (x := b - a) (A := 200000) (by omega) (by omega) hq.1 hq.2
  unfold F80_0 F82_0 F80_1 F82_1
  rw [wrapI (x := 1000 * a) (by omega) (by omega), wrapI (x := b - a) (by omega) (by omega), wrapI (x := (b - a) * p) (by omega) (by omega), wrapI (x := (b - a) * q) (by omega) (by omega),
    wrapI (x := 1000 * a + (b - a) * p) (by omega) (by omega), wrapI (x := 1000 * a + (b - a) * q) (by omega) (by omega)]
  generalize (b - a) * p = x at *
  generalize (b - a) * q = y at *
  rw [wrapI (x := 0 - max (1000 * a + x) (1000 * a + y)) (by omega) (by omega)]
  rw [down_p (by omega) (by omega) (by omega) (by omega), down_r (by omega) (by omega) (by omega) (by omega), down_p (by omega) (by omega) (by omega) (by omega), down_r (by omega) (by omega) (by omega) (by omega)]
  exact ⟨rfl, rfl⟩
theorem from_in {a l h : Int} (hf : F71_0 a l h = true) : l ≤ a ∧ a ≤ h := by
  unfold F71_0 at hf
  by_cases h1 : l ≤ a
  · rw [decide_eq_true h1, cond_true] at hf; exact ⟨h1, of_decide_eq_true hf⟩
  · rw [decide_eq_false h1] at hf; cases hf
theorem badW_in {l : List V} (h : badW l = false) : 0 ≤ iv (hdV l) ∧ iv (hdV l) < iv (hdV (tlV l)) ∧ iv (hdV (tlV l)) ≤ 1000 := by
  unfold badW at h
  simp only [Bool.cond_eq_ite] at h
  refine ⟨?_, ?_, ?_⟩ <;> (apply Classical.byContradiction; intro hn) <;> simp_all <;> omega
/-- What is so of a front of a scene in which nothing is wrong. -/
theorem front_in {f4 : Nat → List V} {i : Nat} (h : cF f4 i = 0) :
    (∀ x, x ∈ [iv (hdV (f4 i)), iv (hdV (tlV (f4 i))), iv (hdV (tlV (tlV (f4 i)))), iv (hdV (tlV (tlV (tlV (f4 i)))))] → -100000 ≤ x ∧ x ≤ 100000) ∧ lenV (hdV (tlV (tlV (tlV (tlV (f4 i)))))) ≤ 6 ∧ ∀ j, j < lenV (hdV (tlV (tlV (tlV (tlV (f4 i)))))) → badW (views [Ty.int IntKind.i64, Ty.int IntKind.i64, Ty.int IntKind.i64, Ty.int IntKind.i64] (atV (hdV (tlV (tlV (tlV (tlV (f4 i)))))) j)) = false := by
  unfold cF F72 at h
  generalize iv (hdV (f4 i)) = a at h ⊢
  generalize iv (hdV (tlV (f4 i))) = b at h ⊢
  generalize iv (hdV (tlV (tlV (f4 i)))) = c at h ⊢
  generalize iv (hdV (tlV (tlV (tlV (f4 i))))) = d at h ⊢
  generalize lenV (hdV (tlV (tlV (tlV (tlV (f4 i)))))) = n at h ⊢
  generalize hdV (tlV (tlV (tlV (tlV (f4 i))))) = w at h ⊢
  cases hp : F51 4 (elV [.int .i64] (secF [V.int .i64 a, V.int .i64 b, V.int .i64 c, V.int .i64 d] 0 ((1 + 1 + 1 + 1 - 0) / 4))) with
  | false => rw [hp] at h; cases h
  | true =>
    rw [hp, Bool.not_true, cond_false] at h
    cases he : (a == c && (b == d && true)) with
    | true => rw [he] at h; cases h
    | false =>
      rw [he, cond_false] at h
      by_cases hn : 6 < (n : Int)
      · rw [decide_eq_true hn] at h; cases h
      · rw [decide_eq_false hn, cond_false] at h
        cases hw : exB n (fun j => badW (views [Ty.int IntKind.i64, Ty.int IntKind.i64, Ty.int IntKind.i64, Ty.int IntKind.i64] (atV w j))) with
        | true => rw [hw] at h; cases h
        | false =>
          unfold F51 at hp
          have h0 := from_in (allB_ok hp 0 (by omega))
          have h1 := from_in (allB_ok hp 1 (by omega))
          have h2 := from_in (allB_ok hp 2 (by omega))
          have h3 := from_in (allB_ok hp 3 (by omega))
          refine ⟨fun x hx => ?_, by omega, fun j hj => ?_⟩
          · simp only [List.mem_cons, List.not_mem_nil, or_false] at hx
            rcases hx with rfl | rfl | rfl | rfl
            · exact h0
            · exact h1
            · exact h2
            · exact h3
          · cases hb : badW (views [Ty.int IntKind.i64, Ty.int IntKind.i64, Ty.int IntKind.i64, Ty.int IntKind.i64] (atV w j)) with
            | false => rfl
            | true => rw [exB_true j hj hb] at hw; cases hw
end
end Go.Dx
namespace Go.Dx
open Go.Sx
noncomputable section
set_option linter.unusedSimpArgs false
theorem wsel {e1 e2 : Int} {bd : Bool} (h : e1 = 0 → e2 = (bif bd then 4 else 0)) {z v v' : Int} (hv : e1 = 0 → bd = false → v = v') :
    (bif e1 == 0 then bif e2 != 0 then z else v else bif e1 != 0 then z else v) = (bif bif e1 == 0 then bd else false then z else bif e1 != 0 then z else v') := by
  by_cases he : e1 = 0
  · rw [h he]; subst he
    cases bd with
    | true => rfl
    | false => exact hv rfl rfl
  · have h1 : (e1 == 0) = false := by simpa using he
    have h2 : (e1 != 0) = true := by simpa using he
    rw [h1, h2]; rfl
theorem wsel6 {e1 e2 : Int} {bd : Bool} (h : e1 = 0 → e2 = (bif bd then 4 else 0)) :
    (bif e1 == 0 then bif e2 != 0 then e2 else 0 else bif e1 != 0 then e1 else 0) = (bif bif e1 == 0 then bd else false then 4 else bif e1 != 0 then e1 else 0) := by
  by_cases he : e1 = 0
  · rw [h he]; subst he
    cases bd <;> rfl
  · have h1 : (e1 == 0) = false := by simpa using he
    have h2 : (e1 != 0) = true := by simpa using he
    rw [h1, h2]; rfl
theorem ix1_zero {e i m : Int} (h : ix1 e i m = 0) : e = 0 ∧ 0 ≤ i ∧ i < m := by
  unfold ix1 at h
  cases he : e == 0 with
  | false => rw [he, cond_false] at h; rw [h] at he; cases he
  | true =>
    rw [he, cond_true] at h
    refine ⟨eq_of_beq he, ?_⟩
    unfold bad1 at h
    by_cases h1 : i < 0
    · rw [decide_eq_true h1] at h; cases h
    · rw [decide_eq_false h1, cond_false] at h
      by_cases h2 : m ≤ i
      · rw [decide_eq_true h2] at h; cases h
      · omega
theorem bad1_false {i m : Int} (h : bad1 i m = false) : 0 ≤ i ∧ i < m := by
  unfold bad1 at h
  by_cases h1 : i < 0
  · rw [decide_eq_true h1] at h; cases h
  · rw [decide_eq_false h1, cond_false] at h
    have := of_decide_eq_false h
    omega
section
variable {n0 : Nat} {f0 : Nat → List V} {n2 : Nat} {f2 : Nat → List V} {n4 : Nat} {f4 : Nat → List V} {n6 : Nat} {f6 : Nat → List V}
theorem window_eq (x8 x9 : Int) : F32_0 n0 f0 n2 f2 n4 f4 n6 f6 x8 x9 = F33_0 n0 f0 n2 f2 n4 f4 n6 f6 x8 x9 ∧ F32_1 n0 f0 n2 f2 n4 f4 n6 f6 x8 x9 = F33_1 n0 f0 n2 f2 n4 f4 n6 f6 x8 x9 ∧ F32_2 n0 f0 n2 f2 n4 f4 n6 f6 x8 x9 = F33_2 n0 f0 n2 f2 n4 f4 n6 f6 x8 x9 ∧ F32_3 n0 f0 n2 f2 n4 f4 n6 f6 x8 x9 = F33_3 n0 f0 n2 f2 n4 f4 n6 f6 x8 x9
    ∧ F32_4 n0 f0 n2 f2 n4 f4 n6 f6 x8 x9 = F33_4 n0 f0 n2 f2 n4 f4 n6 f6 x8 x9 ∧ F32_5 n0 f0 n2 f2 n4 f4 n6 f6 x8 x9 = F33_5 n0 f0 n2 f2 n4 f4 n6 f6 x8 x9 ∧ F32_6 n0 f0 n2 f2 n4 f4 n6 f6 x8 x9 = F33_6 n0 f0 n2 f2 n4 f4 n6 f6 x8 x9 := by
  have hc := chk2 (n0 := n0) (f0 := f0) (n2 := n2) (f2 := f2) (n4 := n4) (f4 := f4) (n6 := n6) (f6 := f6) (i := x8) (m := n4) (fun h => by have := (valid h).l4; omega)
  have hd := chk50 (n0 := n0) (f0 := f0) (n2 := n2) (f2 := f2) (n4 := n4) (f4 := f4) (n6 := n6) (f6 := f6) (i := x8) (m := n4)
  have hin : ix1 (F24_2 n0 (elV tyR f0) n2 (elV tyT f2) n4 (elV tyF f4) n6 (elV tyC f6)) x8 n4 = 0 → F24_2 n0 (elV tyR f0) n2 (elV tyT f2) n4 (elV tyF f4) n6 (elV tyC f6) = 0 ∧ cF f4 x8.toNat = 0 := fun h => by
    obtain ⟨h1, h2, h3⟩ := ix1_zero h
    exact ⟨h1, (valid h1).fr x8.toNat (by omega)⟩
  have he : ix1 (F24_2 n0 (elV tyR f0) n2 (elV tyT f2) n4 (elV tyF f4) n6 (elV tyC f6)) x8 n4 = 0 → F44 n0 (elV tyR f0) n2 (elV tyT f2) n4 (elV tyF f4) n6 (elV tyC f6) 2 (elV [Ty.int IntKind.i64] (secF [V.int IntKind.i64 x9, V.int IntKind.i64 (lenV (hdV (tlV (tlV (tlV (tlV (f4 x8.toNat)))))))] 0 1)) = (bif bad1 x9 (lenV (hdV (tlV (tlV (tlV (tlV (f4 x8.toNat))))))) then 4 else 0) := fun h => by
    obtain ⟨h1, h2⟩ := hin h
    have := (front_in h2).2.1
    rw [chk2 (fun _ => by omega), h1]; rfl
  have hv : ix1 (F24_2 n0 (elV tyR f0) n2 (elV tyT f2) n4 (elV tyF f4) n6 (elV tyC f6)) x8 n4 = 0 → bad1 x9 (lenV (hdV (tlV (tlV (tlV (tlV (f4 x8.toNat))))))) = false →
      (∀ x, x ∈ [iv (hdV (f4 x8.toNat)), iv (hdV (tlV (f4 x8.toNat))), iv (hdV (tlV (tlV (f4 x8.toNat)))), iv (hdV (tlV (tlV (tlV (f4 x8.toNat)))))] → -100000 ≤ x ∧ x ≤ 100000) ∧ badW (atV (hdV (tlV (tlV (tlV (tlV (f4 x8.toNat)))))) x9.toNat) = false := fun h hb => by
    obtain ⟨h1, h2⟩ := hin h
    obtain ⟨g1, g2, g3⟩ := front_in h2
    obtain ⟨k1, k2⟩ := bad1_false hb
    exact ⟨g1, g3 x9.toNat (by omega)⟩
  unfold F32_0 F32_1 F32_2 F32_3 F32_4 F32_5 F32_6 F33_0 F33_1 F33_2 F33_3 F33_4 F33_5 F33_6
  simp only [show (1 + 1 - 0) / 2 = 1 from rfl]
  rw [hc, hd]
  refine ⟨wsel he fun a b => ?_, wsel he fun a b => ?_, wsel he fun a b => ?_, wsel he fun a b => ?_, wsel he fun _ _ => rfl, wsel he fun _ _ => rfl, wsel6 he⟩ <;>
  · obtain ⟨g1, g2⟩ := hv a b
    have w := badW_in g2
    have s1 := span_eq (g1 (iv (hdV (f4 x8.toNat))) (by simp)) (g1 (iv (hdV (tlV (tlV (f4 x8.toNat))))) (by simp)) (p := iv (hdV (atV (hdV (tlV (tlV (tlV (tlV (f4 x8.toNat)))))) x9.toNat))) (q := iv (hdV (tlV (atV (hdV (tlV (tlV (tlV (tlV (f4 x8.toNat)))))) x9.toNat)))) (by omega) (by omega)
    have s2 := span_eq (g1 (iv (hdV (tlV (f4 x8.toNat)))) (by simp)) (g1 (iv (hdV (tlV (tlV (tlV (f4 x8.toNat)))))) (by simp)) (p := iv (hdV (atV (hdV (tlV (tlV (tlV (tlV (f4 x8.toNat)))))) x9.toNat))) (q := iv (hdV (tlV (atV (hdV (tlV (tlV (tlV (tlV (f4 x8.toNat)))))) x9.toNat)))) (by omega) (by omega)
    first | exact s1.1 | exact s2.1 | exact s1.2 | exact s2.2
end
end
end Go.Dx
namespace Go.Dx
open Go.Sx Go.Proofs
set_option maxRecDepth 100000
set_option linter.unusedVariables false
set_option linter.unusedSimpArgs false
noncomputable section
def ctB19 : CTab := [(19, .con C19), (22, .con C22), (15, .con C15), (55, .con C55), (61, .con C61), (108, .con C108), (46, .con C46), (111, .con C111), (56, .con C56), (47, .con C47), (145, .con C145), (140, .con C140), (49, .con C49), (123, .con C123), (30, .con C30), (31, .con C31), (32, .con C32), (33, .con C33), (50, .con C50), (82, .con C82), (80, .con C80), (44, .con C44), (91, .con C91), (24, .con C24), (23, .con C23), (70, .con C70), (62, .con C62), (68, .con C68), (63, .con C63), (69, .con C69), (117, .inl s117 u0), (116, .inl s116 u0), (115, .con C115), (114, .con C114), (73, .con C73), (147, .con C147), (64, .con C64), (66, .con C66), (113, .con C113), (65, .con C65), (67, .con C67), (53, .con C53), (122, .con C122), (72, .con C72), (45, .con C45), (90, .con C90), (119, .con C119), (121, .con C121), (99, .con C99), (129, .con C129), (148, .con C148), (149, .con C149), (112, .con C112), (118, .con C118), (120, .con C120), (51, .con C51), (133, .con C133), (103, .con C103), (100, .con C100), (134, .con C134), (135, .con C135), (78, .con C78), (54, .con C54), (48, .con C48), (102, .con C102), (81, .con C81), (88, .con C88), (84, .con C84), (85, .con C85), (127, .con C127), (101, .con C101), (86, .con C86), (71, .con C71), (79, .con C79), (162, .con C162), (146, .con C146), (83, .inl s83 u0)]
theorem tabB19 : TabOk Tryz.prog eqs its ctB19 := .con ok19 (.con ok22 (.con ok15 (.con ok55 (.con ok61 (.con ok108 (.con ok46 (.con ok111 (.con ok56 (.con ok47 (.con ok145 (.con ok140 (.con ok49 (.con ok123 (.con ok30 (.con ok31 (.con ok32 (.con ok33 (.con ok50 (.con ok82 (.con ok80 (.con ok44 (.con ok91 (.con ok24 (.con ok23 (.con ok70 (.con ok62 (.con ok68 (.con ok63 (.con ok69 (.inl Tryz.func117 (by kernel_rfl) (by kernel_rfl) (by kernel_rfl) (.inl Tryz.func116 (by kernel_rfl) (by kernel_rfl) (by kernel_rfl) (.con ok115 (.con ok114 (.con ok73 (.con ok147 (.con ok64 (.con ok66 (.con ok113 (.con ok65 (.con ok67 (.con ok53 (.con ok122 (.con ok72 (.con ok45 (.con ok90 (.con ok119 (.con ok121 (.con ok99 (.con ok129 (.con ok148 (.con ok149 (.con ok112 (.con ok118 (.con ok120 (.con ok51 (.con ok133 (.con ok103 (.con ok100 (.con ok134 (.con ok135 (.con ok78 (.con ok54 (.con ok48 (.con ok102 (.con ok81 (.con ok88 (.con ok84 (.con ok85 (.con ok127 (.con ok101 (.con ok86 (.con ok71 (.con ok79 (.con ok162 (.con ok146 (.inl Tryz.func83 (by kernel_rfl) (by kernel_rfl) (by kernel_rfl) (.nil)))))))))))))))))))))))))))))))))))))))))))))))))))))))))))))))))))))))))))))
def m9 (n0 : Nat) (f0 : Nat → List V) (n2 : Nat) (f2 : Nat → List V) (n4 : Nat) (f4 : Nat → List V) (n6 : Nat) (f6 : Nat → List V) (x8 : Int) (x9 : Int) (x10 : Int) : RT Empty := .obt (.obt (.obp ((∀ (i : Nat), i < n0 → (sv (hdV (f0 i))).size ≤ (9223372036854775807 : Nat)) ∧ ∀ (i : Nat), i < n6 → (sv (hdV (f6 i))).size ≤ (9223372036854775807 : Nat)) (.obt (.obt (.obt (.obp ((∀ (i : Nat), i < n0 → (sv (hdV (f0 i))).size ≤ (9223372036854775807 : Nat)) ∧ ∀ (i : Nat), i < n6 → (sv (hdV (f6 i))).size ≤ (9223372036854775807 : Nat)) (.obt (.obt (.obt (.obp ((∀ (i : Nat), i < n0 → (sv (hdV (f0 i))).size ≤ (9223372036854775807 : Nat)) ∧ ∀ (i : Nat), i < n6 → (sv (hdV (f6 i))).size ≤ (9223372036854775807 : Nat)) (.obt (.obt (.obt (.obp ((∀ (i : Nat), i < n0 → (sv (hdV (f0 i))).size ≤ (9223372036854775807 : Nat)) ∧ ∀ (i : Nat), i < n6 → (sv (hdV (f6 i))).size ≤ (9223372036854775807 : Nat)) (.obt (.obi (.obi (.obi (.obi (.obi (.obi (.obi (.obi (.obi (.br (bif bif bif F30_0 n0 (elV tyR f0) n2 (elV tyT f2) n4 (elV tyF f4) n6 (elV tyC f6) x8 x9 == F31_0 n0 (elV tyR f0) n2 (elV tyT f2) n4 (elV tyF f4) n6 (elV tyC f6) x8 x9 then F30_1 n0 (elV tyR f0) n2 (elV tyT f2) n4 (elV tyF f4) n6 (elV tyC f6) x8 x9 == F31_1 n0 (elV tyR f0) n2 (elV tyT f2) n4 (elV tyF f4) n6 (elV tyC f6) x8 x9 else false then F32_0 n0 (elV tyR f0) n2 (elV tyT f2) n4 (elV tyF f4) n6 (elV tyC f6) x9 x10 == F33_0 n0 (elV tyR f0) n2 (elV tyT f2) n4 (elV tyF f4) n6 (elV tyC f6) x9 x10 && (F32_1 n0 (elV tyR f0) n2 (elV tyT f2) n4 (elV tyF f4) n6 (elV tyC f6) x9 x10 == F33_1 n0 (elV tyR f0) n2 (elV tyT f2) n4 (elV tyF f4) n6 (elV tyC f6) x9 x10 && (F32_2 n0 (elV tyR f0) n2 (elV tyT f2) n4 (elV tyF f4) n6 (elV tyC f6) x9 x10 == F33_2 n0 (elV tyR f0) n2 (elV tyT f2) n4 (elV tyF f4) n6 (elV tyC f6) x9 x10 && (F32_3 n0 (elV tyR f0) n2 (elV tyT f2) n4 (elV tyF f4) n6 (elV tyC f6) x9 x10 == F33_3 n0 (elV tyR f0) n2 (elV tyT f2) n4 (elV tyF f4) n6 (elV tyC f6) x9 x10 && (F32_4 n0 (elV tyR f0) n2 (elV tyT f2) n4 (elV tyF f4) n6 (elV tyC f6) x9 x10 == F33_4 n0 (elV tyR f0) n2 (elV tyT f2) n4 (elV tyF f4) n6 (elV tyC f6) x9 x10 && (F32_5 n0 (elV tyR f0) n2 (elV tyT f2) n4 (elV tyF f4) n6 (elV tyC f6) x9 x10 == F33_5 n0 (elV tyR f0) n2 (elV tyT f2) n4 (elV tyF f4) n6 (elV tyC f6) x9 x10 && true))))) else false then F32_6 n0 (elV tyR f0) n2 (elV tyT f2) n4 (elV tyF f4) n6 (elV tyC f6) x9 x10 == F33_6 n0 (elV tyR f0) n2 (elV tyT f2) n4 (elV tyF f4) n6 (elV tyC f6) x9 x10 else false) (.obc (.obt (.ret (V.bool true)))) (.ret (V.kb false)))))))))))))))))))))))))))
theorem f9m (n0 : Nat) (f0 : Nat → List V) (n2 : Nat) (f2 : Nat → List V) (n4 : Nat) (f4 : Nat → List V) (n6 : Nat) (f6 : Nat → List V) (x8 : Int) (x9 : Int) (x10 : Int) : fitT noD (runL (Nat × Nat) ctB19 u0 s9 [V.agg [V.sl n0 (elV tyR f0), V.sl n2 (elV tyT f2), V.sl n4 (elV tyF f4), V.sl n6 (elV tyC f6)], V.agg [V.int IntKind.i64 x8, V.int IntKind.i64 x9, V.int IntKind.i64 x10]]) (m9 n0 f0 n2 f2 n4 f4 n6 f6 x8 x9 x10) = toF noD (m9 n0 f0 n2 f2 n4 f4 n6 f6 x8 x9 x10) := by kernel_rfl
theorem q9m (n0 : Nat) (f0 : Nat → List V) (n2 : Nat) (f2 : Nat → List V) (n4 : Nat) (f4 : Nat → List V) (n6 : Nat) (f6 : Nat → List V) (x8 : Int) (x9 : Int) (x10 : Int) : sameT (runL (Nat × Nat) ctB19 u0 s9 [V.agg [V.sl n0 (elV tyR f0), V.sl n2 (elV tyT f2), V.sl n4 (elV tyF f4), V.sl n6 (elV tyC f6)], V.agg [V.int IntKind.i64 x8, V.int IntKind.i64 x9, V.int IntKind.i64 x10]]) (m9 n0 f0 n2 f2 n4 f4 n6 f6 x8 x9 x10) = (runL (Nat × Nat) ctB19 u0 s9 [V.agg [V.sl n0 (elV tyR f0), V.sl n2 (elV tyT f2), V.sl n4 (elV tyF f4), V.sl n6 (elV tyC f6)], V.agg [V.int IntKind.i64 x8, V.int IntKind.i64 x9, V.int IntKind.i64 x10]]) := by kernel_rfl
theorem run9 (w0 : World) (n0 : Nat) (f0 : Nat → List V) (n2 : Nat) (f2 : Nat → List V) (n4 : Nat) (f4 : Nat → List V) (n6 : Nat) (f6 : Nat → List V) (x8 : Int) (x9 : Int) (x10 : Int) {r : V} (h : evR noE (m9 n0 f0 n2 f2 n4 f4 n6 f6 x8 x9 x10) r) : sat (LPof w0 (SV ctB19)) (runL (Nat × Nat) ctB19 u0 s9 [V.agg [V.sl n0 (elV tyR f0), V.sl n2 (elV tyT f2), V.sl n4 (elV tyF f4), V.sl n6 (elV tyC f6)], V.agg [V.int IntKind.i64 x8, V.int IntKind.i64 x9, V.int IntKind.i64 x10]]) (topQ r) := run_ev0 (by kernel_rfl) _ (f9m n0 f0 n2 f2 n4 f4 n6 f6 x8 x9 x10) (q9m n0 f0 n2 f2 n4 f4 n6 f6 x8 x9 x10) h
def F9_0 (n0 : Nat) (f0 : Nat → List V) (n2 : Nat) (f2 : Nat → List V) (n4 : Nat) (f4 : Nat → List V) (n6 : Nat) (f6 : Nat → List V) (x8 : Int) (x9 : Int) (x10 : Int) : Bool := bif bif bif bif F30_0 n0 (elV tyR f0) n2 (elV tyT f2) n4 (elV tyF f4) n6 (elV tyC f6) x8 x9 == F31_0 n0 (elV tyR f0) n2 (elV tyT f2) n4 (elV tyF f4) n6 (elV tyC f6) x8 x9 then F30_1 n0 (elV tyR f0) n2 (elV tyT f2) n4 (elV tyF f4) n6 (elV tyC f6) x8 x9 == F31_1 n0 (elV tyR f0) n2 (elV tyT f2) n4 (elV tyF f4) n6 (elV tyC f6) x8 x9 else false then F32_0 n0 (elV tyR f0) n2 (elV tyT f2) n4 (elV tyF f4) n6 (elV tyC f6) x9 x10 == F33_0 n0 (elV tyR f0) n2 (elV tyT f2) n4 (elV tyF f4) n6 (elV tyC f6) x9 x10 && (F32_1 n0 (elV tyR f0) n2 (elV tyT f2) n4 (elV tyF f4) n6 (elV tyC f6) x9 x10 == F33_1 n0 (elV tyR f0) n2 (elV tyT f2) n4 (elV tyF f4) n6 (elV tyC f6) x9 x10 && (F32_2 n0 (elV tyR f0) n2 (elV tyT f2) n4 (elV tyF f4) n6 (elV tyC f6) x9 x10 == F33_2 n0 (elV tyR f0) n2 (elV tyT f2) n4 (elV tyF f4) n6 (elV tyC f6) x9 x10 && (F32_3 n0 (elV tyR f0) n2 (elV tyT f2) n4 (elV tyF f4) n6 (elV tyC f6) x9 x10 == F33_3 n0 (elV tyR f0) n2 (elV tyT f2) n4 (elV tyF f4) n6 (elV tyC f6) x9 x10 && (F32_4 n0 (elV tyR f0) n2 (elV tyT f2) n4 (elV tyF f4) n6 (elV tyC f6) x9 x10 == F33_4 n0 (elV tyR f0) n2 (elV tyT f2) n4 (elV tyF f4) n6 (elV tyC f6) x9 x10 && (F32_5 n0 (elV tyR f0) n2 (elV tyT f2) n4 (elV tyF f4) n6 (elV tyC f6) x9 x10 == F33_5 n0 (elV tyR f0) n2 (elV tyT f2) n4 (elV tyF f4) n6 (elV tyC f6) x9 x10 && true))))) else false then F32_6 n0 (elV tyR f0) n2 (elV tyT f2) n4 (elV tyF f4) n6 (elV tyC f6) x9 x10 == F33_6 n0 (elV tyR f0) n2 (elV tyT f2) n4 (elV tyF f4) n6 (elV tyC f6) x9 x10 else false then true else false
def R9 (n0 : Nat) (f0 : Nat → List V) (n2 : Nat) (f2 : Nat → List V) (n4 : Nat) (f4 : Nat → List V) (n6 : Nat) (f6 : Nat → List V) (x8 : Int) (x9 : Int) (x10 : Int) : V := .bool (F9_0 n0 f0 n2 f2 n4 f4 n6 f6 x8 x9 x10)
theorem ev9 (n0 : Nat) (f0 : Nat → List V) (n2 : Nat) (f2 : Nat → List V) (n4 : Nat) (f4 : Nat → List V) (n6 : Nat) (f6 : Nat → List V) (x8 : Int) (x9 : Int) (x10 : Int) (hp : SzOk n0 f0 ∧ SzOk n6 f6) : evR noE (m9 n0 f0 n2 f2 n4 f4 n6 f6 x8 x9 x10) (R9 n0 f0 n2 f2 n4 f4 n6 f6 x8 x9 x10) := evObt (evObt (evObp (by first | assumption | (exact hp)) (evObt (evObt (evObt (evObp (by first | assumption | (exact hp)) (evObt (evObt (evObt (evObp (by first | assumption | (exact hp)) (evObt (evObt (evObt (evObp (by first | assumption | (exact hp)) (evObt (evObi (evObi (evObi (evObi (evObi (evObi (evObi (evObi (evObi (evBr (fun h0 => evObc (evObt (evRet (by unfold R9 F9_0; try rw [h0]; rfl)))) (fun h0 => evRet (by unfold R9 F9_0; try rw [h0]; rfl)))))))))))))))))))))))))))
theorem law9 (n0 : Nat) (f0 : Nat → List V) (n2 : Nat) (f2 : Nat → List V) (n4 : Nat) (f4 : Nat → List V) (n6 : Nat) (f6 : Nat → List V) (x8 : Int) (x9 : Int) (x10 : Int) : F9_0 n0 f0 n2 f2 n4 f4 n6 f6 x8 x9 x10 = true := by
  unfold F9_0
  rw [(faces_eq x8 x9).1, (faces_eq x8 x9).2, (window_eq x9 x10).1, (window_eq x9 x10).2.1, (window_eq x9 x10).2.2.1, (window_eq x9 x10).2.2.2.1, (window_eq x9 x10).2.2.2.2.1, (window_eq x9 x10).2.2.2.2.2.1, (window_eq x9 x10).2.2.2.2.2.2]
  simp only [BEq.rfl, cond_true, Bool.and_self]
theorem evl9 (n0 : Nat) (f0 : Nat → List V) (n2 : Nat) (f2 : Nat → List V) (n4 : Nat) (f4 : Nat → List V) (n6 : Nat) (f6 : Nat → List V) (x8 : Int) (x9 : Int) (x10 : Int) (hp : SzOk n0 f0 ∧ SzOk n6 f6) : evR noE (m9 n0 f0 n2 f2 n4 f4 n6 f6 x8 x9 x10) (.bool true) := by
  have h := ev9 n0 f0 n2 f2 n4 f4 n6 f6 x8 x9 x10 hp
  unfold R9 at h
  rw [law9 n0 f0 n2 f2 n4 f4 n6 f6 x8 x9 x10] at h
  exact h
def tys9 : List Ty := [.agg [.sl tyR, .sl tyT, .sl tyF, .sl tyC], .agg [.int .i64, .int .i64, .int .i64]]
theorem ok9 : (vP (lawC tys9)).Ok Tryz.prog 9 := mkC_ev (J := Nat × Nat) (un := u0) tabB19 hE hI Tryz.func9 (by kernel_rfl) (by kernel_rfl) (by kernel_rfl) rfl (fun w0 ds hp => run9 w0 _ _ _ _ _ _ _ _ _ _ _ (evl9 _ _ _ _ _ _ _ _ _ _ _ (by have h : szTys [.agg [.sl tyR, .sl tyT, .sl tyF, .sl tyC], .agg [.int .i64, .int .i64, .int .i64]] _ := hp; exact ⟨fun i hi => (h.1.1 i hi).1, fun i hi => (h.1.2.2.2.1 i hi).1⟩)))
end
end Go.Dx
