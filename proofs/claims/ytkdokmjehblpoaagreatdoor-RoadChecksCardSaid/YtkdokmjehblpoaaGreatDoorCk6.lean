/- Part 6 of a proof: an evaluator of code with its soundness, contracts of functions, and plain facts of what they compute. No conditions. -/
import Derived.Test.YtkdokmjehblpoaaGreatDoorCk5
import Derived.Laws.MathBits
namespace Go.Dx
open Go.IntKind (i64 u64 u8)
open Go.Sx Go.Proofs
set_option maxRecDepth 100000
set_option linter.unusedVariables false
set_option linter.unusedSimpArgs false
noncomputable section
def ctB21 : CTab := (151, .con C151) :: ctB20
theorem tabB21 : TabOk Tryz.prog eqs its ctB21 := .con ok151 (tabB20)
def m126 (s0 : ByteArray) (x1 : Int) (n2 : Nat) (f2 : FnV) (x4 x5 x6 x7 x8 x9 : Int) : RT Empty := .obp ((0 : Int) <= x5 /\ i64.wrap (x5 + (1 : Int)) = x5 + (1 : Int) /\ x5 + (1 : Int) < (↑n2 : Int)) (.obt (.obc (.obt (.brt (.obt (.obt (.obc (.obt (.obp ((0 : Int) <= x5 /\ i64.wrap (x5 + (1 : Int)) = x5 + (1 : Int) /\ x5 + (1 : Int) < (↑n2 : Int)) (.obt (.br (F124_0 (elV [Ty.int i64, Ty.int i64] f2) x4 x5 (F125_0 x6) (F125_1 x7)) (.ret (V.kb true)) (.brt (.obt (.obt (.obc (.obt (.obp ((0 : Int) <= x5 /\ i64.wrap (x5 + (1 : Int)) = x5 + (1 : Int) /\ x5 + (1 : Int) < (↑n2 : Int)) (.obt (.br (F124_0 (elV [Ty.int i64, Ty.int i64] f2) x4 x5 (F125_0 x8) (F125_1 x7)) (.ret (V.kb true)) (.brt (.obt (.obt (.obc (.obt (.obp ((0 : Int) <= x5 /\ i64.wrap (x5 + (1 : Int)) = x5 + (1 : Int) /\ x5 + (1 : Int) < (↑n2 : Int)) (.obt (.br (F124_0 (elV [Ty.int i64, Ty.int i64] f2) x4 x5 (F125_0 x8) (F125_1 x9)) (.ret (V.kb true)) (.brt (.obt (.obt (.obc (.obt (.obp ((0 : Int) <= x5 /\ i64.wrap (x5 + (1 : Int)) = x5 + (1 : Int) /\ x5 + (1 : Int) < (↑n2 : Int)) (.obt (.br (F124_0 (elV [Ty.int i64, Ty.int i64] f2) x4 x5 (F125_0 x6) (F125_1 x9)) (.ret (V.kb true)) (.brf (.brt (.obt (.obt (.obt (.obt (.br (decide (i64.wrap (i64.wrap (max (max 0 (i64.wrap (i64.wrap (2 * x6) - F150_0 (elV [Ty.int i64, Ty.int i64] f2) x5))) (i64.wrap (F150_0 (elV [Ty.int i64, Ty.int i64] f2) x5 - i64.wrap (2 * x8))) * max (max 0 (i64.wrap (i64.wrap (2 * x6) - F150_0 (elV [Ty.int i64, Ty.int i64] f2) x5))) (i64.wrap (F150_0 (elV [Ty.int i64, Ty.int i64] f2) x5 - i64.wrap (2 * x8)))) + i64.wrap (max (max 0 (i64.wrap (i64.wrap (2 * x7) - F150_1 (elV [Ty.int i64, Ty.int i64] f2) x5))) (i64.wrap (F150_1 (elV [Ty.int i64, Ty.int i64] f2) x5 - i64.wrap (2 * x9))) * max (max 0 (i64.wrap (i64.wrap (2 * x7) - F150_1 (elV [Ty.int i64, Ty.int i64] f2) x5))) (i64.wrap (F150_1 (elV [Ty.int i64, Ty.int i64] f2) x5 - i64.wrap (2 * x9))))) <= i64.wrap (x4 * x4))) (.ret (V.kb true)) (.brt (.obt (.obt (.obt (.obt (.br (decide (i64.wrap (i64.wrap (max (max 0 (i64.wrap (i64.wrap (2 * x6) - F150_2 (elV [Ty.int i64, Ty.int i64] f2) x5))) (i64.wrap (F150_2 (elV [Ty.int i64, Ty.int i64] f2) x5 - i64.wrap (2 * x8))) * max (max 0 (i64.wrap (i64.wrap (2 * x6) - F150_2 (elV [Ty.int i64, Ty.int i64] f2) x5))) (i64.wrap (F150_2 (elV [Ty.int i64, Ty.int i64] f2) x5 - i64.wrap (2 * x8)))) + i64.wrap (max (max 0 (i64.wrap (i64.wrap (2 * x7) - F150_3 (elV [Ty.int i64, Ty.int i64] f2) x5))) (i64.wrap (F150_3 (elV [Ty.int i64, Ty.int i64] f2) x5 - i64.wrap (2 * x9))) * max (max 0 (i64.wrap (i64.wrap (2 * x7) - F150_3 (elV [Ty.int i64, Ty.int i64] f2) x5))) (i64.wrap (F150_3 (elV [Ty.int i64, Ty.int i64] f2) x5 - i64.wrap (2 * x9))))) <= i64.wrap (x4 * x4))) (.ret (V.kb true)) (.brf (.obc (.obt (.obc (.obt (.obc (.obt (.obi (.obi (.br (!F151 (F150_0 (elV [Ty.int i64, Ty.int i64] f2) x5) (F150_1 (elV [Ty.int i64, Ty.int i64] f2) x5) (F150_2 (elV [Ty.int i64, Ty.int i64] f2) x5) (F150_3 (elV [Ty.int i64, Ty.int i64] f2) x5) (F125_0 x6) (F125_1 x7) (F125_0 x8) (F125_1 x9)) (.ob (!F151 (F150_0 (elV [Ty.int i64, Ty.int i64] f2) x5) (F150_1 (elV [Ty.int i64, Ty.int i64] f2) x5) (F150_2 (elV [Ty.int i64, Ty.int i64] f2) x5) (F150_3 (elV [Ty.int i64, Ty.int i64] f2) x5) (F125_0 x6) (F125_1 x7) (F125_0 x8) (F125_1 x9)) (.ob (!F151 (F150_0 (elV [Ty.int i64, Ty.int i64] f2) x5) (F150_1 (elV [Ty.int i64, Ty.int i64] f2) x5) (F150_2 (elV [Ty.int i64, Ty.int i64] f2) x5) (F150_3 (elV [Ty.int i64, Ty.int i64] f2) x5) (F125_0 x6) (F125_1 x7) (F125_0 x8) (F125_1 x9)) (.obc (.obt (.obc (.obt (.ob (!F151 (F150_0 (elV [Ty.int i64, Ty.int i64] f2) x5) (F150_1 (elV [Ty.int i64, Ty.int i64] f2) x5) (F150_2 (elV [Ty.int i64, Ty.int i64] f2) x5) (F150_3 (elV [Ty.int i64, Ty.int i64] f2) x5) (F125_0 x6) (F125_1 x7) (F125_0 x8) (F125_1 x9)) (.ob (!F151 (F150_0 (elV [Ty.int i64, Ty.int i64] f2) x5) (F150_1 (elV [Ty.int i64, Ty.int i64] f2) x5) (F150_2 (elV [Ty.int i64, Ty.int i64] f2) x5) (F150_3 (elV [Ty.int i64, Ty.int i64] f2) x5) (F125_0 x6) (F125_1 x7) (F125_0 x8) (F125_1 x9)) (.obc (.obt (.ret (V.bool (F151 (F150_0 (elV [Ty.int i64, Ty.int i64] f2) x5) (F150_1 (elV [Ty.int i64, Ty.int i64] f2) x5) (F150_2 (elV [Ty.int i64, Ty.int i64] f2) x5) (F150_3 (elV [Ty.int i64, Ty.int i64] f2) x5) (F125_0 x8) (F125_1 x7) (F125_0 x6) (F125_1 x9)))))))))))))) (.ret (V.kb true))))))))))))))))))))))))))))))))))))))))))))))))))))))))))))
def rl126 (s0 : ByteArray) (x1 : Int) (n2 : Nat) (f2 : FnV) (x4 x5 x6 x7 x8 x9 : Int) : T (Leaf (Nat × Nat)) := runL (Nat × Nat) ctB21 u5 s126 [V.agg [V.str s0, V.int i64 x1, V.sl n2 (elV [Ty.int i64, Ty.int i64] f2), V.int i64 x4], V.int i64 x5, V.agg [V.int i64 x6, V.int i64 x7, V.int i64 x8, V.int i64 x9]]
theorem f126m (s0 : ByteArray) (x1 : Int) (n2 : Nat) (f2 : FnV) (x4 x5 x6 x7 x8 x9 : Int) : fitT noD (rl126 s0 x1 n2 f2 x4 x5 x6 x7 x8 x9) (m126 s0 x1 n2 f2 x4 x5 x6 x7 x8 x9) = toF noD (m126 s0 x1 n2 f2 x4 x5 x6 x7 x8 x9) := by kernel_rfl
theorem q126m (s0 : ByteArray) (x1 : Int) (n2 : Nat) (f2 : FnV) (x4 x5 x6 x7 x8 x9 : Int) : sameT (rl126 s0 x1 n2 f2 x4 x5 x6 x7 x8 x9) (m126 s0 x1 n2 f2 x4 x5 x6 x7 x8 x9) = (rl126 s0 x1 n2 f2 x4 x5 x6 x7 x8 x9) := by kernel_rfl
theorem run126 (w0 : World) (s0 : ByteArray) (x1 : Int) (n2 : Nat) (f2 : FnV) (x4 x5 x6 x7 x8 x9 : Int) {r : V} (h : evR noE (m126 s0 x1 n2 f2 x4 x5 x6 x7 x8 x9) r) : sat (LPof w0 (SV ctB21)) (runL (Nat × Nat) ctB21 u5 s126 [V.agg [V.str s0, V.int i64 x1, V.sl n2 (elV [Ty.int i64, Ty.int i64] f2), V.int i64 x4], V.int i64 x5, V.agg [V.int i64 x6, V.int i64 x7, V.int i64 x8, V.int i64 x9]]) (topQ r) := run_ev0 (by kernel_rfl) _ (f126m s0 x1 n2 f2 x4 x5 x6 x7 x8 x9) (q126m s0 x1 n2 f2 x4 x5 x6 x7 x8 x9) h
def F126_0 (f2 : FnV) (x4 x5 x6 x7 x8 x9 : Int) : Bool := bif F124_0 (elV [Ty.int i64, Ty.int i64] f2) x4 x5 (F125_0 x6) (F125_1 x7) then true else bif F124_0 (elV [Ty.int i64, Ty.int i64] f2) x4 x5 (F125_0 x8) (F125_1 x7) then true else bif F124_0 (elV [Ty.int i64, Ty.int i64] f2) x4 x5 (F125_0 x8) (F125_1 x9) then true else bif F124_0 (elV [Ty.int i64, Ty.int i64] f2) x4 x5 (F125_0 x6) (F125_1 x9) then true else bif decide (i64.wrap (i64.wrap (max (max 0 (i64.wrap (i64.wrap (2 * x6) - F150_0 (elV [Ty.int i64, Ty.int i64] f2) x5))) (i64.wrap (F150_0 (elV [Ty.int i64, Ty.int i64] f2) x5 - i64.wrap (2 * x8))) * max (max 0 (i64.wrap (i64.wrap (2 * x6) - F150_0 (elV [Ty.int i64, Ty.int i64] f2) x5))) (i64.wrap (F150_0 (elV [Ty.int i64, Ty.int i64] f2) x5 - i64.wrap (2 * x8)))) + i64.wrap (max (max 0 (i64.wrap (i64.wrap (2 * x7) - F150_1 (elV [Ty.int i64, Ty.int i64] f2) x5))) (i64.wrap (F150_1 (elV [Ty.int i64, Ty.int i64] f2) x5 - i64.wrap (2 * x9))) * max (max 0 (i64.wrap (i64.wrap (2 * x7) - F150_1 (elV [Ty.int i64, Ty.int i64] f2) x5))) (i64.wrap (F150_1 (elV [Ty.int i64, Ty.int i64] f2) x5 - i64.wrap (2 * x9))))) <= i64.wrap (x4 * x4)) then true else bif decide (i64.wrap (i64.wrap (max (max 0 (i64.wrap (i64.wrap (2 * x6) - F150_2 (elV [Ty.int i64, Ty.int i64] f2) x5))) (i64.wrap (F150_2 (elV [Ty.int i64, Ty.int i64] f2) x5 - i64.wrap (2 * x8))) * max (max 0 (i64.wrap (i64.wrap (2 * x6) - F150_2 (elV [Ty.int i64, Ty.int i64] f2) x5))) (i64.wrap (F150_2 (elV [Ty.int i64, Ty.int i64] f2) x5 - i64.wrap (2 * x8)))) + i64.wrap (max (max 0 (i64.wrap (i64.wrap (2 * x7) - F150_3 (elV [Ty.int i64, Ty.int i64] f2) x5))) (i64.wrap (F150_3 (elV [Ty.int i64, Ty.int i64] f2) x5 - i64.wrap (2 * x9))) * max (max 0 (i64.wrap (i64.wrap (2 * x7) - F150_3 (elV [Ty.int i64, Ty.int i64] f2) x5))) (i64.wrap (F150_3 (elV [Ty.int i64, Ty.int i64] f2) x5 - i64.wrap (2 * x9))))) <= i64.wrap (x4 * x4)) then true else bif !F151 (F150_0 (elV [Ty.int i64, Ty.int i64] f2) x5) (F150_1 (elV [Ty.int i64, Ty.int i64] f2) x5) (F150_2 (elV [Ty.int i64, Ty.int i64] f2) x5) (F150_3 (elV [Ty.int i64, Ty.int i64] f2) x5) (F125_0 x6) (F125_1 x7) (F125_0 x8) (F125_1 x9) then F151 (F150_0 (elV [Ty.int i64, Ty.int i64] f2) x5) (F150_1 (elV [Ty.int i64, Ty.int i64] f2) x5) (F150_2 (elV [Ty.int i64, Ty.int i64] f2) x5) (F150_3 (elV [Ty.int i64, Ty.int i64] f2) x5) (F125_0 x8) (F125_1 x7) (F125_0 x6) (F125_1 x9) else true
def R126 (s0 : ByteArray) (x1 : Int) (n2 : Nat) (f2 : FnV) (x4 x5 x6 x7 x8 x9 : Int) : V := .bool (F126_0 f2 x4 x5 x6 x7 x8 x9)
theorem ev126 (s0 : ByteArray) (x1 : Int) (n2 : Nat) (f2 : FnV) (x4 x5 x6 x7 x8 x9 : Int) (hp : 0 <= x5 /\ i64.wrap (x5 + 1) = x5 + 1 /\ x5 + 1 < (n2 : Int)) : evR noE (m126 s0 x1 n2 f2 x4 x5 x6 x7 x8 x9) (R126 s0 x1 n2 f2 x4 x5 x6 x7 x8 x9) := evObp (by first | assumption | (first | exact hp | simp_all)) (evObt (evObc (evObt (evBrt (evObt (evObt (evObc (evObt (evObp (by first | assumption | (first | exact hp | simp_all)) (evObt (evBr (fun h0 => evRet (by unfold R126 F126_0; try rw [h0]; rfl)) (fun h0 => evBrt (evObt (evObt (evObc (evObt (evObp (by first | assumption | (first | exact hp | simp_all)) (evObt (evBr (fun h1 => evRet (by unfold R126 F126_0; try rw [h0]; try rw [h1]; rfl)) (fun h1 => evBrt (evObt (evObt (evObc (evObt (evObp (by first | assumption | (first | exact hp | simp_all)) (evObt (evBr (fun h2 => evRet (by unfold R126 F126_0; try rw [h0]; try rw [h1]; try rw [h2]; rfl)) (fun h2 => evBrt (evObt (evObt (evObc (evObt (evObp (by first | assumption | (first | exact hp | simp_all)) (evObt (evBr (fun h3 => evRet (by unfold R126 F126_0; try rw [h0]; try rw [h1]; try rw [h2]; try rw [h3]; rfl)) (fun h3 => evBrf (evBrt (evObt (evObt (evObt (evObt (evBr (fun h4 => evRet (by unfold R126 F126_0; try rw [h0]; try rw [h1]; try rw [h2]; try rw [h3]; try rw [h4]; rfl)) (fun h4 => evBrt (evObt (evObt (evObt (evObt (evBr (fun h5 => evRet (by unfold R126 F126_0; try rw [h0]; try rw [h1]; try rw [h2]; try rw [h3]; try rw [h4]; try rw [h5]; rfl)) (fun h5 => evBrf (evObc (evObt (evObc (evObt (evObc (evObt (evObi (evObi (evBr (fun h6 => evOb (by first | assumption | (simp_all)) (evOb (by first | assumption | (simp_all)) (evObc (evObt (evObc (evObt (evOb (by first | assumption | (simp_all)) (evOb (by first | assumption | (simp_all)) (evObc (evObt (evRet (by unfold R126 F126_0; try rw [h0]; try rw [h1]; try rw [h2]; try rw [h3]; try rw [h4]; try rw [h5]; try rw [h6]; rfl)))))))))))) (fun h6 => evRet (by unfold R126 F126_0; try rw [h0]; try rw [h1]; try rw [h2]; try rw [h3]; try rw [h4]; try rw [h5]; try rw [h6]; rfl))))))))))))))))))))))))))))))))))))))))))))))))))))))))))))
def C126 : PCon := mkC [.agg tyR, .int .i64, .agg [.int .i64, .int .i64, .int .i64, .int .i64]] (fun
  | [.agg [.str s0, .int _ x1, .sl n2 f2, .int _ x4], .int _ x5, .agg [.int _ x6, .int _ x7, .int _ x8, .int _ x9]] => 0 <= x5 /\ i64.wrap (x5 + 1) = x5 + 1 /\ x5 + 1 < (n2 : Int)
  | _ => False) fun
  | [.agg [.str s0, .int _ x1, .sl n2 f2, .int _ x4], .int _ x5, .agg [.int _ x6, .int _ x7, .int _ x8, .int _ x9]] => R126 s0 x1 n2 f2 x4 x5 x6 x7 x8 x9
  | _ => .any
theorem ok126 : (vP C126).Ok Tryz.prog 126 := mkC_ev (J := Nat × Nat) (un := u5) tabB21 hE hI Tryz.func126 (by kernel_rfl) (by kernel_rfl) (by kernel_rfl) rfl (fun w0 ds hp => run126 w0 _ _ _ _ _ _ _ _ _ _ (ev126 _ _ _ _ _ _ _ _ _ _ hp))
inductive S75 where
  | L0 (i_100 : Int)
def inv75 (s0 : ByteArray) (x1 : Int) (n2 : Nat) (f2 : FnV) (x4 x5 x6 : Int) : S75 -> Env × List O × Option Ex
  | .L0 i_100 => ([(7, V.int i64 i_100), (6, V.kb false), (3, V.pl 0 0), (0, V.agg [V.str s0, V.int i64 x1, V.sl n2 (elV [Ty.int i64, Ty.int i64] f2), V.int i64 x4]), (1, V.int i64 x5), (2, V.int i64 x6)], [O.cells [V.str s0, V.int i64 x1, V.sl n2 (elV [Ty.int i64, Ty.int i64] f2), V.int i64 x4] 54], none)
def id75 : S75 -> Nat × Nat
  | .L0 i_100 => (0, 0)
def rl75 (s0 : ByteArray) (x1 : Int) (n2 : Nat) (f2 : FnV) (x4 x5 x6 : Int) : T (Leaf (Nat × Nat)) := runL (Nat × Nat) ctB21 u0 s75 [V.agg [V.str s0, V.int i64 x1, V.sl n2 (elV [Ty.int i64, Ty.int i64] f2), V.int i64 x4], V.int i64 x5, V.int i64 x6]
def lp75_0 (s0 : ByteArray) (x1 : Int) (n2 : Nat) (f2 : FnV) (x4 x5 x6 : Int) (cx : Nat) : Lp (Nat × Nat) := lpT (atT (rl75 s0 x1 n2 f2 x4 x5 x6) [])
def lp75 (s0 : ByteArray) (x1 : Int) (n2 : Nat) (f2 : FnV) (x4 x5 x6 : Int) : Nat × Nat -> Lp (Nat × Nat)
  | (0, cx) => lp75_0 s0 x1 n2 f2 x4 x5 x6 cx
  | (_, cx) => lp75_0 s0 x1 n2 f2 x4 x5 x6 cx
def D75 (s0 : ByteArray) (x1 : Int) (n2 : Nat) (f2 : FnV) (x4 x5 x6 : Int) : LD (Nat × Nat) S75 := ⟨id75, lp75 s0 x1 n2 f2 x4 x5 x6, inv75 s0 x1 n2 f2 x4 x5 x6⟩
def st75 (s0 : ByteArray) (x1 : Int) (n2 : Nat) (f2 : FnV) (x4 x5 x6 : Int) : S75 -> RT S75
  | .L0 i_100 => .asm (true = true -> n2 <= 9223372036854775807) (.br (decide (i64.wrap (i_100 + 1) < (↑n2 : Int))) (.obc (.obt (.obp ((0 : Int) <= i_100 /\ i64.wrap (i_100 + (1 : Int)) = i_100 + (1 : Int) /\ i_100 + (1 : Int) < (↑n2 : Int)) (.obt (.br (F124_0 (elV [Ty.int i64, Ty.int i64] f2) x4 i_100 (F125_0 x5) (F125_1 x6)) (.ret (V.kb true)) (.next [some (some 0)] (S75.L0 (i64.wrap (i_100 + 1))) [])))))) (.ret (V.kb false)))
def m75 (s0 : ByteArray) (x1 : Int) (n2 : Nat) (f2 : FnV) (x4 x5 x6 : Int) : RT S75 := .enter [some (some 0)] (S75.L0 (0)) []
theorem f75m (s0 : ByteArray) (x1 : Int) (n2 : Nat) (f2 : FnV) (x4 x5 x6 : Int) : fitT (D75 s0 x1 n2 f2 x4 x5 x6) (rl75 s0 x1 n2 f2 x4 x5 x6) (m75 s0 x1 n2 f2 x4 x5 x6) = toF (D75 s0 x1 n2 f2 x4 x5 x6) (m75 s0 x1 n2 f2 x4 x5 x6) := by kernel_rfl
theorem q75m (s0 : ByteArray) (x1 : Int) (n2 : Nat) (f2 : FnV) (x4 x5 x6 : Int) : sameT (rl75 s0 x1 n2 f2 x4 x5 x6) (m75 s0 x1 n2 f2 x4 x5 x6) = (rl75 s0 x1 n2 f2 x4 x5 x6) := by kernel_rfl
theorem f75_0 (s0 : ByteArray) (x1 : Int) (n2 : Nat) (f2 : FnV) (x4 x5 x6 i_100 : Int) : fitT (D75 s0 x1 n2 f2 x4 x5 x6) (rdS ctB21 u0 (D75 s0 x1 n2 f2 x4 x5 x6) (S75.L0 i_100)) (st75 s0 x1 n2 f2 x4 x5 x6 (S75.L0 i_100)) = toF (D75 s0 x1 n2 f2 x4 x5 x6) (st75 s0 x1 n2 f2 x4 x5 x6 (S75.L0 i_100)) := by kernel_rfl
theorem q75_0 (s0 : ByteArray) (x1 : Int) (n2 : Nat) (f2 : FnV) (x4 x5 x6 i_100 : Int) : sameT (rdS ctB21 u0 (D75 s0 x1 n2 f2 x4 x5 x6) (S75.L0 i_100)) (st75 s0 x1 n2 f2 x4 x5 x6 (S75.L0 i_100)) = rdS ctB21 u0 (D75 s0 x1 n2 f2 x4 x5 x6) (S75.L0 i_100) := by kernel_rfl
theorem run75 (w0 : World) (s0 : ByteArray) (x1 : Int) (n2 : Nat) (f2 : FnV) (x4 x5 x6 : Int) {r : V} (h : evR (Ev (st75 s0 x1 n2 f2 x4 x5 x6)) (m75 s0 x1 n2 f2 x4 x5 x6) r) : sat (LPof w0 (SV ctB21)) (runL (Nat × Nat) ctB21 u0 s75 [V.agg [V.str s0, V.int i64 x1, V.sl n2 (elV [Ty.int i64, Ty.int i64] f2), V.int i64 x4], V.int i64 x5, V.int i64 x6]) (topQ r) := run_ev (by kernel_rfl) (D75 s0 x1 n2 f2 x4 x5 x6) (st75 s0 x1 n2 f2 x4 x5 x6) _ (f75m s0 x1 n2 f2 x4 x5 x6) (q75m s0 x1 n2 f2 x4 x5 x6) (fun s => match s with | .L0 i_100 => f75_0 s0 x1 n2 f2 x4 x5 x6 i_100) (fun s => match s with | .L0 i_100 => q75_0 s0 x1 n2 f2 x4 x5 x6 i_100) h
def p75 (n2 : Nat) (f2 : FnV) (x4 x5 x6 : Int) (ii : Nat) : Bool := F124_0 (elV [Ty.int i64, Ty.int i64] f2) x4 (ii : Int) (F125_0 x5) (F125_1 x6)
def F75 (n2 : Nat) (f2 : FnV) (x4 x5 x6 : Int) : Bool := exB (n2 - 1) (p75 n2 f2 x4 x5 x6)
theorem ev75_0 (s0 : ByteArray) (x1 : Int) (n2 : Nat) (f2 : FnV) (x4 x5 x6 : Int) : evR (Ev (st75 s0 x1 n2 f2 x4 x5 x6)) (m75 s0 x1 n2 f2 x4 x5 x6) (.bool (F75 n2 f2 x4 x5 x6)) := evEnter (pieces_exR fun i => rfl)
theorem ev75 (s0 : ByteArray) (x1 : Int) (n2 : Nat) (f2 : FnV) (x4 x5 x6 : Int) : evR (Ev (st75 s0 x1 n2 f2 x4 x5 x6)) (m75 s0 x1 n2 f2 x4 x5 x6) (.bool (F75 n2 (elV [.int .i64, .int .i64] f2) x4 x5 x6)) := ev75_0 s0 x1 n2 f2 x4 x5 x6
def C75 : PCon := mkC [.agg tyR, .int .i64, .int .i64] (fun _ => True) fun
  | [.agg [.str s0, .int _ x1, .sl n2 f2, .int _ x4], .int _ x5, .int _ x6] => .bool (F75 n2 f2 x4 x5 x6)
  | _ => .any
theorem ok75 : (vP C75).Ok Tryz.prog 75 := mkC_ev (J := Nat × Nat) (un := u0) tabB21 hE hI Tryz.func75 (by kernel_rfl) (by kernel_rfl) (by kernel_rfl) rfl (fun w0 ds hp => run75 w0 _ _ _ _ _ _ _ (ev75 _ _ _ _ _ _ _))
end
end Go.Dx
namespace Go.Dx
open Go.IntKind (i64 u64 u8)
open Go.Sx Go.Proofs
set_option maxRecDepth 100000
set_option linter.unusedVariables false
set_option linter.unusedSimpArgs false
noncomputable section
def ctB22 : CTab := (126, .con C126) :: (75, .con C75) :: ctB21
theorem tabB22 : TabOk Tryz.prog eqs its ctB22 := .con ok126 (.con ok75 (tabB21))
def u2 : Unr := fun k => bif Nat.beq k 2 then 5 else 0
inductive S76 where
  | L0 (i_100 : Int) (b_101 : Bool)
def inv76 (s0 : ByteArray) (x1 : Int) (n2 : Nat) (f2 : FnV) (x4 x5 x6 x7 x8 : Int) : S76 -> Env × List O × Option Ex
  | .L0 i_100 b_101 => ([(7, V.int i64 i_100), (6, V.bool b_101), (5, V.pl 0 0), (11, V.agg [V.int i64 x5, V.int i64 x6, V.int i64 x7, V.int i64 x6, V.int i64 x7, V.int i64 x8, V.int i64 x5, V.int i64 x8]), (10, V.agg [V.int i64 x5, V.int i64 x6, V.int i64 x7, V.int i64 x8]), (4, V.int i64 0), (3, V.pl 1 0), (2, V.pl 2 0), (0, V.agg [V.str s0, V.int i64 x1, V.sl n2 (elV [Ty.int i64, Ty.int i64] f2), V.int i64 x4]), (1, V.agg [V.int i64 x5, V.int i64 x6, V.int i64 x7, V.int i64 x8])], [O.cells [V.int i64 x5, V.int i64 x6, V.int i64 x7, V.int i64 x6, V.int i64 x7, V.int i64 x8, V.int i64 x5, V.int i64 x8] 112, O.cells [V.int i64 x5, V.int i64 x6, V.int i64 x7, V.int i64 x8] 29, O.cells [V.str s0, V.int i64 x1, V.sl n2 (elV [Ty.int i64, Ty.int i64] f2), V.int i64 x4] 54], none)
def id76 : S76 -> Nat × Nat
  | .L0 i_100 b_101 => (0, 0)
def rl76 (s0 : ByteArray) (x1 : Int) (n2 : Nat) (f2 : FnV) (x4 x5 x6 x7 x8 : Int) : T (Leaf (Nat × Nat)) := runL (Nat × Nat) ctB22 u2 s76 [V.agg [V.str s0, V.int i64 x1, V.sl n2 (elV [Ty.int i64, Ty.int i64] f2), V.int i64 x4], V.agg [V.int i64 x5, V.int i64 x6, V.int i64 x7, V.int i64 x8]]
def lp76_0 (s0 : ByteArray) (x1 : Int) (n2 : Nat) (f2 : FnV) (x4 x5 x6 x7 x8 : Int) (cx : Nat) : Lp (Nat × Nat) := lpT (atT (rl76 s0 x1 n2 f2 x4 x5 x6 x7 x8) [])
def lp76 (s0 : ByteArray) (x1 : Int) (n2 : Nat) (f2 : FnV) (x4 x5 x6 x7 x8 : Int) : Nat × Nat -> Lp (Nat × Nat)
  | (0, cx) => lp76_0 s0 x1 n2 f2 x4 x5 x6 x7 x8 cx
  | (_, cx) => lp76_0 s0 x1 n2 f2 x4 x5 x6 x7 x8 cx
def D76 (s0 : ByteArray) (x1 : Int) (n2 : Nat) (f2 : FnV) (x4 x5 x6 x7 x8 : Int) : LD (Nat × Nat) S76 := ⟨id76, lp76 s0 x1 n2 f2 x4 x5 x6 x7 x8, inv76 s0 x1 n2 f2 x4 x5 x6 x7 x8⟩
def st76 (s0 : ByteArray) (x1 : Int) (n2 : Nat) (f2 : FnV) (x4 x5 x6 x7 x8 : Int) : S76 -> RT S76
  | .L0 i_100 b_101 => .asm (true = true -> n2 <= 9223372036854775807) (.br (decide (i64.wrap (i_100 + 1) < (↑n2 : Int))) (.brt (.obt (.obt (.obc (.obt (.obp ((0 : Int) <= i_100 /\ i64.wrap (i_100 + (1 : Int)) = i_100 + (1 : Int) /\ i_100 + (1 : Int) < (↑n2 : Int)) (.obt (.brt (.obi (.obt (.obi (.obi (.obi (.obt (.obi (.obi (.br (F124_0 (elV [Ty.int i64, Ty.int i64] f2) x4 i_100 (F125_0 x5) (F125_1 x6)) (.ob (F124_0 (elV [Ty.int i64, Ty.int i64] f2) x4 i_100 (F125_0 x5) (F125_1 x6)) (.ob (F124_0 (elV [Ty.int i64, Ty.int i64] f2) x4 i_100 (F125_0 x5) (F125_1 x6)) (.obc (.obt (.ob (F124_0 (elV [Ty.int i64, Ty.int i64] f2) x4 i_100 (F125_0 x5) (F125_1 x6)) (.ob (F124_0 (elV [Ty.int i64, Ty.int i64] f2) x4 i_100 (F125_0 x5) (F125_1 x6)) (.obp ((0 : Int) <= i_100 /\ i64.wrap (i_100 + (1 : Int)) = i_100 + (1 : Int) /\ i_100 + (1 : Int) < (↑n2 : Int)) (.obt (.brt (.obi (.obt (.obi (.obi (.obi (.obt (.obi (.obi (.br (F124_0 (elV [Ty.int i64, Ty.int i64] f2) x4 i_100 (F125_0 x7) (F125_1 x6)) (.ob (F124_0 (elV [Ty.int i64, Ty.int i64] f2) x4 i_100 (F125_0 x7) (F125_1 x6)) (.ob (F124_0 (elV [Ty.int i64, Ty.int i64] f2) x4 i_100 (F125_0 x7) (F125_1 x6)) (.obc (.obt (.ob (F124_0 (elV [Ty.int i64, Ty.int i64] f2) x4 i_100 (F125_0 x7) (F125_1 x6)) (.ob (F124_0 (elV [Ty.int i64, Ty.int i64] f2) x4 i_100 (F125_0 x7) (F125_1 x6)) (.obp ((0 : Int) <= i_100 /\ i64.wrap (i_100 + (1 : Int)) = i_100 + (1 : Int) /\ i_100 + (1 : Int) < (↑n2 : Int)) (.obt (.brt (.obi (.obt (.obi (.obi (.obi (.obt (.obi (.obi (.br (F124_0 (elV [Ty.int i64, Ty.int i64] f2) x4 i_100 (F125_0 x7) (F125_1 x8)) (.ob (F124_0 (elV [Ty.int i64, Ty.int i64] f2) x4 i_100 (F125_0 x7) (F125_1 x8)) (.ob (F124_0 (elV [Ty.int i64, Ty.int i64] f2) x4 i_100 (F125_0 x7) (F125_1 x8)) (.obc (.obt (.ob (F124_0 (elV [Ty.int i64, Ty.int i64] f2) x4 i_100 (F125_0 x7) (F125_1 x8)) (.ob (F124_0 (elV [Ty.int i64, Ty.int i64] f2) x4 i_100 (F125_0 x7) (F125_1 x8)) (.obp ((0 : Int) <= i_100 /\ i64.wrap (i_100 + (1 : Int)) = i_100 + (1 : Int) /\ i_100 + (1 : Int) < (↑n2 : Int)) (.obt (.brf (.br (F124_0 (elV [Ty.int i64, Ty.int i64] f2) x4 i_100 (F125_0 x5) (F125_1 x8)) (.ret (V.int i64 2)) (.br (!b_101) (.ob (!b_101) (.ob (!b_101) (.ob (!b_101) (.obp ((0 : Int) <= i_100 /\ i64.wrap (i_100 + (1 : Int)) = i_100 + (1 : Int) /\ i_100 + (1 : Int) < (↑n2 : Int)) (.obt (.next [some (some 0), some (some 1), some (some 2)] (S76.L0 (i64.wrap (i_100 + 1)) (F126_0 (elV [Ty.int i64, Ty.int i64] f2) x4 i_100 x5 x6 x7 x8)) [])))))) (.next [some (some 0), some (some 1), some (some 2)] (S76.L0 (i64.wrap (i_100 + 1)) (true)) [])))))))))))) (.brf (.br (!b_101) (.ob (!b_101) (.ob (!b_101) (.ob (!b_101) (.obp ((0 : Int) <= i_100 /\ i64.wrap (i_100 + (1 : Int)) = i_100 + (1 : Int) /\ i_100 + (1 : Int) < (↑n2 : Int)) (.obt (.next [some (some 0), some (some 1), some (some 2)] (S76.L0 (i64.wrap (i_100 + 1)) (F126_0 (elV [Ty.int i64, Ty.int i64] f2) x4 i_100 x5 x6 x7 x8)) [])))))) (.next [some (some 0), some (some 1), some (some 2)] (S76.L0 (i64.wrap (i_100 + 1)) (true)) []))))))))))))))))))))) (.brt (.brf (.br (!b_101) (.ob (!b_101) (.ob (!b_101) (.ob (!b_101) (.obp ((0 : Int) <= i_100 /\ i64.wrap (i_100 + (1 : Int)) = i_100 + (1 : Int) /\ i_100 + (1 : Int) < (↑n2 : Int)) (.obt (.next [some (some 0), some (some 1), some (some 2)] (S76.L0 (i64.wrap (i_100 + 1)) (F126_0 (elV [Ty.int i64, Ty.int i64] f2) x4 i_100 x5 x6 x7 x8)) [])))))) (.next [some (some 0), some (some 1), some (some 2)] (S76.L0 (i64.wrap (i_100 + 1)) (true)) [])))))))))))))))))))))) (.brt (.brt (.brf (.br (!b_101) (.ob (!b_101) (.ob (!b_101) (.ob (!b_101) (.obp ((0 : Int) <= i_100 /\ i64.wrap (i_100 + (1 : Int)) = i_100 + (1 : Int) /\ i_100 + (1 : Int) < (↑n2 : Int)) (.obt (.next [some (some 0), some (some 1), some (some 2)] (S76.L0 (i64.wrap (i_100 + 1)) (F126_0 (elV [Ty.int i64, Ty.int i64] f2) x4 i_100 x5 x6 x7 x8)) [])))))) (.next [some (some 0), some (some 1), some (some 2)] (S76.L0 (i64.wrap (i_100 + 1)) (true)) [])))))))))))))))))))))) (.br (b_101) (.ret (V.int i64 1)) (.ret (V.int i64 0))))
def m76 (s0 : ByteArray) (x1 : Int) (n2 : Nat) (f2 : FnV) (x4 x5 x6 x7 x8 : Int) : RT S76 := .obc (.obt (.enter [some (some 2), some (some 1), some (some 0)] (S76.L0 (0) (false)) []))
theorem f76m (s0 : ByteArray) (x1 : Int) (n2 : Nat) (f2 : FnV) (x4 x5 x6 x7 x8 : Int) : fitT (D76 s0 x1 n2 f2 x4 x5 x6 x7 x8) (rl76 s0 x1 n2 f2 x4 x5 x6 x7 x8) (m76 s0 x1 n2 f2 x4 x5 x6 x7 x8) = toF (D76 s0 x1 n2 f2 x4 x5 x6 x7 x8) (m76 s0 x1 n2 f2 x4 x5 x6 x7 x8) := by kernel_rfl
theorem q76m (s0 : ByteArray) (x1 : Int) (n2 : Nat) (f2 : FnV) (x4 x5 x6 x7 x8 : Int) : sameT (rl76 s0 x1 n2 f2 x4 x5 x6 x7 x8) (m76 s0 x1 n2 f2 x4 x5 x6 x7 x8) = (rl76 s0 x1 n2 f2 x4 x5 x6 x7 x8) := by kernel_rfl
theorem f76_0 (s0 : ByteArray) (x1 : Int) (n2 : Nat) (f2 : FnV) (x4 x5 x6 x7 x8 i_100 : Int) (b_101 : Bool) : fitT (D76 s0 x1 n2 f2 x4 x5 x6 x7 x8) (rdS ctB22 u2 (D76 s0 x1 n2 f2 x4 x5 x6 x7 x8) (S76.L0 i_100 b_101)) (st76 s0 x1 n2 f2 x4 x5 x6 x7 x8 (S76.L0 i_100 b_101)) = toF (D76 s0 x1 n2 f2 x4 x5 x6 x7 x8) (st76 s0 x1 n2 f2 x4 x5 x6 x7 x8 (S76.L0 i_100 b_101)) := by kernel_rfl
theorem q76_0 (s0 : ByteArray) (x1 : Int) (n2 : Nat) (f2 : FnV) (x4 x5 x6 x7 x8 i_100 : Int) (b_101 : Bool) : sameT (rdS ctB22 u2 (D76 s0 x1 n2 f2 x4 x5 x6 x7 x8) (S76.L0 i_100 b_101)) (st76 s0 x1 n2 f2 x4 x5 x6 x7 x8 (S76.L0 i_100 b_101)) = rdS ctB22 u2 (D76 s0 x1 n2 f2 x4 x5 x6 x7 x8) (S76.L0 i_100 b_101) := by kernel_rfl
theorem run76 (w0 : World) (s0 : ByteArray) (x1 : Int) (n2 : Nat) (f2 : FnV) (x4 x5 x6 x7 x8 : Int) {r : V} (h : evR (Ev (st76 s0 x1 n2 f2 x4 x5 x6 x7 x8)) (m76 s0 x1 n2 f2 x4 x5 x6 x7 x8) r) : sat (LPof w0 (SV ctB22)) (runL (Nat × Nat) ctB22 u2 s76 [V.agg [V.str s0, V.int i64 x1, V.sl n2 (elV [Ty.int i64, Ty.int i64] f2), V.int i64 x4], V.agg [V.int i64 x5, V.int i64 x6, V.int i64 x7, V.int i64 x8]]) (topQ r) := run_ev (by kernel_rfl) (D76 s0 x1 n2 f2 x4 x5 x6 x7 x8) (st76 s0 x1 n2 f2 x4 x5 x6 x7 x8) _ (f76m s0 x1 n2 f2 x4 x5 x6 x7 x8) (q76m s0 x1 n2 f2 x4 x5 x6 x7 x8) (fun s => match s with | .L0 i_100 b_101 => f76_0 s0 x1 n2 f2 x4 x5 x6 x7 x8 i_100 b_101) (fun s => match s with | .L0 i_100 b_101 => q76_0 s0 x1 n2 f2 x4 x5 x6 x7 x8 i_100 b_101) h
def q76 (f2 : FnV) (x4 x5 x6 x7 x8 : Int) (ii : Nat) : Int := bif F124_0 (elV [Ty.int i64, Ty.int i64] f2) x4 (ii : Int) (F125_0 x5) (F125_1 x6) && (F124_0 (elV [Ty.int i64, Ty.int i64] f2) x4 (ii : Int) (F125_0 x7) (F125_1 x6) && (F124_0 (elV [Ty.int i64, Ty.int i64] f2) x4 (ii : Int) (F125_0 x7) (F125_1 x8) && F124_0 (elV [Ty.int i64, Ty.int i64] f2) x4 (ii : Int) (F125_0 x5) (F125_1 x8))) then 2 else bif F126_0 (elV [Ty.int i64, Ty.int i64] f2) x4 (ii : Int) x5 x6 x7 x8 then 1 else 0
def F76 (n2 : Nat) (f2 : FnV) (x4 x5 x6 x7 x8 : Int) : Int := maxTo (q76 f2 x4 x5 x6 x7 x8) (n2 - 1)
theorem q76_le (f2 : FnV) (x4 x5 x6 x7 x8 : Int) (ii : Nat) : q76 f2 x4 x5 x6 x7 x8 ii <= 2 := by
  unfold q76
  generalize (F124_0 (elV [Ty.int i64, Ty.int i64] f2) x4 (ii : Int) (F125_0 x5) (F125_1 x6) && (F124_0 (elV [Ty.int i64, Ty.int i64] f2) x4 (ii : Int) (F125_0 x7) (F125_1 x6) && (F124_0 (elV [Ty.int i64, Ty.int i64] f2) x4 (ii : Int) (F125_0 x7) (F125_1 x8) && F124_0 (elV [Ty.int i64, Ty.int i64] f2) x4 (ii : Int) (F125_0 x5) (F125_1 x8)))) = a
  generalize F126_0 (elV [Ty.int i64, Ty.int i64] f2) x4 (ii : Int) x5 x6 x7 x8 = c
  cases a <;> cases c <;> decide
theorem c76 (s0 : ByteArray) (x1 : Int) (n2 : Nat) (f2 : FnV) (x4 x5 x6 x7 x8 : Int) : ∀ i, i <= n2 - 1 -> ∀ b : Bool, maxTo (q76 f2 x4 x5 x6 x7 x8) i = (bif b then 1 else 0) -> Ev (st76 s0 x1 n2 f2 x4 x5 x6 x7 x8) (.L0 i b) (.int .i64 (F76 n2 f2 x4 x5 x6 x7 x8)) := by
  refine up_ind fun ii hi ih b hb => Ev.of rfl ?_
  by_cases hn : n2 <= 9223372036854775807
  case neg => exact evAsm fun h => absurd (h rfl) hn
  refine evAsm fun _ => ?_
  have w1 : i64.wrap ((ii : Int) + 1) = ((ii + 1 : Nat) : Int) := by rw [wrapI (by omega) (by omega)]; omega
  by_cases hlt : ii < n2 - 1
  · refine evBrT (decide_eq_true (by rw [w1]; omega)) ?_
    have hp : (0 : Int) <= (ii : Int) /\ i64.wrap ((ii : Int) + (1 : Int)) = (ii : Int) + (1 : Int) /\ (ii : Int) + (1 : Int) < (n2 : Int) := ⟨by omega, by rw [w1]; omega, by omega⟩
    have hih : ∀ b' : Bool, max (maxTo (q76 f2 x4 x5 x6 x7 x8) ii) (q76 f2 x4 x5 x6 x7 x8 ii) = (bif b' then 1 else 0) -> Ev (st76 s0 x1 n2 f2 x4 x5 x6 x7 x8) (.L0 (i64.wrap ((ii : Int) + 1)) b') (.int .i64 (F76 n2 f2 x4 x5 x6 x7 x8)) := fun b' h => by rw [w1]; exact ih hlt b' h
    have h2 : q76 f2 x4 x5 x6 x7 x8 ii = 2 -> F76 n2 f2 x4 x5 x6 x7 x8 = 2 := fun h => maxTo_top (q76_le f2 x4 x5 x6 x7 x8) hlt h
    rw [hb] at hih
    unfold q76 at hih h2
    clear ih w1 hb
    generalize hF : F76 n2 f2 x4 x5 x6 x7 x8 = r at *
    generalize hc0 : F124_0 (elV [Ty.int i64, Ty.int i64] f2) x4 (ii : Int) (F125_0 x5) (F125_1 x6) = c0 at *
    generalize hc1 : F124_0 (elV [Ty.int i64, Ty.int i64] f2) x4 (ii : Int) (F125_0 x7) (F125_1 x6) = c1 at *
    generalize hc2 : F124_0 (elV [Ty.int i64, Ty.int i64] f2) x4 (ii : Int) (F125_0 x7) (F125_1 x8) = c2 at *
    generalize hc3 : F124_0 (elV [Ty.int i64, Ty.int i64] f2) x4 (ii : Int) (F125_0 x5) (F125_1 x8) = c3 at *
    generalize ht : F126_0 (elV [Ty.int i64, Ty.int i64] f2) x4 (ii : Int) x5 x6 x7 x8 = t at *
    clear hc0 hc1 hc2 hc3 ht hF
    cases b <;> cases t <;> cases c0 <;> (repeat' (first | (exact evNext (hih true rfl)) | (exact evNext (hih false rfl)) | exact evRet (by rw [h2 rfl]) | refine evObi ?_ | refine evObc ?_ | refine evObt ?_ | refine evOb rfl ?_ | refine evObp hp ?_ | refine evBrt ?_ | refine evBrf ?_ | refine evBrT rfl ?_ | refine evBrF rfl ?_))
    all_goals (cases c1 <;> (repeat' (first | (exact evNext (hih true rfl)) | (exact evNext (hih false rfl)) | exact evRet (by rw [h2 rfl]) | refine evObi ?_ | refine evObc ?_ | refine evObt ?_ | refine evOb rfl ?_ | refine evObp hp ?_ | refine evBrt ?_ | refine evBrf ?_ | refine evBrT rfl ?_ | refine evBrF rfl ?_)))
    all_goals (cases c2 <;> (repeat' (first | (exact evNext (hih true rfl)) | (exact evNext (hih false rfl)) | exact evRet (by rw [h2 rfl]) | refine evObi ?_ | refine evObc ?_ | refine evObt ?_ | refine evOb rfl ?_ | refine evObp hp ?_ | refine evBrt ?_ | refine evBrf ?_ | refine evBrT rfl ?_ | refine evBrF rfl ?_)))
    all_goals (cases c3 <;> (repeat' (first | (exact evNext (hih true rfl)) | (exact evNext (hih false rfl)) | exact evRet (by rw [h2 rfl]) | refine evObi ?_ | refine evObc ?_ | refine evObt ?_ | refine evOb rfl ?_ | refine evObp hp ?_ | refine evBrt ?_ | refine evBrf ?_ | refine evBrT rfl ?_ | refine evBrF rfl ?_)))
  · refine evBrF (decide_eq_false (by rw [w1]; omega)) ?_
    have : ii = n2 - 1 := by omega
    subst this
    unfold F76
    rw [hb]
    cases b
    · exact evBrF rfl (evRet rfl)
    · exact evBrT rfl (evRet rfl)
theorem ev76_0 (s0 : ByteArray) (x1 : Int) (n2 : Nat) (f2 : FnV) (x4 x5 x6 x7 x8 : Int) : evR (Ev (st76 s0 x1 n2 f2 x4 x5 x6 x7 x8)) (m76 s0 x1 n2 f2 x4 x5 x6 x7 x8) (.int .i64 (F76 n2 f2 x4 x5 x6 x7 x8)) := evObc (evObt (evEnter (c76 s0 x1 n2 f2 x4 x5 x6 x7 x8 0 (Nat.zero_le _) false rfl)))
theorem ev76 (s0 : ByteArray) (x1 : Int) (n2 : Nat) (f2 : FnV) (x4 x5 x6 x7 x8 : Int) : evR (Ev (st76 s0 x1 n2 f2 x4 x5 x6 x7 x8)) (m76 s0 x1 n2 f2 x4 x5 x6 x7 x8) (.int .i64 (F76 n2 (elV [.int .i64, .int .i64] f2) x4 x5 x6 x7 x8)) := ev76_0 s0 x1 n2 f2 x4 x5 x6 x7 x8
def C76 : PCon := mkC [.agg tyR, .agg [.int .i64, .int .i64, .int .i64, .int .i64]] (fun _ => True) fun
  | [.agg [.str s0, .int _ x1, .sl n2 f2, .int _ x4], .agg [.int _ x5, .int _ x6, .int _ x7, .int _ x8]] => .int .i64 (F76 n2 f2 x4 x5 x6 x7 x8)
  | _ => .any
theorem ok76 : (vP C76).Ok Tryz.prog 76 := mkC_ev (J := Nat × Nat) (un := u2) tabB22 hE hI Tryz.func76 (by kernel_rfl) (by kernel_rfl) (by kernel_rfl) rfl (fun w0 ds hp => run76 w0 _ _ _ _ _ _ _ _ _ (ev76 _ _ _ _ _ _ _ _ _))
end
end Go.Dx
namespace Go.Dx
open Go.IntKind (i64 u64 u8)
open Go.Sx Go.Proofs
set_option maxRecDepth 100000
set_option linter.unusedVariables false
set_option linter.unusedSimpArgs false
noncomputable section
def ctB23 : CTab := (76, .con C76) :: ctB22
theorem tabB23 : TabOk Tryz.prog eqs its ctB23 := .con ok76 (tabB22)
attribute [local irreducible] F44 F50_0 F91_0
def m26 (n0 : Nat) (f0 : FnV) (n2 : Nat) (f2 : FnV) (n4 : Nat) (f4 : FnV) (n6 : Nat) (f6 : FnV) (x8 x9 x10 : Int) : RT Empty := .asm (true = true -> n0 <= 9223372036854775807) (.obp ((∀ (i : Nat), i < n0 -> (sv (hdV (f0 i))).size <= (9223372036854775807 : Nat)) /\ ∀ (i : Nat), i < n6 -> (sv (hdV (f6 i))).size <= (9223372036854775807 : Nat)) (.obt (.br (F50_0 n0 (elV tyR f0) n2 (elV tyT f2) n4 (elV tyF f4) n6 (elV tyC f6) x8 (↑n0 : Int) == 0) (.ob (F50_0 n0 (elV tyR f0) n2 (elV tyT f2) n4 (elV tyF f4) n6 (elV tyC f6) x8 (↑n0 : Int) == 0) (.ob (F50_0 n0 (elV tyR f0) n2 (elV tyT f2) n4 (elV tyF f4) n6 (elV tyC f6) x8 (↑n0 : Int) == 0) (.obc (.obt (.br (!F51 2 (elV [Ty.int i64] (secF [V.int i64 x9, V.int i64 x10] 0 ((1 + 1 - 0) / 2)))) (.brt (.ret (V.tup [V.kb false, V.int i64 7]))) (.br (F50_0 n0 (elV tyR f0) n2 (elV tyT f2) n4 (elV tyF f4) n6 (elV tyC f6) x8 (↑n0 : Int) != 0) (.ret (V.tup [V.kb false, V.int i64 (F50_0 n0 (elV tyR f0) n2 (elV tyT f2) n4 (elV tyF f4) n6 (elV tyC f6) x8 (↑n0 : Int))])) (.ob (decide (0 <= x8 /\ x8 < (↑n0 : Int))) (.obc (.obt (.ret (V.tup [V.bool (F75 (lenV (hdV (tlV (tlV (f0 x8.toNat))))) (fun i => views [Ty.int i64, Ty.int i64] (atV (hdV (tlV (tlV (f0 x8.toNat)))) i)) (iv (hdV (tlV (tlV (tlV (f0 x8.toNat)))))) x9 x10), V.int i64 0]))))))))))) (.br (F50_0 n0 (elV tyR f0) n2 (elV tyT f2) n4 (elV tyF f4) n6 (elV tyC f6) x8 (↑n0 : Int) != 0) (.ret (V.tup [V.kb false, V.int i64 (F50_0 n0 (elV tyR f0) n2 (elV tyT f2) n4 (elV tyF f4) n6 (elV tyC f6) x8 (↑n0 : Int))])) (.ob (decide (0 <= x8 /\ x8 < (↑n0 : Int))) (.obc (.obt (.ret (V.tup [V.bool (F75 (lenV (hdV (tlV (tlV (f0 x8.toNat))))) (fun i => views [Ty.int i64, Ty.int i64] (atV (hdV (tlV (tlV (f0 x8.toNat)))) i)) (iv (hdV (tlV (tlV (tlV (f0 x8.toNat)))))) x9 x10), V.int i64 0])))))))))
def rl26 (n0 : Nat) (f0 : FnV) (n2 : Nat) (f2 : FnV) (n4 : Nat) (f4 : FnV) (n6 : Nat) (f6 : FnV) (x8 x9 x10 : Int) : T (Leaf (Nat × Nat)) := runL (Nat × Nat) ctB23 u0 s26 [scV n0 f0 n2 f2 n4 f4 n6 f6, V.int i64 x8, V.int i64 x9, V.int i64 x10]
theorem f26m (n0 : Nat) (f0 : FnV) (n2 : Nat) (f2 : FnV) (n4 : Nat) (f4 : FnV) (n6 : Nat) (f6 : FnV) (x8 x9 x10 : Int) : fitT noD (rl26 n0 f0 n2 f2 n4 f4 n6 f6 x8 x9 x10) (m26 n0 f0 n2 f2 n4 f4 n6 f6 x8 x9 x10) = toF noD (m26 n0 f0 n2 f2 n4 f4 n6 f6 x8 x9 x10) := by kernel_rfl
theorem q26m (n0 : Nat) (f0 : FnV) (n2 : Nat) (f2 : FnV) (n4 : Nat) (f4 : FnV) (n6 : Nat) (f6 : FnV) (x8 x9 x10 : Int) : sameT (rl26 n0 f0 n2 f2 n4 f4 n6 f6 x8 x9 x10) (m26 n0 f0 n2 f2 n4 f4 n6 f6 x8 x9 x10) = (rl26 n0 f0 n2 f2 n4 f4 n6 f6 x8 x9 x10) := by kernel_rfl
theorem run26 (w0 : World) (n0 : Nat) (f0 : FnV) (n2 : Nat) (f2 : FnV) (n4 : Nat) (f4 : FnV) (n6 : Nat) (f6 : FnV) (x8 x9 x10 : Int) {r : V} (h : evR noE (m26 n0 f0 n2 f2 n4 f4 n6 f6 x8 x9 x10) r) : sat (LPof w0 (SV ctB23)) (runL (Nat × Nat) ctB23 u0 s26 [scV n0 f0 n2 f2 n4 f4 n6 f6, V.int i64 x8, V.int i64 x9, V.int i64 x10]) (topQ r) := run_ev0 (by kernel_rfl) _ (f26m n0 f0 n2 f2 n4 f4 n6 f6 x8 x9 x10) (q26m n0 f0 n2 f2 n4 f4 n6 f6 x8 x9 x10) h
def F26_0 (n0 : Nat) (f0 : FnV) (n2 : Nat) (f2 : FnV) (n4 : Nat) (f4 : FnV) (n6 : Nat) (f6 : FnV) (x8 x9 x10 : Int) : Bool := bif F50_0 n0 (elV tyR f0) n2 (elV tyT f2) n4 (elV tyF f4) n6 (elV tyC f6) x8 (↑n0 : Int) == 0 then bif !F51 2 (elV [Ty.int i64] (secF [V.int i64 x9, V.int i64 x10] 0 ((1 + 1 - 0) / 2))) then false else bif F50_0 n0 (elV tyR f0) n2 (elV tyT f2) n4 (elV tyF f4) n6 (elV tyC f6) x8 (↑n0 : Int) != 0 then false else F75 (lenV (hdV (tlV (tlV (f0 x8.toNat))))) (fun i => views [Ty.int i64, Ty.int i64] (atV (hdV (tlV (tlV (f0 x8.toNat)))) i)) (iv (hdV (tlV (tlV (tlV (f0 x8.toNat)))))) x9 x10 else bif F50_0 n0 (elV tyR f0) n2 (elV tyT f2) n4 (elV tyF f4) n6 (elV tyC f6) x8 (↑n0 : Int) != 0 then false else F75 (lenV (hdV (tlV (tlV (f0 x8.toNat))))) (fun i => views [Ty.int i64, Ty.int i64] (atV (hdV (tlV (tlV (f0 x8.toNat)))) i)) (iv (hdV (tlV (tlV (tlV (f0 x8.toNat)))))) x9 x10
def F26_1 (n0 : Nat) (f0 : FnV) (n2 : Nat) (f2 : FnV) (n4 : Nat) (f4 : FnV) (n6 : Nat) (f6 : FnV) (x8 x9 x10 : Int) : Int := bif F50_0 n0 (elV tyR f0) n2 (elV tyT f2) n4 (elV tyF f4) n6 (elV tyC f6) x8 (↑n0 : Int) == 0 then bif !F51 2 (elV [Ty.int i64] (secF [V.int i64 x9, V.int i64 x10] 0 ((1 + 1 - 0) / 2))) then 7 else bif F50_0 n0 (elV tyR f0) n2 (elV tyT f2) n4 (elV tyF f4) n6 (elV tyC f6) x8 (↑n0 : Int) != 0 then F50_0 n0 (elV tyR f0) n2 (elV tyT f2) n4 (elV tyF f4) n6 (elV tyC f6) x8 (↑n0 : Int) else 0 else bif F50_0 n0 (elV tyR f0) n2 (elV tyT f2) n4 (elV tyF f4) n6 (elV tyC f6) x8 (↑n0 : Int) != 0 then F50_0 n0 (elV tyR f0) n2 (elV tyT f2) n4 (elV tyF f4) n6 (elV tyC f6) x8 (↑n0 : Int) else 0
def R26 (n0 : Nat) (f0 : FnV) (n2 : Nat) (f2 : FnV) (n4 : Nat) (f4 : FnV) (n6 : Nat) (f6 : FnV) (x8 x9 x10 : Int) : V := .tup [.bool (F26_0 n0 f0 n2 f2 n4 f4 n6 f6 x8 x9 x10), .int i64 (F26_1 n0 f0 n2 f2 n4 f4 n6 f6 x8 x9 x10)]
theorem ev26 (n0 : Nat) (f0 : FnV) (n2 : Nat) (f2 : FnV) (n4 : Nat) (f4 : FnV) (n6 : Nat) (f6 : FnV) (x8 x9 x10 : Int) (hp : SzOk n0 f0 /\ SzOk n6 f6) : evR noE (m26 n0 f0 n2 f2 n4 f4 n6 f6 x8 x9 x10) (R26 n0 f0 n2 f2 n4 f4 n6 f6 x8 x9 x10) := evAsm (fun a0 => evObp (by first | assumption | ((first | exact hp | exact ⟨hp, rfl, by decide⟩ | (simp_all [cond_eq_ite] <;> first | omega | exact (k44_4 (by assumption) (by assumption) h0).1 | exact (k44_4 (by assumption) (by assumption) h0).2 | exact k44_2 (by assumption) h0 | exact k44_2 (by assumption) h1 | exact k50 h0 | exact k50 h1 | exact k50 hc.1 | exact k44_2 (by assumption) hc)))) (evObt (evBr (fun h0 => evOb (by first | assumption | ((simp_all [cond_eq_ite] <;> first | omega | exact (k44_4 (by assumption) (by assumption) h0).1 | exact (k44_4 (by assumption) (by assumption) h0).2 | exact k44_2 (by assumption) h0 | exact k44_2 (by assumption) h1 | exact k50 h0 | exact k50 h1 | exact k50 hc.1 | exact k44_2 (by assumption) hc))) (evOb (by first | assumption | ((simp_all [cond_eq_ite] <;> first | omega | exact (k44_4 (by assumption) (by assumption) h0).1 | exact (k44_4 (by assumption) (by assumption) h0).2 | exact k44_2 (by assumption) h0 | exact k44_2 (by assumption) h1 | exact k50 h0 | exact k50 h1 | exact k50 hc.1 | exact k44_2 (by assumption) hc))) (evObc (evObt (evBr (fun h1 => evBrt (evRet (by unfold R26 F26_0 F26_1; try rw [h0]; try rw [h1]; rfl))) (fun h1 => evBr (fun h2 => evRet (by unfold R26 F26_0 F26_1; try rw [h0]; try rw [h1]; try rw [h2]; rfl)) (fun h2 => evOb (by first | assumption | ((simp_all [cond_eq_ite] <;> first | omega | exact (k44_4 (by assumption) (by assumption) h0).1 | exact (k44_4 (by assumption) (by assumption) h0).2 | exact k44_2 (by assumption) h0 | exact k44_2 (by assumption) h1 | exact k50 h0 | exact k50 h1 | exact k50 hc.1 | exact k44_2 (by assumption) hc))) (evObc (evObt (evRet (by unfold R26 F26_0 F26_1; try rw [h0]; try rw [h1]; try rw [h2]; rfl))))))))))) (fun h0 => evBr (fun h1 => evRet (by unfold R26 F26_0 F26_1; try rw [h0]; try rw [h1]; rfl)) (fun h1 => evOb (by first | assumption | ((simp_all [cond_eq_ite] <;> first | omega | exact (k44_4 (by assumption) (by assumption) h0).1 | exact (k44_4 (by assumption) (by assumption) h0).2 | exact k44_2 (by assumption) h0 | exact k44_2 (by assumption) h1 | exact k50 h0 | exact k50 h1 | exact k50 hc.1 | exact k44_2 (by assumption) hc))) (evObc (evObt (evRet (by unfold R26 F26_0 F26_1; try rw [h0]; try rw [h1]; rfl)))))))))
def C26 : PCon := mkC [.agg [.sl tyR, .sl tyT, .sl tyF, .sl tyC], .int .i64, .int .i64, .int .i64] (fun
  | [.agg [.sl n0 f0, .sl n2 f2, .sl n4 f4, .sl n6 f6], .int _ x8, .int _ x9, .int _ x10] => SzOk n0 f0 /\ SzOk n6 f6
  | _ => False) fun
  | [.agg [.sl n0 f0, .sl n2 f2, .sl n4 f4, .sl n6 f6], .int _ x8, .int _ x9, .int _ x10] => R26 n0 f0 n2 f2 n4 f4 n6 f6 x8 x9 x10
  | _ => .any
theorem ok26 : (vP C26).Ok Tryz.prog 26 := mkC_ev (J := Nat × Nat) (un := u0) tabB23 hE hI Tryz.func26 (by kernel_rfl) (by kernel_rfl) (by kernel_rfl) rfl (fun w0 ds hp => run26 w0 _ _ _ _ _ _ _ _ _ _ _ (ev26 _ _ _ _ _ _ _ _ _ _ _ hp))
def m27 (n0 : Nat) (f0 : FnV) (n2 : Nat) (f2 : FnV) (n4 : Nat) (f4 : FnV) (n6 : Nat) (f6 : FnV) (x8 x9 x10 x11 x12 : Int) : RT Empty := .asm (true = true -> n0 <= 9223372036854775807) (.obp ((∀ (i : Nat), i < n0 -> (sv (hdV (f0 i))).size <= (9223372036854775807 : Nat)) /\ ∀ (i : Nat), i < n6 -> (sv (hdV (f6 i))).size <= (9223372036854775807 : Nat)) (.obt (.br (F50_0 n0 (elV tyR f0) n2 (elV tyT f2) n4 (elV tyF f4) n6 (elV tyC f6) x8 (↑n0 : Int) == 0) (.ob (F50_0 n0 (elV tyR f0) n2 (elV tyT f2) n4 (elV tyF f4) n6 (elV tyC f6) x8 (↑n0 : Int) == 0) (.obc (.obt (.br (!F58_0 x9 x10 x11 x12) (.brt (.ret (V.tup [V.int i64 0, V.int i64 7]))) (.br (F50_0 n0 (elV tyR f0) n2 (elV tyT f2) n4 (elV tyF f4) n6 (elV tyC f6) x8 (↑n0 : Int) != 0) (.ret (V.tup [V.int i64 0, V.int i64 (F50_0 n0 (elV tyR f0) n2 (elV tyT f2) n4 (elV tyF f4) n6 (elV tyC f6) x8 (↑n0 : Int))])) (.ob (decide (0 <= x8 /\ x8 < (↑n0 : Int))) (.obc (.obt (.ret (V.tup [V.int i64 (F76 (lenV (hdV (tlV (tlV (f0 x8.toNat))))) (fun i => views [Ty.int i64, Ty.int i64] (atV (hdV (tlV (tlV (f0 x8.toNat)))) i)) (iv (hdV (tlV (tlV (tlV (f0 x8.toNat)))))) x9 x10 x11 x12), V.int i64 0])))))))))) (.br (F50_0 n0 (elV tyR f0) n2 (elV tyT f2) n4 (elV tyF f4) n6 (elV tyC f6) x8 (↑n0 : Int) != 0) (.ret (V.tup [V.int i64 0, V.int i64 (F50_0 n0 (elV tyR f0) n2 (elV tyT f2) n4 (elV tyF f4) n6 (elV tyC f6) x8 (↑n0 : Int))])) (.ob (decide (0 <= x8 /\ x8 < (↑n0 : Int))) (.obc (.obt (.ret (V.tup [V.int i64 (F76 (lenV (hdV (tlV (tlV (f0 x8.toNat))))) (fun i => views [Ty.int i64, Ty.int i64] (atV (hdV (tlV (tlV (f0 x8.toNat)))) i)) (iv (hdV (tlV (tlV (tlV (f0 x8.toNat)))))) x9 x10 x11 x12), V.int i64 0])))))))))
def rl27 (n0 : Nat) (f0 : FnV) (n2 : Nat) (f2 : FnV) (n4 : Nat) (f4 : FnV) (n6 : Nat) (f6 : FnV) (x8 x9 x10 x11 x12 : Int) : T (Leaf (Nat × Nat)) := runL (Nat × Nat) ctB23 u0 s27 [scV n0 f0 n2 f2 n4 f4 n6 f6, V.int i64 x8, V.agg [V.int i64 x9, V.int i64 x10, V.int i64 x11, V.int i64 x12]]
theorem f27m (n0 : Nat) (f0 : FnV) (n2 : Nat) (f2 : FnV) (n4 : Nat) (f4 : FnV) (n6 : Nat) (f6 : FnV) (x8 x9 x10 x11 x12 : Int) : fitT noD (rl27 n0 f0 n2 f2 n4 f4 n6 f6 x8 x9 x10 x11 x12) (m27 n0 f0 n2 f2 n4 f4 n6 f6 x8 x9 x10 x11 x12) = toF noD (m27 n0 f0 n2 f2 n4 f4 n6 f6 x8 x9 x10 x11 x12) := by kernel_rfl
theorem q27m (n0 : Nat) (f0 : FnV) (n2 : Nat) (f2 : FnV) (n4 : Nat) (f4 : FnV) (n6 : Nat) (f6 : FnV) (x8 x9 x10 x11 x12 : Int) : sameT (rl27 n0 f0 n2 f2 n4 f4 n6 f6 x8 x9 x10 x11 x12) (m27 n0 f0 n2 f2 n4 f4 n6 f6 x8 x9 x10 x11 x12) = (rl27 n0 f0 n2 f2 n4 f4 n6 f6 x8 x9 x10 x11 x12) := by kernel_rfl
theorem run27 (w0 : World) (n0 : Nat) (f0 : FnV) (n2 : Nat) (f2 : FnV) (n4 : Nat) (f4 : FnV) (n6 : Nat) (f6 : FnV) (x8 x9 x10 x11 x12 : Int) {r : V} (h : evR noE (m27 n0 f0 n2 f2 n4 f4 n6 f6 x8 x9 x10 x11 x12) r) : sat (LPof w0 (SV ctB23)) (runL (Nat × Nat) ctB23 u0 s27 [scV n0 f0 n2 f2 n4 f4 n6 f6, V.int i64 x8, V.agg [V.int i64 x9, V.int i64 x10, V.int i64 x11, V.int i64 x12]]) (topQ r) := run_ev0 (by kernel_rfl) _ (f27m n0 f0 n2 f2 n4 f4 n6 f6 x8 x9 x10 x11 x12) (q27m n0 f0 n2 f2 n4 f4 n6 f6 x8 x9 x10 x11 x12) h
def F27_0 (n0 : Nat) (f0 : FnV) (n2 : Nat) (f2 : FnV) (n4 : Nat) (f4 : FnV) (n6 : Nat) (f6 : FnV) (x8 x9 x10 x11 x12 : Int) : Int := bif F50_0 n0 (elV tyR f0) n2 (elV tyT f2) n4 (elV tyF f4) n6 (elV tyC f6) x8 (↑n0 : Int) == 0 then bif !F58_0 x9 x10 x11 x12 then 0 else bif F50_0 n0 (elV tyR f0) n2 (elV tyT f2) n4 (elV tyF f4) n6 (elV tyC f6) x8 (↑n0 : Int) != 0 then 0 else F76 (lenV (hdV (tlV (tlV (f0 x8.toNat))))) (fun i => views [Ty.int i64, Ty.int i64] (atV (hdV (tlV (tlV (f0 x8.toNat)))) i)) (iv (hdV (tlV (tlV (tlV (f0 x8.toNat)))))) x9 x10 x11 x12 else bif F50_0 n0 (elV tyR f0) n2 (elV tyT f2) n4 (elV tyF f4) n6 (elV tyC f6) x8 (↑n0 : Int) != 0 then 0 else F76 (lenV (hdV (tlV (tlV (f0 x8.toNat))))) (fun i => views [Ty.int i64, Ty.int i64] (atV (hdV (tlV (tlV (f0 x8.toNat)))) i)) (iv (hdV (tlV (tlV (tlV (f0 x8.toNat)))))) x9 x10 x11 x12
def F27_1 (n0 : Nat) (f0 : FnV) (n2 : Nat) (f2 : FnV) (n4 : Nat) (f4 : FnV) (n6 : Nat) (f6 : FnV) (x8 x9 x10 x11 x12 : Int) : Int := bif F50_0 n0 (elV tyR f0) n2 (elV tyT f2) n4 (elV tyF f4) n6 (elV tyC f6) x8 (↑n0 : Int) == 0 then bif !F58_0 x9 x10 x11 x12 then 7 else bif F50_0 n0 (elV tyR f0) n2 (elV tyT f2) n4 (elV tyF f4) n6 (elV tyC f6) x8 (↑n0 : Int) != 0 then F50_0 n0 (elV tyR f0) n2 (elV tyT f2) n4 (elV tyF f4) n6 (elV tyC f6) x8 (↑n0 : Int) else 0 else bif F50_0 n0 (elV tyR f0) n2 (elV tyT f2) n4 (elV tyF f4) n6 (elV tyC f6) x8 (↑n0 : Int) != 0 then F50_0 n0 (elV tyR f0) n2 (elV tyT f2) n4 (elV tyF f4) n6 (elV tyC f6) x8 (↑n0 : Int) else 0
def R27 (n0 : Nat) (f0 : FnV) (n2 : Nat) (f2 : FnV) (n4 : Nat) (f4 : FnV) (n6 : Nat) (f6 : FnV) (x8 x9 x10 x11 x12 : Int) : V := .tup [.int i64 (F27_0 n0 f0 n2 f2 n4 f4 n6 f6 x8 x9 x10 x11 x12), .int i64 (F27_1 n0 f0 n2 f2 n4 f4 n6 f6 x8 x9 x10 x11 x12)]
theorem ev27 (n0 : Nat) (f0 : FnV) (n2 : Nat) (f2 : FnV) (n4 : Nat) (f4 : FnV) (n6 : Nat) (f6 : FnV) (x8 x9 x10 x11 x12 : Int) (hp : SzOk n0 f0 /\ SzOk n6 f6) : evR noE (m27 n0 f0 n2 f2 n4 f4 n6 f6 x8 x9 x10 x11 x12) (R27 n0 f0 n2 f2 n4 f4 n6 f6 x8 x9 x10 x11 x12) := evAsm (fun a0 => evObp (by first | assumption | ((first | exact hp | exact ⟨hp, rfl, by decide⟩ | (simp_all [cond_eq_ite] <;> first | omega | exact (k44_4 (by assumption) (by assumption) h0).1 | exact (k44_4 (by assumption) (by assumption) h0).2 | exact k44_2 (by assumption) h0 | exact k44_2 (by assumption) h1 | exact k50 h0 | exact k50 h1 | exact k50 hc.1 | exact k44_2 (by assumption) hc)))) (evObt (evBr (fun h0 => evOb (by first | assumption | ((simp_all [cond_eq_ite] <;> first | omega | exact (k44_4 (by assumption) (by assumption) h0).1 | exact (k44_4 (by assumption) (by assumption) h0).2 | exact k44_2 (by assumption) h0 | exact k44_2 (by assumption) h1 | exact k50 h0 | exact k50 h1 | exact k50 hc.1 | exact k44_2 (by assumption) hc))) (evObc (evObt (evBr (fun h1 => evBrt (evRet (by unfold R27 F27_0 F27_1; try rw [h0]; try rw [h1]; rfl))) (fun h1 => evBr (fun h2 => evRet (by unfold R27 F27_0 F27_1; try rw [h0]; try rw [h1]; try rw [h2]; rfl)) (fun h2 => evOb (by first | assumption | ((simp_all [cond_eq_ite] <;> first | omega | exact (k44_4 (by assumption) (by assumption) h0).1 | exact (k44_4 (by assumption) (by assumption) h0).2 | exact k44_2 (by assumption) h0 | exact k44_2 (by assumption) h1 | exact k50 h0 | exact k50 h1 | exact k50 hc.1 | exact k44_2 (by assumption) hc))) (evObc (evObt (evRet (by unfold R27 F27_0 F27_1; try rw [h0]; try rw [h1]; try rw [h2]; rfl)))))))))) (fun h0 => evBr (fun h1 => evRet (by unfold R27 F27_0 F27_1; try rw [h0]; try rw [h1]; rfl)) (fun h1 => evOb (by first | assumption | ((simp_all [cond_eq_ite] <;> first | omega | exact (k44_4 (by assumption) (by assumption) h0).1 | exact (k44_4 (by assumption) (by assumption) h0).2 | exact k44_2 (by assumption) h0 | exact k44_2 (by assumption) h1 | exact k50 h0 | exact k50 h1 | exact k50 hc.1 | exact k44_2 (by assumption) hc))) (evObc (evObt (evRet (by unfold R27 F27_0 F27_1; try rw [h0]; try rw [h1]; rfl)))))))))
def C27 : PCon := mkC [.agg [.sl tyR, .sl tyT, .sl tyF, .sl tyC], .int .i64, .agg [.int .i64, .int .i64, .int .i64, .int .i64]] (fun
  | [.agg [.sl n0 f0, .sl n2 f2, .sl n4 f4, .sl n6 f6], .int _ x8, .agg [.int _ x9, .int _ x10, .int _ x11, .int _ x12]] => SzOk n0 f0 /\ SzOk n6 f6
  | _ => False) fun
  | [.agg [.sl n0 f0, .sl n2 f2, .sl n4 f4, .sl n6 f6], .int _ x8, .agg [.int _ x9, .int _ x10, .int _ x11, .int _ x12]] => R27 n0 f0 n2 f2 n4 f4 n6 f6 x8 x9 x10 x11 x12
  | _ => .any
theorem ok27 : (vP C27).Ok Tryz.prog 27 := mkC_ev (J := Nat × Nat) (un := u0) tabB23 hE hI Tryz.func27 (by kernel_rfl) (by kernel_rfl) (by kernel_rfl) rfl (fun w0 ds hp => run27 w0 _ _ _ _ _ _ _ _ _ _ _ _ _ (ev27 _ _ _ _ _ _ _ _ _ _ _ _ _ hp))
end
end Go.Dx
namespace Go.Dx
open Go.Sx
section
variable {J : Type}
def normR : V -> Leaf J -> Leaf J
  | .bool b, .res (.kb _) => .res (.kb b)
  | r, _ => .res r
theorem normR_ok (r : V) (a : Leaf J) : topQ r (normR r a) := by
  unfold normR; split <;> rfl
def norm (r : V) : T (Leaf J) -> T (Leaf J)
  | .ret a => .ret (normR r a)
  | .br b x y => match b with
    | true => .br true (norm r x) y
    | false => .br false x (norm r y)
  | .ob _ x => .ob true (norm r x)
  | .obi c d x => match c with
    | true => .obi true true (norm r x)
    | false => .obi false d (norm r x)
  | .obp _ x => .obp True (norm r x)
  | .obq a _ x => .obq a a (norm r x)
  | .fail _ => .ret (.res r)
  | .loop .. => .ret (.res r)
  | .all f => .all fun l => norm r (f l)
  | .und x y => .und (norm r x) (norm r y)
  | .asm p x => .asm p (norm r x)
theorem norm_sat {LP : LPred} (r : V) : ∀ t : T (Leaf J), sat LP (norm r t) (topQ r) := by
  intro t
  induction t with
  | ret a => exact normR_ok r a
  | br b x y hx hy =>
    cases b with
    | true => exact ⟨fun _ => hx, (fun e => by cases e)⟩
    | false => exact ⟨(fun e => by cases e), fun _ => hy⟩
  | ob b x hx => exact ⟨rfl, hx⟩
  | obi c d x hx =>
    cases c with
    | true => exact ⟨fun _ => rfl, hx⟩
    | false => exact ⟨(fun e => by cases e), hx⟩
  | obp p x hx => exact ⟨trivial, hx⟩
  | obq a b x hx => exact ⟨rfl, hx⟩
  | fail n => exact (rfl : toA r = toA r)
  | loop fr b e h g k hk => exact (rfl : toA r = toA r)
  | all f hf => exact fun l => hf l
  | und x y hx hy => exact ⟨hx, hy⟩
  | asm p x hx => exact fun _ => hx
theorem run_norm {ct : CTab} {un : Unr} {w0 : World} {sf : SFun} {ds : List V} {r : V} (h : norm r (runL J ct un sf ds) = runL J ct un sf ds) : sat (LPof w0 (SV ct)) (runL J ct un sf ds) (topQ r) := by
  rw [← h]; exact norm_sat r _
end
def mkCB (ts : List Ty) (pre : List V -> Bool) (r : List V -> V) : PCon := fun ds => cond (pre (unqs ts ds)) (some ((fxLs ts ds [], fxRs ts ds []), True, r (unqs ts ds))) none
theorem mkCB_ok {P : Program} {f : FuncId} {ts : List Ty} {pre : List V -> Prop} {preB : List V -> Bool} {r : List V -> V} (h : ∀ ds, preB ds = true -> pre ds) (hO : (vP (mkC ts pre r)).Ok P f) : (vP (mkCB ts preB r)).Ok P f := by
  refine ⟨fun B m lh w args vs K hrel hargs hsp => ?_, fun _ _ _ _ _ hk ⟨ds, d, p, r, h1, h2, h3, h4, h5⟩ => ⟨ds, d, p, r, h1, h2, h3, h4, hk _ _ h5⟩, fun _ _ _ _ ⟨_, _, _, _, _, _, _, _, h⟩ => h⟩
  refine hO.sound B m lh w args vs K hrel hargs ?_
  obtain ⟨ds, d, p, r', h1, h2, ⟨h30, h3⟩, h4, h5⟩ := hsp
  unfold mkCB at h2
  cases hb : preB (unqs ts ds) with
  | false => rw [hb] at h2; cases h2
  | true =>
    rw [hb] at h2
    simp only [cond_true, Option.some.injEq, Prod.mk.injEq] at h2
    obtain ⟨rfl, rfl, rfl⟩ := h2
    exact ⟨ds, _, _, _, h1, rfl, ⟨h30, h _ hb⟩, h4, h5⟩
def eqL (p : V -> V -> Bool) : List V -> List V -> Bool
  | [], [] => true
  | v :: vs, x :: xs => p v x && eqL p vs xs
  | _, _ => false
def eqD : Nat -> V -> V -> Bool
  | 0, _, _ => false
  | fu + 1, v, x => match v, x with
    | .int k a, .int k' b => decide (k = k') && decide (a = b)
    | .bool a, .bool b => a == b
    | .kb a, .bool b => a == b
    | .str a, .str b => decide (a.data.toList = b.data.toList)
    | .agg xs, .agg ys => eqL (eqD fu) xs ys
    | .sl n f, .sl m g => Nat.beq n m && allB n fun i => eqL (eqD fu) (f i) (g i) && (g i).all V.fc
    | .sq n _ f, .sl m g => Nat.beq n m && allB n fun i => eqL (eqD fu) (f i) (g i) && (g i).all V.fc
    | _, _ => false
theorem eqL_ok {w0 : World} {lh : List LObj} {p : V -> V -> Bool} (hp : ∀ v x a, p v x = true -> vr w0 lh Nu.nil v a -> vr w0 lh Nu.nil x a) : ∀ (vs xs : List V) (qs : List AVal), eqL p vs xs = true -> vrs w0 lh Nu.nil vs qs -> vrs w0 lh Nu.nil xs qs
  | [], [], qs, _, h => h
  | v :: vs, x :: xs, qs, h, h1 => by
    simp only [eqL, Bool.and_eq_true] at h
    simp only [vrs] at h1 ⊢
    obtain ⟨y, ys, rfl, h2, h3⟩ := h1
    exact ⟨y, ys, rfl, hp _ _ _ h.1 h2, eqL_ok hp vs xs ys h.2 h3⟩
  | [], _ :: _, _, h, _ => by simp [eqL] at h
  | _ :: _, [], _, h, _ => by simp [eqL] at h
theorem eqD_ok {w0 : World} {lh : List LObj} : ∀ (fu : Nat) (v x : V) (a : AVal), eqD fu v x = true -> vr w0 lh Nu.nil v a -> vr w0 lh Nu.nil x a
  | 0, v, x, a, h, _ => by simp [eqD] at h
  | fu + 1, v, x, a, h, hv => by
    simp only [eqD] at h
    split at h
    · simp only [Bool.and_eq_true, decide_eq_true_eq] at h; obtain ⟨rfl, rfl⟩ := h; exact hv
    · have := eq_of_beq h; subst this; exact hv
    · have := eq_of_beq h; subst this; simp only [vr] at hv ⊢; exact hv
    · rename_i s t
      have h0 := of_decide_eq_true h
      have : s = t := by
        cases s with | mk d =>
        cases t with | mk e =>
        have : d = e := Array.toList_inj.1 h0
        rw [this]
      subst this; exact hv
    · simp only [vr] at hv ⊢
      obtain ⟨qs, rfl, h2⟩ := hv
      exact ⟨qs, rfl, eqL_ok (fun v x a => eqD_ok fu v x a) _ _ _ h h2⟩
    · simp only [Bool.and_eq_true] at h
      have hn := Nat.eq_of_beq_eq_true h.1
      subst hn
      simp only [vr] at hv ⊢
      obtain ⟨p, c, esz, h1, h2, h3, h4, h5⟩ := hv
      refine ⟨p, c, esz, h1, h2, h3, h4, fun i hi => ?_⟩
      obtain ⟨q, qs, g1, g2, g3, g4⟩ := h5 i hi
      have hh := allB_ok h.2 i hi
      simp only [Bool.and_eq_true] at hh
      exact ⟨q, qs, g1, g2, eqL_ok (fun v x a => eqD_ok fu v x a) _ _ _ hh.1 g3, hh.2⟩
    · simp only [Bool.and_eq_true] at h
      have hn := Nat.eq_of_beq_eq_true h.1
      subst hn
      simp only [vr] at hv ⊢
      obtain ⟨p, c, esz, h1, h2, h3, h4, h5⟩ := hv
      refine ⟨p, c, esz, h1, h2.1, h3, h4, fun i hi => ?_⟩
      obtain ⟨q, qs, g1, g2, g3, g4⟩ := h5 i hi
      have hh := allB_ok h.2 i hi
      simp only [Bool.and_eq_true] at hh
      exact ⟨q, qs, g1, g2, eqL_ok (fun v x a => eqD_ok fu v x a) _ _ _ hh.1 g3, hh.2⟩
    · cases h
def atC : List (List V × V) -> PCon
  | [], _ => none
  | (ex, r) :: l, ds => cond (eqL (eqD 8) ds ex) (some (([], []), True, r)) (atC l ds)
theorem atC_ok {P : Program} {f : FuncId} {C : PCon} (hO : (vP C).Ok P f) : ∀ (l : List (List V × V)), (∀ e ∈ l, ∃ d p, C e.1 = some (d, p, e.2) /\ d.1 = d.2 /\ p) -> (vP (atC l)).Ok P f := by
  intro l hl
  refine ⟨fun B m lh w args vs K hrel hargs hsp => ?_, fun _ _ _ _ _ hk ⟨ds, d, p, r, h1, h2, h3, h4, h5⟩ => ⟨ds, d, p, r, h1, h2, h3, h4, hk _ _ h5⟩, fun _ _ _ _ ⟨_, _, _, _, _, _, _, _, h⟩ => h⟩
  refine hO.sound B m lh w args vs K hrel hargs ?_
  obtain ⟨ds, d, p, r', h1, h2, _, h4, h5⟩ := hsp
  induction l with
  | nil => simp [atC] at h2
  | cons e l ih =>
    simp only [atC] at h2
    cases hb : eqL (eqD 8) ds e.1 with
    | true =>
      rw [hb] at h2
      simp only [cond_true, Option.some.injEq, Prod.mk.injEq] at h2
      obtain ⟨_, _, rfl⟩ := h2
      obtain ⟨d', p', e1, e2, e3⟩ := hl e (List.mem_cons_self ..)
      exact ⟨e.1, d', p', _, eqL_ok (fun v x a => eqD_ok 8 v x a) _ _ _ hb h1, e1, ⟨e2, e3⟩, h4, h5⟩
    | false =>
      rw [hb] at h2
      exact ih (fun e he => hl e (List.mem_cons_of_mem _ he)) h2
end Go.Dx
namespace Go.Dx
open Go.Sx
theorem at1 {ts : List Ty} {pre : List V -> Prop} {r : List V -> V} {raw : List V} {res : V} (hp : pre (unqs ts (views ts raw))) (hr : r (unqs ts (views ts raw)) = res) : ∃ d p, mkC ts pre r (views ts raw) = some (d, p, res) /\ d.1 = d.2 /\ p :=
  ⟨_, _, by rw [mkC, hr], fxs_views ts raw [], hp⟩
theorem all2 {α : Type} {a : α} {l : List α} {Q : α -> Prop} (h : Q a) (hl : ∀ e ∈ l, Q e) : ∀ e ∈ a :: l, Q e := fun e he => by
  rcases List.mem_cons.1 he with rfl | he
  · exact h
  · exact hl e he
theorem all0 {α : Type} {Q : α -> Prop} : ∀ e ∈ ([] : List α), Q e := fun e he => by cases he
end Go.Dx
namespace Go.Dx
open Go.IntKind (i64 u64 u8)
open Go.Sx Go.Proofs
set_option maxRecDepth 100000
set_option linter.unusedVariables false
set_option linter.unusedSimpArgs false
noncomputable section
def ctB17 : CTab := ctB20
theorem tabB17 : TabOk Tryz.prog eqs its ctB17 := tabB20
def uB : Unr := fun _ => 1000
def szB (n : Nat) (f : Nat -> List V) : Bool := allB n fun i => Nat.ble (sv (hdV (f i))).size 9223372036854775807
theorem szB_ok {n : Nat} {f : Nat -> List V} (h : szB n f = true) : SzOk n f := fun i hi => Nat.le_of_ble_eq_true (allB_ok h i hi)
def exN1 : ByteArray := ⟨#[104, 105, 103, 104]⟩
def exN2 : ByteArray := ⟨#[122, 101, 98, 114, 97]⟩
def exN3 : ByteArray := ⟨#[99, 49]⟩
def vi (n : Int) : V := .int .i64 n
def exR : Nat -> List V
  | 0 => [.str exN1, vi 0, .sl 3 (fun | 0 => [vi 0, vi 0] | 1 => [vi 10000, vi 0] | _ => [vi 10000, vi 10000]), vi 4000]
  | _ => [.str exN2, vi 3, .sl 2 (fun | 0 => [vi 5000, vi (-2000)] | _ => [vi 5000, vi 2000]), vi 3000]
def exT : Nat -> List V := fun _ => [vi 4000, vi 3000, vi 1000, vi 20, vi 40]
def exF : Nat -> List V := fun _ => [vi 10000, vi 5000, vi 0, vi 5000, .sl 1 fun _ => [vi 250, vi 750, vi 10, vi 30]]
def exK : Nat -> List V := fun _ => [.str exN3, vi 4000, vi 4000, vi 60, vi 0, vi (-1)]
def exS : V := .agg [.sl 2 exR, .sl 1 exT, .sl 1 exF, .sl 1 exK]
def ty44 : List Ty := [.agg [.sl tyR, .sl tyT, .sl tyF, .sl tyC], .sl [.int .i64]]
def AT44 : PCon := atC [(views ty44 [exS, .sl 2 (fun | 0 => [vi 0] | _ => [vi 1])], vi 0)]
theorem okA44 : (vP AT44).Ok Tryz.prog 44 := atC_ok ok44 _ (all2 (at1 (ts := ty44) (raw := [exS, .sl 2 (fun | 0 => [vi 0] | _ => [vi 1])]) (⟨⟨szB_ok (by kernel_rfl), szB_ok (by kernel_rfl)⟩, rfl, by decide⟩) (by kernel_rfl)) (all0))
def ty23 : List Ty := [.agg [.sl tyR, .sl tyT, .sl tyF, .sl tyC]]
def AT23 : PCon := atC [(views ty23 [.agg [.sl 0 exR, .sl 1 (fun _ => [vi 0, vi 0, vi 0, vi 0, vi 0]), .sl 0 exF, .sl 0 exK]], .tup [vi 2, vi 0, vi 7])]
theorem okA23 : (vP AT23).Ok Tryz.prog 23 := atC_ok ok23 _ (all2 (at1 (ts := ty23) (raw := [.agg [.sl 0 exR, .sl 1 (fun _ => [vi 0, vi 0, vi 0, vi 0, vi 0]), .sl 0 exF, .sl 0 exK]]) (⟨szB_ok (by kernel_rfl), szB_ok (by kernel_rfl)⟩) (by kernel_rfl)) (all0))
def ty22 : List Ty := [.agg [.sl tyR, .sl tyT, .sl tyF, .sl tyC], .int .i64, .agg [.int .i64, .int .i64, .int .i64, .int .i64]]
def AT22 : PCon := atC [(views ty22 [exS, vi 0, .agg [vi 8500, vi (-1500), vi 11500, vi 1500]], .tup [vi 1, vi 0])]
theorem okA22 : (vP AT22).Ok Tryz.prog 22 := atC_ok ok22 _ (all2 (at1 (ts := ty22) (raw := [exS, vi 0, .agg [vi 8500, vi (-1500), vi 11500, vi 1500]]) (⟨szB_ok (by kernel_rfl), szB_ok (by kernel_rfl)⟩) (by kernel_rfl)) (all0))
def ty15 : List Ty := [.agg [.sl tyR, .sl tyT, .sl tyF, .sl tyC], .int .i64, .int .i64, .int .i64]
def AT15 : PCon := atC [(views ty15 [exS, vi 0, vi 4000, vi 5000], .tup [vi (-1), vi 0])]
theorem okA15 : (vP AT15).Ok Tryz.prog 15 := atC_ok ok15 _ (all2 (at1 (ts := ty15) (raw := [exS, vi 0, vi 4000, vi 5000]) (⟨szB_ok (by kernel_rfl), szB_ok (by kernel_rfl)⟩) (by kernel_rfl)) (all0))
end
end Go.Dx
namespace Go.Dx
open Go.IntKind (i64 u64 u8)
open Go.Sx Go.Proofs
set_option maxRecDepth 100000
set_option linter.unusedVariables false
set_option linter.unusedSimpArgs false
noncomputable section
def ctB18 : CTab := [(44, .con AT44), (23, .con AT23), (22, .con AT22), (15, .con AT15), (25, .con C25), (55, .con C55), (61, .con C61), (74, .con C74), (108, .con C108), (46, .con C46), (111, .con C111), (56, .con C56), (47, .con C47), (145, .con C145), (140, .con C140), (49, .con C49), (123, .con C123), (124, .con C124), (50, .con C50), (91, .con C91), (24, .con C24), (70, .con C70), (62, .con C62), (68, .con C68), (63, .con C63), (69, .con C69), (117, .inl s117 u0), (116, .inl s116 u0), (115, .con C115), (114, .con C114), (73, .con C73), (147, .con C147), (64, .con C64), (66, .con C66), (113, .con C113), (65, .con C65), (67, .con C67), (53, .con C53), (58, .con C58), (122, .con C122), (72, .con C72), (45, .con C45), (90, .con C90), (119, .con C119), (121, .con C121), (99, .con C99), (129, .con C129), (148, .con C148), (149, .con C149), (112, .con C112), (118, .con C118), (120, .con C120), (51, .con C51), (133, .con C133), (103, .con C103), (106, .con C106), (100, .con C100), (150, .con C150), (134, .con C134), (135, .con C135), (137, .con C137), (138, .con C138), (78, .con C78), (54, .con C54), (59, .con C59), (48, .con C48), (102, .con C102), (171, .con C171), (84, .con C84), (85, .con C85), (127, .con C127), (101, .con C101), (86, .con C86), (71, .con C71), (93, .con C93), (92, .con C92), (79, .con C79), (136, .con C136), (144, .con C144), (125, .con C125), (162, .con C162), (146, .con C146), (83, .inl s83 u0), (19, .inl s19 uB), (17, .inl s17 uB), (43, .inl s43 uB), (57, .inl s57 uB), (109, .inl s109 uB), (139, .inl s139 uB), (163, .inl s163 uB), (177, .inl s177 uB), (141, .inl s141 uB), (142, .inl s142 uB), (143, .inl s143 uB), (131, .inl s131 uB), (161, .inl s161 uB)]
theorem tabB18 : TabOk Tryz.prog eqs its ctB18 := .con okA44 (.con okA23 (.con okA22 (.con okA15 (.con ok25 (.con ok55 (.con ok61 (.con ok74 (.con ok108 (.con ok46 (.con ok111 (.con ok56 (.con ok47 (.con ok145 (.con ok140 (.con ok49 (.con ok123 (.con ok124 (.con ok50 (.con ok91 (.con ok24 (.con ok70 (.con ok62 (.con ok68 (.con ok63 (.con ok69 (.inl Tryz.func117 (by kernel_rfl) (by kernel_rfl) (by kernel_rfl) (.inl Tryz.func116 (by kernel_rfl) (by kernel_rfl) (by kernel_rfl) (.con ok115 (.con ok114 (.con ok73 (.con ok147 (.con ok64 (.con ok66 (.con ok113 (.con ok65 (.con ok67 (.con ok53 (.con ok58 (.con ok122 (.con ok72 (.con ok45 (.con ok90 (.con ok119 (.con ok121 (.con ok99 (.con ok129 (.con ok148 (.con ok149 (.con ok112 (.con ok118 (.con ok120 (.con ok51 (.con ok133 (.con ok103 (.con ok106 (.con ok100 (.con ok150 (.con ok134 (.con ok135 (.con ok137 (.con ok138 (.con ok78 (.con ok54 (.con ok59 (.con ok48 (.con ok102 (.con ok171 (.con ok84 (.con ok85 (.con ok127 (.con ok101 (.con ok86 (.con ok71 (.con ok93 (.con ok92 (.con ok79 (.con ok136 (.con ok144 (.con ok125 (.con ok162 (.con ok146 (.inl Tryz.func83 (by kernel_rfl) (by kernel_rfl) (by kernel_rfl) (.inl Tryz.func19 (by kernel_rfl) (by kernel_rfl) (by kernel_rfl) (.inl Tryz.func17 (by kernel_rfl) (by kernel_rfl) (by kernel_rfl) (.inl Tryz.func43 (by kernel_rfl) (by kernel_rfl) (by kernel_rfl) (.inl Tryz.func57 (by kernel_rfl) (by kernel_rfl) (by kernel_rfl) (.inl Tryz.func109 (by kernel_rfl) (by kernel_rfl) (by kernel_rfl) (.inl Tryz.func139 (by kernel_rfl) (by kernel_rfl) (by kernel_rfl) (.inl Tryz.func163 (by kernel_rfl) (by kernel_rfl) (by kernel_rfl) (.inl Tryz.func177 (by kernel_rfl) (by kernel_rfl) (by kernel_rfl) (.inl Tryz.func141 (by kernel_rfl) (by kernel_rfl) (by kernel_rfl) (.inl Tryz.func142 (by kernel_rfl) (by kernel_rfl) (by kernel_rfl) (.inl Tryz.func143 (by kernel_rfl) (by kernel_rfl) (by kernel_rfl) (.inl Tryz.func131 (by kernel_rfl) (by kernel_rfl) (by kernel_rfl) (.inl Tryz.func161 (by kernel_rfl) (by kernel_rfl) (by kernel_rfl) (.nil))))))))))))))))))))))))))))))))))))))))))))))))))))))))))))))))))))))))))))))))))))))))))))))))
theorem run19 (w0 : World) : sat (LPof w0 (SV ctB18)) (runL (Nat × Nat) ctB18 uB s19 []) (topQ (.bool true)) := run_norm (by kernel_rfl)
def C19 : PCon := mkC [] (fun _ => True) fun _ => .bool true
theorem ok19 : (vP C19).Ok Tryz.prog 19 := mkC_ev (J := Nat × Nat) (un := uB) tabB18 hE hI Tryz.func19 (by kernel_rfl) (by kernel_rfl) (by kernel_rfl) rfl (fun w0 ds hp => run19 w0)
end
end Go.Dx
namespace Go.Dx
open Go.IntKind (i64 u64 u8)
open Go.Sx
noncomputable section
set_option linter.unusedSimpArgs false
set_option linter.unusedVariables false
theorem wrapU {x : Int} (h1 : 0 <= x) (h2 : x < 18446744073709551616) : u64.wrap x = x := IntWalk.u64_in _ (by omega)
theorem mulS {x y A B : Int} (h1 : -A <= x) (h2 : x <= A) (h3 : -B <= y) (h4 : y <= B) : -(A * B) <= x * y /\ x * y <= A * B := by
  have hA : 0 <= A := by omega
  have hB : 0 <= B := by omega
  by_cases hy : 0 <= y
  · have a1 : x * y <= A * y := Int.mul_le_mul_of_nonneg_right h2 hy
    have a2 : A * y <= A * B := Int.mul_le_mul_of_nonneg_left h4 hA
    have a3 : -A * y <= x * y := Int.mul_le_mul_of_nonneg_right h1 hy
    rw [Int.neg_mul] at a3
    exact ⟨by omega, by omega⟩
  · have hy' : 0 <= -y := by omega
    have a1 : x * (-y) <= A * (-y) := Int.mul_le_mul_of_nonneg_right h2 hy'
    have a2 : A * (-y) <= A * B := Int.mul_le_mul_of_nonneg_left (by omega) hA
    have a3 : -A * (-y) <= x * (-y) := Int.mul_le_mul_of_nonneg_right h1 hy'
    have b1 : x * (-y) = -(x * y) := Int.mul_neg _ _
    have b3 : -A * (-y) = -(A * (-y)) := Int.neg_mul _ _
    exact ⟨by omega, by omega⟩
theorem sqN (x : Int) : 0 <= x * x := by
  by_cases h : 0 <= x
  · exact Int.mul_nonneg h h
  · rw [← Int.neg_mul_neg]; exact Int.mul_nonneg (by omega) (by omega)
theorem parts {x : Int} (h0 : 0 <= x) (h1 : x < 18446744073709551616) : 0 <= x / 4294967296 /\ x / 4294967296 <= 4294967295 /\ 0 <= x % 4294967296 /\ x % 4294967296 <= 4294967295 := by omega
theorem hi_p {x y : Int} (hx0 : 0 <= x) (hx : x < 18446744073709551616) (hy0 : 0 <= y) (hy : y < 18446744073709551616) : F162_0 x y = x * y / 18446744073709551616 := by
  rw [← mul64_arith x y hx0 hx hy0 hy]
  unfold F162_0
  simp only [and_low32 _ hx0 hx, and_low32 _ hy0 hy, IntKind.wrap_u64]
  rw [and_low32 _ (by omega) (by omega)]
  simp only [show (2 : Int) ^ 32 = 4294967296 from rfl]
  rw [Int.fdiv_eq_ediv_of_nonneg _ (by omega), Int.fdiv_eq_ediv_of_nonneg _ (by omega), Int.fdiv_eq_ediv_of_nonneg _ (by omega), Int.fdiv_eq_ediv_of_nonneg _ (by omega), Int.fdiv_eq_ediv_of_nonneg _ (by omega)]
theorem lo_p (x y : Int) : F162_1 x y = x * y % 18446744073709551616 := by unfold F162_1; rw [IntKind.wrap_u64]
theorem hilo_r {x y : Int} (hx0 : 0 <= x) (hx : x < 18446744073709551616) (hy0 : 0 <= y) (hy : y < 18446744073709551616) : F138_0 x y = x * y / 18446744073709551616 /\ F138_1 x y = x * y % 18446744073709551616 := by
  unfold F138_0 F138_1
  rw [wrapU hx0 hx, wrapU hy0 hy]
  rw [Int.tdiv_eq_ediv_of_nonneg hx0, Int.tdiv_eq_ediv_of_nonneg hy0, Int.tmod_eq_emod_of_nonneg hx0, Int.tmod_eq_emod_of_nonneg hy0]
  have ex : x = x / 4294967296 * 4294967296 + x % 4294967296 := by omega
  have ey : y = y / 4294967296 * 4294967296 + y % 4294967296 := by omega
  generalize hx1 : x / 4294967296 = x1 at *
  generalize hx0' : x % 4294967296 = x0 at *
  generalize hy1 : y / 4294967296 = y1 at *
  generalize hy0' : y % 4294967296 = y0 at *
  have b1 : 0 <= x1 /\ x1 <= 4294967295 := by omega
  have b2 : 0 <= x0 /\ x0 <= 4294967295 := by omega
  have b3 : 0 <= y1 /\ y1 <= 4294967295 := by omega
  have b4 : 0 <= y0 /\ y0 <= 4294967295 := by omega
  have pA := prod_bound x1 y1 b1.1 b1.2 b3.1 b3.2
  have pB := prod_bound x1 y0 b1.1 b1.2 b4.1 b4.2
  have pC := prod_bound x0 y0 b2.1 b2.2 b4.1 b4.2
  have pD := prod_bound x0 y1 b2.1 b2.2 b3.1 b3.2
  have hxy : x * y = x1 * y1 * 18446744073709551616 + (x1 * y0 + x0 * y1) * 4294967296 + x0 * y0 := by rw [ex, ey]; exact split_mul x1 x0 y1 y0
  rw [hxy]
  rw [wrapU b1.1 (by omega), wrapU b3.1 (by omega)]
  generalize x1 * y1 = A at *
  generalize x1 * y0 = B at *
  generalize x0 * y0 = C at *
  generalize x0 * y1 = D at *
  rw [wrapU (x := A) (by omega) (by omega), wrapU (x := B) (by omega) (by omega), wrapU (x := C) (by omega) (by omega), wrapU (x := D) (by omega) (by omega)]
  rw [Int.tdiv_eq_ediv_of_nonneg (a := C) (by omega), Int.tmod_eq_emod_of_nonneg (a := C) (by omega)]
  rw [wrapU (x := C / 4294967296) (by omega) (by omega)]
  rw [wrapU (x := B + C / 4294967296) (by omega) (by omega)]
  rw [Int.tdiv_eq_ediv_of_nonneg (a := B + C / 4294967296) (by omega), Int.tmod_eq_emod_of_nonneg (a := B + C / 4294967296) (by omega)]
  rw [wrapU (x := (B + C / 4294967296) / 4294967296) (by omega) (by omega)]
  rw [wrapU (x := D + (B + C / 4294967296) % 4294967296) (by omega) (by omega)]
  rw [Int.tdiv_eq_ediv_of_nonneg (a := D + (B + C / 4294967296) % 4294967296) (by omega)]
  rw [wrapU (x := (D + (B + C / 4294967296) % 4294967296) / 4294967296) (by omega) (by omega)]
  simp only [IntKind.wrap_u64]
  constructor
  · omega
  · omega
theorem atMost_p {x y z w : Int} (hx0 : 0 <= x) (hx : x < 9223372036854775808) (hy0 : 0 <= y) (hy : y < 9223372036854775808) (hz0 : 0 <= z) (hz : z < 9223372036854775808) (hw0 : 0 <= w) (hw : w < 9223372036854775808) :
    F135_0 (F134_0 x y) (F134_1 x y) (F134_0 z w) (F134_1 z w) = decide (x * y <= z * w) := by
  unfold F134_0 F134_1 F135_0
  rw [wrapU hx0 (by omega), wrapU hy0 (by omega), wrapU hz0 (by omega), wrapU hw0 (by omega)]
  rw [hi_p hx0 (by omega) hy0 (by omega), hi_p hz0 (by omega) hw0 (by omega), lo_p, lo_p]
  generalize x * y = a
  generalize z * w = b
  rw [Bool.eq_iff_iff]
  simp only [Bool.cond_eq_ite, Bool.and_true, Bool.and_eq_true, beq_iff_eq, decide_eq_true_eq]
  split <;> (try split) <;> (try split) <;> simp_all <;> omega
theorem above_r {x y z w : Int} (hx0 : 0 <= x) (hx : x < 9223372036854775808) (hy0 : 0 <= y) (hy : y < 9223372036854775808) (hz0 : 0 <= z) (hz : z < 9223372036854775808) (hw0 : 0 <= w) (hw : w < 9223372036854775808) :
    (!F137_0 (F138_0 x y) (F138_1 x y) (F138_0 z w) (F138_1 z w)) = decide (x * y <= z * w) := by
  unfold F137_0
  rw [(hilo_r hx0 (by omega) hy0 (by omega)).1, (hilo_r hx0 (by omega) hy0 (by omega)).2, (hilo_r hz0 (by omega) hw0 (by omega)).1, (hilo_r hz0 (by omega) hw0 (by omega)).2]
  generalize x * y = a
  generalize z * w = b
  rw [Bool.eq_iff_iff]
  simp only [Bool.cond_eq_ite, Bool.not_eq_true', beq_iff_eq, decide_eq_true_eq]
  split <;> (try split) <;> simp_all <;> omega
def nr (ax ay bx by' px py r : Int) : Bool :=
  bif decide ((px - ax) * (bx - ax) + (py - ay) * (by' - ay) <= 0) then decide ((px - ax) * (px - ax) + (py - ay) * (py - ay) <= r * r)
  else bif decide ((bx - ax) * (bx - ax) + (by' - ay) * (by' - ay) <= (px - ax) * (bx - ax) + (py - ay) * (by' - ay)) then decide ((px - bx) * (px - bx) + (py - by') * (py - by') <= r * r)
  else decide (((bx - ax) * (py - ay) - (by' - ay) * (px - ax)) * ((bx - ax) * (py - ay) - (by' - ay) * (px - ax)) <= r * r * ((bx - ax) * (bx - ax) + (by' - ay) * (by' - ay)))
def sm (x : Int) : Prop := -536870912 <= x /\ x <= 536870912
theorem abs_sq (c : Int) : max c (0 - c) * max c (0 - c) = c * c := by
  by_cases h : 0 <= c
  · rw [show max c (0 - c) = c from by omega]
  · rw [show max c (0 - c) = -c from by omega, Int.neg_mul_neg]
section
variable {ax ay bx by' px py r : Int}
theorem near_p (h1 : sm ax) (h2 : sm ay) (h3 : sm bx) (h4 : sm by') (h5 : sm px) (h6 : sm py) (h7 : 0 <= r) (h8 : r <= 1073741824) : F103_0 ax ay bx by' px py r = nr ax ay bx by' px py r := by
  unfold sm at *
  unfold F103_0 nr F84_0 F84_1
  rw [wrapI (x := bx - ax) (by omega) (by omega), wrapI (x := by' - ay) (by omega) (by omega), wrapI (x := px - ax) (by omega) (by omega), wrapI (x := py - ay) (by omega) (by omega), wrapI (x := px - bx) (by omega) (by omega), wrapI (x := py - by') (by omega) (by omega)]
  have e1 : -1073741824 <= bx - ax /\ bx - ax <= 1073741824 := by omega
  have e2 : -1073741824 <= by' - ay /\ by' - ay <= 1073741824 := by omega
  have e3 : -1073741824 <= px - ax /\ px - ax <= 1073741824 := by omega
  have e4 : -1073741824 <= py - ay /\ py - ay <= 1073741824 := by omega
  have e5 : -1073741824 <= px - bx /\ px - bx <= 1073741824 := by omega
  have e6 : -1073741824 <= py - by' /\ py - by' <= 1073741824 := by omega
  generalize bx - ax = dx at *
  generalize by' - ay = dy at *
  generalize px - ax = ux at *
  generalize py - ay = uy at *
  generalize px - bx = vx at *
  generalize py - by' = vy at *
  have k : ∀ a b c d : Int, (-1073741824 <= a /\ a <= 1073741824) -> (-1073741824 <= b /\ b <= 1073741824) -> (-1073741824 <= c /\ c <= 1073741824) -> (-1073741824 <= d /\ d <= 1073741824) -> F85_0 a b c d = a * c + b * d /\ -2305843009213693952 <= a * c + b * d /\ a * c + b * d <= 2305843009213693952 := by
    intro a b c d ha hb hc hd
    have m1 := mulS ha.1 ha.2 hc.1 hc.2
    have m2 := mulS hb.1 hb.2 hd.1 hd.2
    unfold F85_0
    rw [wrapI (x := a * c) (by omega) (by omega), wrapI (x := b * d) (by omega) (by omega), wrapI (by omega) (by omega)]
    exact ⟨rfl, by omega, by omega⟩
  have hr := mulS (x := r) (y := r) (A := 1073741824) (B := 1073741824) (by omega) h8 (by omega) h8
  have hr0 : 0 <= r * r := Int.mul_nonneg h7 h7
  have s1 : 0 <= dx * dx := sqN dx
  have s2 : 0 <= dy * dy := sqN dy
  rw [(k ux uy dx dy e3 e4 e1 e2).1, (k ux uy ux uy e3 e4 e3 e4).1, (k dx dy dx dy e1 e2 e1 e2).1, (k vx vy vx vy e5 e6 e5 e6).1, wrapI (x := r * r) (by omega) (by omega)]
  have c1 := mulS e1.1 e1.2 e4.1 e4.2
  have c2 := mulS e2.1 e2.2 e3.1 e3.2
  have d1 := mulS e1.1 e1.2 e1.1 e1.2
  have d2 := mulS e2.1 e2.2 e2.1 e2.2
  rw [show F127_0 dx dy ux uy = dx * uy - dy * ux from by
    unfold F127_0
    rw [wrapI (x := dx * uy) (by omega) (by omega), wrapI (x := dy * ux) (by omega) (by omega), wrapI (by omega) (by omega)]]
  rw [wrapI (x := 0 - (dx * uy - dy * ux)) (by omega) (by omega)]
  rw [atMost_p (by omega) (by omega) (by omega) (by omega) hr0 (by omega) (by omega) (by omega), abs_sq]
theorem near_r (h1 : sm ax) (h2 : sm ay) (h3 : sm bx) (h4 : sm by') (h5 : sm px) (h6 : sm py) (h7 : 0 <= r) (h8 : r <= 1073741824) : F106_0 px py ax ay bx by' r = nr ax ay bx by' px py r := by
  unfold sm at *
  unfold F106_0 nr F93_0 F93_1
  rw [wrapI (x := bx - ax) (by omega) (by omega), wrapI (x := by' - ay) (by omega) (by omega), wrapI (x := px - ax) (by omega) (by omega), wrapI (x := py - ay) (by omega) (by omega), wrapI (x := px - bx) (by omega) (by omega), wrapI (x := py - by') (by omega) (by omega)]
  have e1 : -1073741824 <= bx - ax /\ bx - ax <= 1073741824 := by omega
  have e2 : -1073741824 <= by' - ay /\ by' - ay <= 1073741824 := by omega
  have e3 : -1073741824 <= px - ax /\ px - ax <= 1073741824 := by omega
  have e4 : -1073741824 <= py - ay /\ py - ay <= 1073741824 := by omega
  have e5 : -1073741824 <= px - bx /\ px - bx <= 1073741824 := by omega
  have e6 : -1073741824 <= py - by' /\ py - by' <= 1073741824 := by omega
  generalize bx - ax = dx at *
  generalize by' - ay = dy at *
  generalize px - ax = ux at *
  generalize py - ay = uy at *
  generalize px - bx = vx at *
  generalize py - by' = vy at *
  have k : ∀ a b c d : Int, (-1073741824 <= a /\ a <= 1073741824) -> (-1073741824 <= b /\ b <= 1073741824) -> (-1073741824 <= c /\ c <= 1073741824) -> (-1073741824 <= d /\ d <= 1073741824) -> F92_0 a b c d = a * c + b * d /\ -2305843009213693952 <= a * c + b * d /\ a * c + b * d <= 2305843009213693952 := by
    intro a b c d ha hb hc hd
    have m1 := mulS ha.1 ha.2 hc.1 hc.2
    have m2 := mulS hb.1 hb.2 hd.1 hd.2
    unfold F92_0
    rw [wrapI (x := a * c) (by omega) (by omega), wrapI (x := b * d) (by omega) (by omega), wrapI (by omega) (by omega)]
    exact ⟨rfl, by omega, by omega⟩
  have hr := mulS (x := r) (y := r) (A := 1073741824) (B := 1073741824) (by omega) h8 (by omega) h8
  have hr0 : 0 <= r * r := Int.mul_nonneg h7 h7
  have s1 : 0 <= dx * dx := sqN dx
  have s2 : 0 <= dy * dy := sqN dy
  rw [(k ux uy dx dy e3 e4 e1 e2).1, (k ux uy ux uy e3 e4 e3 e4).1, (k dx dy dx dy e1 e2 e1 e2).1, (k vx vy vx vy e5 e6 e5 e6).1, wrapI (x := r * r) (by omega) (by omega)]
  have c1 := mulS e1.1 e1.2 e4.1 e4.2
  have c2 := mulS e2.1 e2.2 e3.1 e3.2
  have d1 := mulS e1.1 e1.2 e1.1 e1.2
  have d2 := mulS e2.1 e2.2 e2.1 e2.2
  rw [show F79_0 dx dy ux uy = dx * uy - dy * ux from by
    unfold F79_0
    rw [wrapI (x := dx * uy) (by omega) (by omega), wrapI (x := dy * ux) (by omega) (by omega), wrapI (by omega) (by omega)]]
  unfold F136_0
  rw [wrapI (x := 0 - (dx * uy - dy * ux)) (by omega) (by omega)]
  rw [above_r (by omega) (by omega) (by omega) (by omega) hr0 (by omega) (by omega) (by omega), abs_sq]
end
end
end Go.Dx
namespace Go.Dx
open Go.IntKind (i64 u64 u8)
set_option linter.unusedVariables false
def sd (ax ay bx b2 px py : Int) : Int := (bx - ax) * (py - ay) - (b2 - ay) * (px - ax)
theorem boxB {a b m α β X0 X1 : Int} (hα : 0 <= α) (hβ : 0 <= β) (hs : 0 < α + β) (h1 : β * X0 <= m) (h2 : m <= β * X1) (e : α * a + m = α * b + β * b) : (b < X0 -> a <= b) /\ (X1 < b -> b <= a) := by
  constructor
  · intro hb
    have hp : β * b <= β * X0 := Int.mul_le_mul_of_nonneg_left (by omega) hβ
    by_cases h0 : α = 0
    · subst h0
      have hb0 : 0 < β := by omega
      have : β * b < β * X0 := Int.mul_lt_mul_of_pos_left hb hb0
      simp only [Int.zero_mul, Int.zero_add] at e; omega
    · have : α * a <= α * b := by omega
      exact Int.le_of_mul_le_mul_left this (by omega)
  · intro hb
    have hp : β * X1 <= β * b := Int.mul_le_mul_of_nonneg_left (by omega) hβ
    by_cases h0 : α = 0
    · subst h0
      have hb0 : 0 < β := by omega
      have : β * X1 < β * b := Int.mul_lt_mul_of_pos_left hb hb0
      simp only [Int.zero_mul, Int.zero_add] at e; omega
    · have : α * b <= α * a := by omega
      exact Int.le_of_mul_le_mul_left this (by omega)
section
variable {ax ay bx b2 X0 Y0 X1 Y1 : Int}
def Bx (ax ay bx b2 X0 Y0 X1 Y1 : Int) : Prop := ¬ (max ax bx < X0 ∨ X1 < min ax bx ∨ max ay b2 < Y0 ∨ Y1 < min ay b2)
def Out (px py X0 Y0 X1 Y1 : Int) : Prop := px < X0 ∨ X1 < px ∨ py < Y0 ∨ Y1 < py
def Btw (px py ax ay bx b2 : Int) : Prop := min ax bx <= px /\ px <= max ax bx /\ min ay b2 <= py /\ py <= max ay b2
theorem noB {α β mx my : Int} (hα : 0 <= α) (hβ : 0 <= β) (hs : 0 < α + β) (h1 : β * X0 <= mx) (h2 : mx <= β * X1) (h3 : β * Y0 <= my) (h4 : my <= β * Y1) (ex : α * ax + mx = α * bx + β * bx) (ey : α * ay + my = α * b2 + β * b2) (ho : Out bx b2 X0 Y0 X1 Y1) (hb : Bx ax ay bx b2 X0 Y0 X1 Y1) : False := by
  have k1 := boxB hα hβ hs h1 h2 ex
  have k2 := boxB hα hβ hs h3 h4 ey
  unfold Out at ho; unfold Bx at hb
  rcases ho with h | h | h | h
  · have := k1.1 h; omega
  · have := k1.2 h; omega
  · have := k2.1 h; omega
  · have := k2.2 h; omega
theorem bx_comm (h : Bx ax ay bx b2 X0 Y0 X1 Y1) : Bx bx b2 ax ay X0 Y0 X1 Y1 := by unfold Bx at *; omega
theorem cornB {cx cy : Int} (h1 : X0 <= cx) (h2 : cx <= X1) (h3 : Y0 <= cy) (h4 : cy <= Y1) (ha : Out ax ay X0 Y0 X1 Y1) (hb : Out bx b2 X0 Y0 X1 Y1) (hB : Bx ax ay bx b2 X0 Y0 X1 Y1) (hf : sd ax ay bx b2 cx cy = 0) : Btw cx cy ax ay bx b2 := by
  unfold sd at hf
  apply Classical.byContradiction
  intro hn
  have hn' : cx < min ax bx ∨ max ax bx < cx ∨ cy < min ay b2 ∨ max ay b2 < cy := by unfold Btw at hn; omega
  have bd : ∀ β : Int, 0 <= β -> β * X0 <= β * cx /\ β * cx <= β * X1 /\ β * Y0 <= β * cy /\ β * cy <= β * Y1 := fun β hβ => ⟨Int.mul_le_mul_of_nonneg_left h1 hβ, Int.mul_le_mul_of_nonneg_left h2 hβ, Int.mul_le_mul_of_nonneg_left h3 hβ, Int.mul_le_mul_of_nonneg_left h4 hβ⟩
  -- b between a and c, by weights
  have go1 : ∀ α β : Int, 0 <= α -> 0 <= β -> 0 < α + β -> α * ax + β * cx = α * bx + β * bx -> α * ay + β * cy = α * b2 + β * b2 -> False := fun α β p1 p2 p3 e1 e2 =>
    noB p1 p2 p3 (bd β p2).1 (bd β p2).2.1 (bd β p2).2.2.1 (bd β p2).2.2.2 e1 e2 hb hB
  have go2 : ∀ α β : Int, 0 <= α -> 0 <= β -> 0 < α + β -> α * bx + β * cx = α * ax + β * ax -> α * b2 + β * cy = α * ay + β * ay -> False := fun α β p1 p2 p3 e1 e2 =>
    noB p1 p2 p3 (bd β p2).1 (bd β p2).2.1 (bd β p2).2.2.1 (bd β p2).2.2.2 e1 e2 ha (bx_comm hB)
  rcases hn' with h | h | h | h
  · by_cases hx : ax <= bx
    · exact go2 (ax - cx) (bx - ax) (by omega) (by omega) (by omega) (by grind) (by grind)
    · exact go1 (bx - cx) (ax - bx) (by omega) (by omega) (by omega) (by grind) (by grind)
  · by_cases hx : ax <= bx
    · exact go1 (cx - bx) (bx - ax) (by omega) (by omega) (by omega) (by grind) (by grind)
    · exact go2 (cx - ax) (ax - bx) (by omega) (by omega) (by omega) (by grind) (by grind)
  · by_cases hx : ay <= b2
    · exact go2 (ay - cy) (b2 - ay) (by omega) (by omega) (by omega) (by grind) (by grind)
    · exact go1 (b2 - cy) (ay - b2) (by omega) (by omega) (by omega) (by grind) (by grind)
  · by_cases hx : ay <= b2
    · exact go1 (cy - b2) (b2 - ay) (by omega) (by omega) (by omega) (by grind) (by grind)
    · exact go2 (cy - ay) (ay - b2) (by omega) (by omega) (by omega) (by grind) (by grind)
theorem diagI (cx cy dx dy : Int) : sd cx cy dx dy bx b2 * ax - sd cx cy dx dy ax ay * bx = sd ax ay bx b2 cx cy * dx - sd ax ay bx b2 dx dy * cx /\ sd cx cy dx dy bx b2 * ay - sd cx cy dx dy ax ay * b2 = sd ax ay bx b2 cx cy * dy - sd ax ay bx b2 dx dy * cy
    /\ sd cx cy dx dy bx b2 - sd cx cy dx dy ax ay = sd ax ay bx b2 cx cy - sd ax ay bx b2 dx dy := by
  unfold sd
  refine ⟨?_, ?_, ?_⟩ <;> grind
theorem diagB {cx cy dx dy : Int} (h1 : X0 <= cx /\ cx <= X1 /\ Y0 <= cy /\ cy <= Y1) (h2 : X0 <= dx /\ dx <= X1 /\ Y0 <= dy /\ dy <= Y1) (ha : Out ax ay X0 Y0 X1 Y1) (hb : Out bx b2 X0 Y0 X1 Y1) (hB : Bx ax ay bx b2 X0 Y0 X1 Y1)
    (hpq : (0 < sd ax ay bx b2 cx cy /\ sd ax ay bx b2 dx dy < 0) ∨ (sd ax ay bx b2 cx cy < 0 /\ 0 < sd ax ay bx b2 dx dy)) :
    (0 < sd cx cy dx dy ax ay /\ sd cx cy dx dy bx b2 < 0) ∨ (sd cx cy dx dy ax ay < 0 /\ 0 < sd cx cy dx dy bx b2) := by
  obtain ⟨e1, e2, e3⟩ := diagI (ax := ax) (ay := ay) (bx := bx) (b2 := b2) cx cy dx dy
  generalize sd ax ay bx b2 cx cy = p at *
  generalize sd ax ay bx b2 dx dy = q at *
  generalize sd cx cy dx dy ax ay = r at *
  generalize sd cx cy dx dy bx b2 = t at *
  apply Classical.byContradiction
  intro hn
  have m : ∀ k : Int, 0 <= k -> ∀ x, X0 <= x -> x <= X1 -> k * X0 <= k * x /\ k * x <= k * X1 := fun k hk x u v => ⟨Int.mul_le_mul_of_nonneg_left u hk, Int.mul_le_mul_of_nonneg_left v hk⟩
  have m' : ∀ k : Int, 0 <= k -> ∀ x, Y0 <= x -> x <= Y1 -> k * Y0 <= k * x /\ k * x <= k * Y1 := fun k hk x u v => ⟨Int.mul_le_mul_of_nonneg_left u hk, Int.mul_le_mul_of_nonneg_left v hk⟩
  rcases hpq with ⟨hp, hq⟩ | ⟨hp, hq⟩
  · -- t - r = p - q > 0
    have a1 := m p (by omega) dx h2.1 h2.2.1
    have a2 := m (-q) (by omega) cx h1.1 h1.2.1
    have a3 := m' p (by omega) dy h2.2.2.1 h2.2.2.2
    have a4 := m' (-q) (by omega) cy h1.2.2.1 h1.2.2.2
    simp only [Int.neg_mul] at a2 a4
    by_cases hr : 0 <= r
    · -- a between
      refine noB (α := r) (β := t - r) (mx := p * dx - q * cx) (my := p * dy - q * cy) hr (by omega) (by omega) ?_ ?_ ?_ ?_ ?_ ?_ ha (bx_comm hB)
      · rw [e3, Int.sub_mul]; omega
      · rw [e3, Int.sub_mul]; omega
      · rw [e3, Int.sub_mul]; omega
      · rw [e3, Int.sub_mul]; omega
      · rw [← e1, Int.sub_mul]; omega
      · rw [← e2, Int.sub_mul]; omega
    · refine noB (α := -t) (β := t - r) (mx := p * dx - q * cx) (my := p * dy - q * cy) (by omega) (by omega) (by omega) ?_ ?_ ?_ ?_ ?_ ?_ hb hB
      · rw [e3, Int.sub_mul]; omega
      · rw [e3, Int.sub_mul]; omega
      · rw [e3, Int.sub_mul]; omega
      · rw [e3, Int.sub_mul]; omega
      · rw [← e1, Int.sub_mul, Int.neg_mul, Int.neg_mul]; omega
      · rw [← e2, Int.sub_mul, Int.neg_mul, Int.neg_mul]; omega
  · have a1 := m (-p) (by omega) dx h2.1 h2.2.1
    have a2 := m q (by omega) cx h1.1 h1.2.1
    have a3 := m' (-p) (by omega) dy h2.2.2.1 h2.2.2.2
    have a4 := m' q (by omega) cy h1.2.2.1 h1.2.2.2
    simp only [Int.neg_mul] at a1 a3
    have e3' : r - t = q - p := by omega
    by_cases ht : 0 <= t
    · refine noB (α := t) (β := r - t) (mx := q * cx - p * dx) (my := q * cy - p * dy) ht (by omega) (by omega) ?_ ?_ ?_ ?_ ?_ ?_ hb hB
      · rw [e3', Int.sub_mul]; omega
      · rw [e3', Int.sub_mul]; omega
      · rw [e3', Int.sub_mul]; omega
      · rw [e3', Int.sub_mul]; omega
      · rw [Int.sub_mul]; omega
      · rw [Int.sub_mul]; omega
    · refine noB (α := -r) (β := r - t) (mx := q * cx - p * dx) (my := q * cy - p * dy) (by omega) (by omega) (by omega) ?_ ?_ ?_ ?_ ?_ ?_ ha (bx_comm hB)
      · rw [e3', Int.sub_mul]; omega
      · rw [e3', Int.sub_mul]; omega
      · rw [e3', Int.sub_mul]; omega
      · rw [e3', Int.sub_mul]; omega
      · rw [Int.sub_mul, Int.neg_mul, Int.neg_mul]; omega
      · rw [Int.sub_mul, Int.neg_mul, Int.neg_mul]; omega
theorem diagM {cx cy dx dy : Int} (h1 : X0 <= cx /\ cx <= X1 /\ Y0 <= cy /\ cy <= Y1) (h2 : X0 <= dx /\ dx <= X1 /\ Y0 <= dy /\ dy <= Y1)
    (hpq : (0 < sd ax ay bx b2 cx cy /\ sd ax ay bx b2 dx dy < 0) ∨ (sd ax ay bx b2 cx cy < 0 /\ 0 < sd ax ay bx b2 dx dy))
    (hrt : (0 < sd cx cy dx dy ax ay /\ sd cx cy dx dy bx b2 < 0) ∨ (sd cx cy dx dy ax ay < 0 /\ 0 < sd cx cy dx dy bx b2)) : Bx ax ay bx b2 X0 Y0 X1 Y1 := by
  obtain ⟨e1, e2, e3⟩ := diagI (ax := ax) (ay := ay) (bx := bx) (b2 := b2) cx cy dx dy
  generalize sd ax ay bx b2 cx cy = p at *
  generalize sd ax ay bx b2 dx dy = q at *
  generalize sd cx cy dx dy ax ay = r at *
  generalize sd cx cy dx dy bx b2 = t at *
  have lt : ∀ k : Int, 0 < k -> ∀ x y : Int, x < y -> k * x < k * y := fun k hk x y h => Int.mul_lt_mul_of_pos_left h hk
  have le : ∀ k : Int, 0 <= k -> ∀ x y : Int, x <= y -> k * x <= k * y := fun k hk x y h => Int.mul_le_mul_of_nonneg_left h hk
  -- the numbers of one coordinate
  have key : ∀ a b c d Z0 Z1 : Int, t * a - r * b = p * d - q * c -> Z0 <= c -> c <= Z1 -> Z0 <= d -> d <= Z1 -> ¬ (max a b < Z0) /\ ¬ (Z1 < min a b) := by
    intro a b c d Z0 Z1 e g1 g2 g3 g4
    have f3 : ∀ Z : Int, t * Z - r * Z = p * Z - q * Z := fun Z => by rw [← Int.sub_mul, ← Int.sub_mul, e3]
    have f0 := f3 Z0
    have f1 := f3 Z1
    rcases hpq with ⟨hp, hq⟩ | ⟨hp, hq⟩
    · have ht : 0 < t /\ r < 0 := by omega
      have u1 := le p (by omega) _ _ g3
      have u2 := le (-q) (by omega) _ _ g1
      have u3 := le p (by omega) _ _ g4
      have u4 := le (-q) (by omega) _ _ g2
      simp only [Int.neg_mul] at u2 u4
      constructor
      · intro h
        have v1 := lt t ht.1 a Z0 (by omega)
        have v2 := lt (-r) (by omega) b Z0 (by omega)
        simp only [Int.neg_mul] at v2
        omega
      · intro h
        have v1 := lt t ht.1 Z1 a (by omega)
        have v2 := lt (-r) (by omega) Z1 b (by omega)
        simp only [Int.neg_mul] at v2
        omega
    · have ht : t < 0 /\ 0 < r := by omega
      have u1 := le (-p) (by omega) _ _ g3
      have u2 := le q (by omega) _ _ g1
      have u3 := le (-p) (by omega) _ _ g4
      have u4 := le q (by omega) _ _ g2
      simp only [Int.neg_mul] at u1 u3
      constructor
      · intro h
        have v1 := lt (-t) (by omega) a Z0 (by omega)
        have v2 := lt r ht.2 b Z0 (by omega)
        simp only [Int.neg_mul] at v1
        omega
      · intro h
        have v1 := lt (-t) (by omega) Z1 a (by omega)
        have v2 := lt r ht.2 Z1 b (by omega)
        simp only [Int.neg_mul] at v1
        omega
  have kx := key ax bx cx dx X0 X1 e1 h1.1 h1.2.1 h2.1 h2.2.1
  have ky := key ay b2 cy dy Y0 Y1 e2 h1.2.2.1 h1.2.2.2 h2.2.2.1 h2.2.2.2
  unfold Bx
  omega
end
end Go.Dx
namespace Go.Dx
open Go.IntKind (i64 u64 u8)
open Go.Sx
noncomputable section
set_option linter.unusedSimpArgs false
theorem out_from (a l h : Int) : F71_0 a l h = !F86_0 a l h := by
  unfold F71_0 F86_0
  by_cases h1 : a < l
  · rw [decide_eq_true h1, decide_eq_false (show ¬ l <= a by omega)]; rfl
  · rw [decide_eq_false h1, decide_eq_true (show l <= a by omega)]
    by_cases h2 : h < a
    · rw [decide_eq_true h2, cond_false, cond_true]; exact decide_eq_false (by omega)
    · rw [decide_eq_false h2, cond_false, cond_true]; exact decide_eq_true (by omega)
theorem exB_congr {n : Nat} {p q : Nat -> Bool} (h : ∀ i, i < n -> p i = q i) : exB n p = exB n q := by
  cases hq : exB n q with
  | true =>
    obtain ⟨i, hi, hp⟩ := exB_iff.1 hq
    exact exB_true i hi (by rw [h i hi]; exact hp)
  | false =>
    refine exB_false fun i hi => ?_
    rw [h i hi]
    cases hp : q i with
    | false => rfl
    | true => rw [exB_true i hi hp] at hq; cases hq
theorem wild_placed (n : Nat) (f : Nat -> List V) : F45_0 n f = !F51 n f := by
  unfold F45_0 F99_0 F133
  rw [idx_geq]
  unfold exB F51
  congr 1
  congr 1
  funext i
  rw [out_from]; rfl
theorem toL_len (s : ByteArray) : ∀ (k i : Nat) (r : List UInt8), s.size - i = k -> (ByteArray.toList.loop s i r).length = r.length + k := by
  intro k
  induction k with
  | zero =>
    intro i r h
    rw [ByteArray.toList.loop]
    have : ¬ i < s.size := by omega
    simp [this]
  | succ k ih =>
    intro i r h
    rw [ByteArray.toList.loop]
    have : i < s.size := by omega
    simp only [this, if_true]
    rw [ih (i + 1) _ (by omega)]
    simp; omega
theorem toL_nil (s : ByteArray) : (s.toList == (⟨#[]⟩ : ByteArray).toList) = decide (s.size = 0) := by
  have e : (⟨#[]⟩ : ByteArray).toList = [] := by decide +kernel
  rw [e]
  have hl : s.toList.length = s.size := by
    unfold ByteArray.toList; rw [toL_len s s.size 0 [] (by omega)]; simp
  by_cases h : s.size = 0
  · rw [decide_eq_true h]
    have : s.toList = [] := List.eq_nil_of_length_eq_zero (by omega)
    rw [this]; rfl
  · rw [decide_eq_false h]
    cases hs : s.toList with
    | nil => rw [hs] at hl; simp at hl; omega
    | cons a l => rfl
theorem dropWhile_nil {α : Type} {p : α -> Bool} : ∀ {l : List α}, l.dropWhile p = [] ↔ ∀ x ∈ l, p x = true
  | [] => by simp
  | a :: l => by
    rw [List.dropWhile_cons]
    cases h : p a with
    | true => simp only [if_true]; rw [dropWhile_nil]; simp [h]
    | false => simp [h]
theorem trim_nil (l cs : List UInt8) : Lib.trimS l cs = [] ↔ ∀ b ∈ l, cs.contains b = true := by
  unfold Lib.trimS Lib.trimLeftS Lib.trimRightS
  rw [dropWhile_nil]
  constructor
  · intro h
    have h1 : l.reverse.dropWhile (cs.contains ·) = [] := by
      cases hd : l.reverse.dropWhile (cs.contains ·) with
      | nil => rfl
      | cons a r =>
        have ha : cs.contains a = true := h a (by rw [hd]; simp)
        have hh := List.head_dropWhile_not (cs.contains ·) (l := l.reverse) (by rw [hd]; simp)
        simp only [hd, List.head_cons] at hh
        rw [ha] at hh; cases hh
    rw [dropWhile_nil] at h1
    exact fun b hb => h1 b (by simpa using hb)
  · intro h b hb
    have : b ∈ l.reverse := by
      have := List.mem_reverse.1 hb
      exact (List.dropWhile_sublist _).subset this
    exact h b (by simpa using this)
def nmB (b : Nat) : Bool := (decide (97 <= b) && decide (b <= 122)) || ((decide (48 <= b) && decide (b <= 57)) || decide (b = 45))
theorem cut_bytes (b : UInt8) : ([97, 98, 99, 100, 101, 102, 103, 104, 105, 106, 107, 108, 109, 110, 111, 112, 113, 114, 115, 116, 117, 118, 119, 120, 121, 122, 48, 49, 50, 51, 52, 53, 54, 55, 56, 57, 45] : List UInt8).contains b = nmB b.toNat := by
  have key : ∀ n : Fin 256, ([97, 98, 99, 100, 101, 102, 103, 104, 105, 106, 107, 108, 109, 110, 111, 112, 113, 114, 115, 116, 117, 118, 119, 120, 121, 122, 48, 49, 50, 51, 52, 53, 54, 55, 56, 57, 45] : List UInt8).contains (UInt8.ofNat n.val) = nmB n.val := by decide +kernel
  have := key ⟨b.toNat, b.toNat_lt⟩
  simpa using this
theorem getD_el {l : List UInt8} {i : Nat} (h : i < l.length) : l.getD i 0 = l[i] := by simp [List.getD, h]
theorem badN_eq (s : ByteArray) (i : Nat) : (!badN s i) = (nmB (s.data.toList.getD i 0).toNat && (decide (0 < i) || (decide (97 <= (s.data.toList.getD i 0).toNat) && decide ((s.data.toList.getD i 0).toNat <= 122)))) := by
  unfold badN nmB
  generalize (s.data.toList.getD i 0).toNat = b
  rw [Bool.eq_iff_iff]
  simp only [Bool.cond_eq_ite, Bool.not_eq_true', Bool.and_eq_true, Bool.or_eq_true, decide_eq_true_eq]
  split <;> split <;> (try split) <;> simp_all <;> omega
theorem name_eq (s : ByteArray) : F114_0 s = F122 s := by
  unfold F114_0 F122
  rw [toL_nil]
  have hsz : s.size = s.data.toList.length := by rw [Array.length_toList]; rfl
  by_cases h0 : s.size = 0
  · rw [decide_eq_true h0, h0]; rfl
  rw [decide_eq_false h0]
  have e0 : decide (0 < (s.size : Int)) = true := decide_eq_true (by omega)
  rw [e0]
  by_cases h24 : (s.size : Int) <= 24
  case neg => rw [decide_eq_false h24]; simp
  rw [decide_eq_true h24]
  simp only [Bool.not_false, cond_true, Bool.and_true]
  rw [toL_nil]
  rw [Bool.eq_iff_iff]
  have ht : (F146 s (ByteArray.mk (Array.mk [97, 98, 99, 100, 101, 102, 103, 104, 105, 106, 107, 108, 109, 110, 111, 112, 113, 114, 115, 116, 117, 118, 119, 120, 121, 122, 48, 49, 50, 51, 52, 53, 54, 55, 56, 57, 45]))).size = 0 ↔ ∀ b ∈ s.data.toList, nmB b.toNat = true := by
    rw [show (F146 s (ByteArray.mk (Array.mk [97, 98, 99, 100, 101, 102, 103, 104, 105, 106, 107, 108, 109, 110, 111, 112, 113, 114, 115, 116, 117, 118, 119, 120, 121, 122, 48, 49, 50, 51, 52, 53, 54, 55, 56, 57, 45]))).size = (Lib.trimS s.data.toList [97, 98, 99, 100, 101, 102, 103, 104, 105, 106, 107, 108, 109, 110, 111, 112, 113, 114, 115, 116, 117, 118, 119, 120, 121, 122, 48, 49, 50, 51, 52, 53, 54, 55, 56, 57, 45]).length from by simp [F146, ByteArray.size]]
    rw [List.length_eq_zero_iff, trim_nil]
    constructor
    · intro h b hb; rw [← cut_bytes]; exact h b hb
    · intro h b hb; rw [cut_bytes]; exact h b hb
  have hb : allB s.size (fun i => !badN s i) = true ↔ (∀ b ∈ s.data.toList, nmB b.toNat = true) /\ 97 <= (s.data.toList.getD 0 0).toNat /\ (s.data.toList.getD 0 0).toNat <= 122 := by
    rw [allB_true]
    constructor
    · intro h
      refine ⟨fun b hb => ?_, ?_⟩
      · obtain ⟨i, hi, rfl⟩ := List.getElem_of_mem hb
        have := h i (by omega)
        rw [badN_eq, Bool.and_eq_true] at this
        rw [getD_el hi] at this
        exact this.1
      · have := h 0 (by omega)
        rw [badN_eq] at this
        simp only [Bool.and_eq_true, Bool.or_eq_true, decide_eq_true_eq] at this
        rcases this.2 with h1 | h1
        · omega
        · exact h1
    · rintro ⟨h1, h2, h3⟩ i hi
      rw [badN_eq]
      have hi' : i < s.data.toList.length := by omega
      rw [h1 _ (by rw [getD_el hi']; exact List.getElem_mem hi')]
      by_cases hz : i = 0
      · subst hz; rw [decide_eq_true h2, decide_eq_true h3]; rfl
      · simp; omega
  rw [hb, ← ht]
  cases hd : decide ((F146 s (ByteArray.mk (Array.mk [97, 98, 99, 100, 101, 102, 103, 104, 105, 106, 107, 108, 109, 110, 111, 112, 113, 114, 115, 116, 117, 118, 119, 120, 121, 122, 48, 49, 50, 51, 52, 53, 54, 55, 56, 57, 45]))).size = 0) with
  | false =>
    have := of_decide_eq_false hd
    simp [this]
  | true =>
    have := of_decide_eq_true hd
    simp only [cond_true, this, true_and]
    rw [show s.data.1.getD 0 0 = s.data.toList.getD 0 0 from rfl]
    generalize (s.data.toList.getD 0 0).toNat = b
    by_cases g : 97 <= b
    · rw [decide_eq_true (show (97 : Int) <= (b : Int) by omega)]
      simp only [cond_true, decide_eq_true_eq]; omega
    · rw [decide_eq_false (show ¬ (97 : Int) <= (b : Int) by omega)]
      simp; omega
end
end Go.Dx
namespace Go.Dx
open Go.IntKind (i64 u64 u8)
open Go.Sx
noncomputable section
set_option linter.unusedSimpArgs false
theorem pt_wild (x y : Int) : F113_0 x y = !ptOk x y := by unfold F113_0 ptOk; exact wild_placed _ _
theorem dup_eq (n : Nat) (f : Nat -> List V) (s : ByteArray) : F90_0 n f s = exB n fun k => (sv (hdV (f k))).toList == s.toList := by
  unfold F90_0 F129; rw [idx_geq]; rfl
theorem dupC_eq (n : Nat) (f : Nat -> List V) (s : ByteArray) : F121_0 n f s = exB n fun k => (sv (hdV (f k))).toList == s.toList := by
  unfold F121_0 F149; rw [idx_geq]; rfl
theorem far_eq (n : Nat) (f : Nat -> List V) : F115_0 n f = exB n fun i => !ptOk (iv (hdV (f i))) (iv (hdV (tlV (f i)))) := by
  unfold F115_0 F147; rw [idx_geq]; exact exB_congr fun i _ => pt_wild _ _
theorem road_eq (n0 : Nat) (f0 : FnV) (i : Nat) : c62 n0 (elV tyR f0) i = cR n0 f0 i := by
  unfold c62 cR F63 F70 roadE
  rw [name_eq, dup_eq, far_eq]
  simp only [Int.toNat_natCast, Nat.sub_zero, Nat.zero_add, out_from, Bool.not_not]
  rfl
theorem tree_eq (n2 : Nat) (f2 : FnV) (i : Nat) : c64 n2 (elV tyT f2) i = cT f2 i := by
  show F65_0 (iv (hdV (f2 i))) (iv (hdV (tlV (f2 i)))) (iv (hdV (tlV (tlV (f2 i))))) (iv (hdV (tlV (tlV (tlV (f2 i)))))) (iv (hdV (tlV (tlV (tlV (tlV (f2 i))))))) = _
  unfold cT F65_0 treeE
  rw [wild_placed]
  show (bif !!ptOk _ _ then _ else _) = _
  generalize ptOk _ _ = p
  generalize iv (hdV (tlV (tlV (f2 i)))) = a
  generalize iv (hdV (tlV (tlV (tlV (f2 i))))) = z
  generalize iv (hdV (tlV (tlV (tlV (tlV (f2 i)))))) = w
  cases p
  · rfl
  · simp only [Bool.not_true, Bool.not_false, cond_true]
    rw [out_from]
    cases ha : F86_0 a 1 20000
    · simp only [Bool.not_false, Bool.not_true, cond_true, cond_false]
      by_cases hw : 1 <= w /\ w <= 1000
      · have e : F86_0 w 1 1000 = false := by unfold F86_0; rw [decide_eq_false (by omega), cond_false]; exact decide_eq_false (by omega)
        rw [e, wrapI (by omega) (by omega)]
        unfold F86_0
        by_cases hz : z < 0
        · rw [decide_eq_true hz]; rfl
        · rw [decide_eq_false hz]
          by_cases hz2 : w <= z
          · rw [decide_eq_true (show w - 1 < z by omega), decide_eq_true hz2]; rfl
          · rw [decide_eq_false (show ¬ w - 1 < z by omega), decide_eq_false hz2, decide_eq_false (show ¬ 1000 < w by omega)]; rfl
      · have e : F86_0 w 1 1000 = true := by
          unfold F86_0
          by_cases h1 : w < 1
          · rw [decide_eq_true h1]; rfl
          · rw [decide_eq_false h1, cond_false]; exact decide_eq_true (by omega)
        rw [e]
        have : (bif bif decide (z < 0) then true else decide (w <= z) then true else decide (1000 < w)) = true := by
          by_cases hz : z < 0
          · rw [decide_eq_true hz]; rfl
          · rw [decide_eq_false hz, cond_false]
            by_cases h2 : w <= z
            · rw [decide_eq_true h2]; rfl
            · rw [decide_eq_false h2, cond_false]; exact decide_eq_true (by omega)
        rw [this]
        cases !F86_0 z 0 (i64.wrap (w - 1)) <;> rfl
    · rfl
theorem wnd_eq (x0 x1 x2 x3 : Int) : F118_0 x0 x1 x2 x3 = bif bif bif bif bif decide (x0 < 0) then true else decide (x1 <= x0) then true else decide (1000 < x1) then true else decide (x2 < 0) then true else decide (x3 <= x2) then true else decide (1000 < x3) := by
  have key : ∀ a b : Int, ((bif !F86_0 b 1 1000 then F86_0 a 0 (i64.wrap (b - 1)) else true) = true) ↔ (a < 0 ∨ b <= a ∨ 1000 < b) := by
    intro a b
    unfold F86_0
    by_cases h1 : b < 1
    · rw [decide_eq_true h1]; simp; omega
    · rw [decide_eq_false h1]
      by_cases h2 : 1000 < b
      · rw [decide_eq_true h2]; simp; omega
      · rw [decide_eq_false h2, wrapI (by omega) (by omega)]
        simp only [cond_false, Bool.not_false, cond_true, Bool.cond_eq_ite]
        split <;> simp_all <;> omega
  have e1 := key x0 x1
  have e2 := key x2 x3
  have : F118_0 x0 x1 x2 x3 = (bif !(bif !F86_0 x1 1 1000 then F86_0 x0 0 (i64.wrap (x1 - 1)) else true) then (bif !F86_0 x3 1 1000 then F86_0 x2 0 (i64.wrap (x3 - 1)) else true) else true) := by
    unfold F118_0
    cases F86_0 x1 1 1000 <;> cases F86_0 x0 0 (i64.wrap (x1 - 1)) <;> rfl
  rw [this]
  generalize (bif !F86_0 x1 1 1000 then F86_0 x0 0 (i64.wrap (x1 - 1)) else true) = p at e1 ⊢
  generalize (bif !F86_0 x3 1 1000 then F86_0 x2 0 (i64.wrap (x3 - 1)) else true) = q at e2 ⊢
  rw [Bool.eq_iff_iff]
  simp only [Bool.cond_eq_ite]
  cases p <;> cases q <;> simp_all <;> omega
theorem front_eq (n4 : Nat) (f4 : FnV) (i : Nat) : c66 n4 (elV tyF f4) i = cF f4 i := by
  show F67_0 (iv (hdV (f4 i))) (iv (hdV (tlV (f4 i)))) (iv (hdV (tlV (tlV (f4 i))))) (iv (hdV (tlV (tlV (tlV (f4 i)))))) (lenV (hdV (tlV (tlV (tlV (tlV (f4 i))))))) (fun j => views [Ty.int i64, Ty.int i64, Ty.int i64, Ty.int i64] (atV (hdV (tlV (tlV (tlV (tlV (f4 i)))))) j)) = _
  unfold cF F67_0 F72
  rw [wild_placed]
  have : ∀ n (f : Nat -> List V), F119_0 n f = exB n fun j => badW (f j) := by
    intro n f
    unfold F119_0 F148; rw [idx_geq]
    exact exB_congr fun j _ => by rw [wnd_eq]; rfl
  rw [this]
  rfl
theorem colx (p q r t : Bool) (B : Int) : (bif p then bif !q then bif !r then bif t then 7 else B else 7 else 7 else 7) = (bif bif bif bif !p then true else q then true else r then true else t then 7 else B) := by
  cases p <;> cases q <;> cases r <;> cases t <;> rfl
theorem col_eq (n6 : Nat) (f6 : FnV) (i : Nat) : c68 n6 (elV tyC f6) i = cC n6 f6 i := by
  unfold c68 cC F69_0 F73
  rw [name_eq, dupC_eq, wild_placed]
  simp only [Int.toNat_natCast, Nat.sub_zero, Nat.zero_add]
  unfold colE
  simp only [out_from, Bool.not_not]
  rw [colx]
  rfl
theorem first_congr {n : Nat} {c d : Nat -> Int} (h : ∀ i, c i = d i) : firstI n c = firstI n d /\ firstE n c = firstE n d := by
  have : c = d := funext h
  rw [this]; exact ⟨rfl, rfl⟩
theorem check_eq (n0 : Nat) (f0 : FnV) (n2 : Nat) (f2 : FnV) (n4 : Nat) (f4 : FnV) (n6 : Nat) (f6 : FnV) :
    (F23_0 n0 f0 n2 f2 n4 f4 n6 f6, F23_1 n0 f0 n2 f2 n4 f4 n6 f6, F23_2 n0 f0 n2 f2 n4 f4 n6 f6) = F24 n0 f0 n2 f2 n4 f4 n6 f6 := by
  unfold F23_0 F23_1 F23_2 F24 long z1 z2 z3 r24 F62_0 F62_1 F64_0 F64_1 F66_0 F66_1 F68_0 F68_1
  rw [(first_congr (road_eq n0 f0)).1, (first_congr (road_eq n0 f0)).2, (first_congr (tree_eq n2 f2)).1, (first_congr (tree_eq n2 f2)).2, (first_congr (front_eq n4 f4)).1, (first_congr (front_eq n4 f4)).2, (first_congr (col_eq n6 f6)).1, (first_congr (col_eq n6 f6)).2]
  cases (bif bif bif decide (8 < (n0 : Int)) then true else decide (12 < (n2 : Int)) then true else decide (8 < (n4 : Int)) then true else decide (24 < (n6 : Int)))
  · simp only [cond_false]
    cases h1 : firstE n0 (cR n0 f0) != 0
    · simp only [cond_false]
      cases h2 : firstE n2 (cT f2) != 0
      · simp only [cond_false]
        cases h3 : firstE n4 (cF f4) != 0
        · simp only [cond_false]
          cases h4 : firstE n6 (cC n6 f6) != 0
          · rfl
          · rfl
        · rfl
      · rfl
    · rfl
  · rfl
end
end Go.Dx
namespace Go.Dx
open Go.IntKind (i64 u64 u8)
open Go.Sx
noncomputable section
set_option linter.unusedSimpArgs false
theorem elV2 (ts : List Ty) (f : Nat -> List V) : elV ts (elV ts f) = elV ts f := by
  funext i; exact views_idem ts _
theorem firstE_zero {n : Nat} {c : Nat -> Int} (h : firstE n c = 0) : ∀ i, i < n -> c i = 0 := by
  unfold firstE at h
  rcases idx_ex (n := n) (p := fun i => c i != 0) with ⟨_, h2⟩ | ⟨j, h1, h2, h3, _⟩
  · intro i hi
    have := h2 i hi
    simpa using this
  · rw [h2] at h
    have : ((j : Int) == -1) = false := by rw [beq_eq_false_iff_ne]; omega
    rw [this, cond_false, Int.toNat_natCast] at h
    rw [h] at h3; cases h3
section
variable {n0 : Nat} {f0 : Nat -> List V} {n2 : Nat} {f2 : Nat -> List V} {n4 : Nat} {f4 : Nat -> List V} {n6 : Nat} {f6 : Nat -> List V} {i j m l : Int}
structure Valid (n0 : Nat) (f0 : FnV) (n2 : Nat) (f2 : FnV) (n4 : Nat) (f4 : FnV) (n6 : Nat) (f6 : FnV) : Prop where
  l0 : n0 <= 8
  l2 : n2 <= 12
  l4 : n4 <= 8
  l6 : n6 <= 24
  rd : ∀ i, i < n0 -> cR n0 f0 i = 0
  tr : ∀ i, i < n2 -> cT f2 i = 0
  fr : ∀ i, i < n4 -> cF f4 i = 0
  cl : ∀ i, i < n6 -> cC n6 f6 i = 0
theorem r24_zero {n : Nat} {c : Nat -> Int} {k : Int} {z : Int × Int × Int} (h : (r24 n c k z).2.2 = 0) : (∀ i, i < n -> c i = 0) /\ z.2.2 = 0 := by
  unfold r24 at h
  cases hb : firstE n c != 0 with
  | true => rw [hb] at h; simp only [cond_true] at h; rw [h] at hb; cases hb
  | false =>
    rw [hb] at h
    exact ⟨firstE_zero (by simpa using hb), h⟩
theorem valid (h : F24_2 n0 f0 n2 f2 n4 f4 n6 f6 = 0) : Valid n0 f0 n2 f2 n4 f4 n6 f6 := by
  unfold F24_2 F24 at h
  cases hl : long n0 f0 n2 f2 n4 f4 n6 f6 with
  | true => rw [hl] at h; cases h
  | false =>
    rw [hl, cond_false] at h
    obtain ⟨h1, h⟩ := r24_zero h
    unfold z1 at h
    obtain ⟨h2, h⟩ := r24_zero h
    unfold z2 at h
    obtain ⟨h3, h⟩ := r24_zero h
    unfold z3 at h
    obtain ⟨h4, _⟩ := r24_zero h
    unfold long at hl
    simp only [Bool.cond_eq_ite, Bool.ite_eq_false_distrib] at hl
    have : n0 <= 8 /\ n2 <= 12 /\ n4 <= 8 /\ n6 <= 24 := by
      refine ⟨?_, ?_, ?_, ?_⟩ <;> (apply Classical.byContradiction; intro hn) <;> simp_all <;> omega
    exact ⟨this.1, this.2.1, this.2.2.1, this.2.2.2, h1, h2, h3, h4⟩
def bad1 (i m : Int) : Bool := bif decide (i < 0) then true else decide (m <= i)
def ix1 (e i m : Int) : Int := bif e == 0 then (bif bad1 i m then 4 else 0) else e
def ix2 (e i m j l : Int) : Int := bif e == 0 then (bif bif bad1 i m then true else bad1 j l then 4 else 0) else e
theorem F23_24 : F23_2 n0 f0 n2 f2 n4 f4 n6 f6 = F24_2 n0 f0 n2 f2 n4 f4 n6 f6 := congrArg (fun t => t.2.2) (check_eq n0 f0 n2 f2 n4 f4 n6 f6)
theorem out_bad {i : Int} {m : Nat} (hm : m <= 9223372036854775807) : F86_0 i 0 (i64.wrap ((m : Int) - 1)) = bad1 i m := by
  unfold F86_0 bad1
  rw [wrapI (by omega) (by omega)]
  by_cases h : i < 0
  · rw [decide_eq_true h]; rfl
  · rw [decide_eq_false h, cond_false, cond_false]
    by_cases g : (m : Int) <= i
    · rw [decide_eq_true g]; exact decide_eq_true (by omega)
    · rw [decide_eq_false g]; exact decide_eq_false (by omega)
theorem chk2 {i : Int} {m : Nat} (hm : F24_2 n0 (elV tyR f0) n2 (elV tyT f2) n4 (elV tyF f4) n6 (elV tyC f6) = 0 -> m <= 9223372036854775807) :
    F44 n0 (elV tyR f0) n2 (elV tyT f2) n4 (elV tyF f4) n6 (elV tyC f6) 2 (elV [Ty.int i64] (secF [V.int i64 i, V.int i64 m] 0 1)) = ix1 (F24_2 n0 (elV tyR f0) n2 (elV tyT f2) n4 (elV tyF f4) n6 (elV tyC f6)) i m := by
  unfold F44 outs ix1
  simp only [elV2, F23_24]
  cases he : F24_2 n0 (elV tyR f0) n2 (elV tyT f2) n4 (elV tyF f4) n6 (elV tyC f6) == 0 with
  | false => rfl
  | true =>
    rw [cond_true, cond_true]
    have := hm (eq_of_beq he)
    rw [← out_bad this]
    show (bif !(true && !F86_0 i 0 (i64.wrap ((m : Int) - 1))) then _ else _) = _
    rw [Bool.true_and, Bool.not_not]
theorem chk4 {i j : Int} {m l : Nat} (hm : F24_2 n0 (elV tyR f0) n2 (elV tyT f2) n4 (elV tyF f4) n6 (elV tyC f6) = 0 -> m <= 9223372036854775807 /\ l <= 9223372036854775807) :
    F44 n0 (elV tyR f0) n2 (elV tyT f2) n4 (elV tyF f4) n6 (elV tyC f6) 4 (elV [Ty.int i64] (secF [V.int i64 i, V.int i64 m, V.int i64 j, V.int i64 l] 0 1)) = ix2 (F24_2 n0 (elV tyR f0) n2 (elV tyT f2) n4 (elV tyF f4) n6 (elV tyC f6)) i m j l := by
  unfold F44 outs ix2
  simp only [elV2, F23_24]
  cases he : F24_2 n0 (elV tyR f0) n2 (elV tyT f2) n4 (elV tyF f4) n6 (elV tyC f6) == 0 with
  | false => rfl
  | true =>
    rw [cond_true, cond_true]
    have := hm (eq_of_beq he)
    rw [← out_bad this.1, ← out_bad this.2]
    show (bif !((true && !F86_0 i 0 (i64.wrap ((m : Int) - 1))) && !F86_0 j 0 (i64.wrap ((l : Int) - 1))) then _ else _) = _
    cases F86_0 i 0 (i64.wrap ((m : Int) - 1)) <;> cases F86_0 j 0 (i64.wrap ((l : Int) - 1)) <;> rfl
theorem chk50 {i m : Int} : F50_0 n0 (elV tyR f0) n2 (elV tyT f2) n4 (elV tyF f4) n6 (elV tyC f6) i m = ix1 (F24_2 n0 (elV tyR f0) n2 (elV tyT f2) n4 (elV tyF f4) n6 (elV tyC f6)) i m := by
  unfold F50_0 F91_0 ix1 bad1
  simp only [elV2]
  generalize F24_2 n0 (elV tyR f0) n2 (elV tyT f2) n4 (elV tyF f4) n6 (elV tyC f6) = e
  by_cases he : e = 0
  · subst he
    cases (bif decide (i < 0) then true else decide (m <= i)) <;> rfl
  · rw [show (e == 0) = false from by simpa using he]; rfl
end
end
end Go.Dx
namespace Go.Dx
open Go.IntKind (i64 u64 u8)
open Go.Sx
noncomputable section
set_option linter.unusedSimpArgs false
theorem from_in {a l h : Int} (hf : F71_0 a l h = true) : l <= a /\ a <= h := by
  unfold F71_0 at hf
  by_cases h1 : l <= a
  · rw [decide_eq_true h1, cond_true] at hf; exact ⟨h1, of_decide_eq_true hf⟩
  · rw [decide_eq_false h1] at hf; cases hf
theorem front_in {f4 : Nat -> List V} {i : Nat} (h : cF f4 i = 0) :
    (∀ x, x ∈ [iv (hdV (f4 i)), iv (hdV (tlV (f4 i))), iv (hdV (tlV (tlV (f4 i)))), iv (hdV (tlV (tlV (tlV (f4 i)))))] -> -100000 <= x /\ x <= 100000) /\ lenV (hdV (tlV (tlV (tlV (tlV (f4 i)))))) <= 6 /\ ∀ j, j < lenV (hdV (tlV (tlV (tlV (tlV (f4 i)))))) -> badW (views [Ty.int i64, Ty.int i64, Ty.int i64, Ty.int i64] (atV (hdV (tlV (tlV (tlV (tlV (f4 i)))))) j)) = false := by
  unfold cF F72 at h
  generalize iv (hdV (f4 i)) = a at h ⊢
  generalize iv (hdV (tlV (f4 i))) = b at h ⊢
  generalize iv (hdV (tlV (tlV (f4 i)))) = c at h ⊢
  generalize iv (hdV (tlV (tlV (tlV (f4 i))))) = d at h ⊢
  generalize lenV (hdV (tlV (tlV (tlV (tlV (f4 i)))))) = n at h ⊢
  generalize hdV (tlV (tlV (tlV (tlV (f4 i))))) = w at h ⊢
  cases hp : F51 4 (elV [.int .i64] (secF [V.int .i64 a, V.int .i64 b, V.int .i64 c, V.int .i64 d] 0 ((1 + 1 + 1 + 1 - 0) / 4))) with
  | false => rw [hp] at h; cases h
  | true =>
    rw [hp, Bool.not_true, cond_false] at h
    cases he : (a == c && (b == d && true)) with
    | true => rw [he] at h; cases h
    | false =>
      rw [he, cond_false] at h
      by_cases hn : 6 < (n : Int)
      · rw [decide_eq_true hn] at h; cases h
      · rw [decide_eq_false hn, cond_false] at h
        cases hw : exB n (fun j => badW (views [Ty.int i64, Ty.int i64, Ty.int i64, Ty.int i64] (atV w j))) with
        | true => rw [hw] at h; cases h
        | false =>
          unfold F51 at hp
          have h0 := from_in (allB_ok hp 0 (by omega))
          have h1 := from_in (allB_ok hp 1 (by omega))
          have h2 := from_in (allB_ok hp 2 (by omega))
          have h3 := from_in (allB_ok hp 3 (by omega))
          refine ⟨fun x hx => ?_, by omega, fun j hj => ?_⟩
          · simp only [List.mem_cons, List.not_mem_nil, or_false] at hx
            rcases hx with rfl | rfl | rfl | rfl
            · exact h0
            · exact h1
            · exact h2
            · exact h3
          · cases hb : badW (views [Ty.int i64, Ty.int i64, Ty.int i64, Ty.int i64] (atV w j)) with
            | false => rfl
            | true => rw [exB_true j hj hb] at hw; cases hw
end
end Go.Dx
namespace Go.Dx
open Go.IntKind (i64 u64 u8)
open Go.Sx
noncomputable section
set_option linter.unusedVariables false
set_option linter.unusedSimpArgs false
section
variable {ax ay bx b2 px py r : Int}
theorem sd_p (h1 : sm ax) (h2 : sm ay) (h3 : sm bx) (h4 : sm b2) (h5 : sm px) (h6 : sm py) : F127_0 (F84_0 bx ax) (F84_1 b2 ay) (F84_0 px ax) (F84_1 py ay) = sd ax ay bx b2 px py /\ -4611686018427387904 <= sd ax ay bx b2 px py /\ sd ax ay bx b2 px py <= 4611686018427387904 := by
  unfold sm at *
  unfold sd F127_0 F84_0 F84_1
  rw [wrapI (x := bx - ax) (by omega) (by omega), wrapI (x := b2 - ay) (by omega) (by omega), wrapI (x := px - ax) (by omega) (by omega), wrapI (x := py - ay) (by omega) (by omega)]
  have c1 := mulS (x := bx - ax) (y := py - ay) (A := 1073741824) (B := 1073741824) (by omega) (by omega) (by omega) (by omega)
  have c2 := mulS (x := b2 - ay) (y := px - ax) (A := 1073741824) (B := 1073741824) (by omega) (by omega) (by omega) (by omega)
  rw [wrapI (x := (bx - ax) * (py - ay)) (by omega) (by omega), wrapI (x := (b2 - ay) * (px - ax)) (by omega) (by omega), wrapI (by omega) (by omega)]
  exact ⟨rfl, by omega, by omega⟩
theorem near_on (hr : 0 <= r) (hb : Btw px py ax ay bx b2) (hf : sd ax ay bx b2 px py = 0) : nr ax ay bx b2 px py r = true := by
  unfold sd at hf
  unfold Btw at hb
  unfold nr
  have hr0 : 0 <= r * r := Int.mul_nonneg hr hr
  have q : ∀ a b p : Int, min a b <= p -> p <= max a b -> 0 <= (p - a) * (b - a) /\ (p - a) * (b - a) <= (b - a) * (b - a) /\ ((p - a) * (b - a) = 0 -> p - a = 0 ) /\ ((p - a) * (b - a) = (b - a) * (b - a) -> p - b = 0) := by
    intro a b p h1 h2
    have s : 0 <= (p - a) * (b - a) /\ 0 <= (b - p) * (b - a) := by
      by_cases h : a <= b
      · exact ⟨Int.mul_nonneg (by omega) (by omega), Int.mul_nonneg (by omega) (by omega)⟩
      · constructor
        · rw [← Int.neg_mul_neg]; exact Int.mul_nonneg (by omega) (by omega)
        · rw [← Int.neg_mul_neg]; exact Int.mul_nonneg (by omega) (by omega)
    have e : (b - p) * (b - a) = (b - a) * (b - a) - (p - a) * (b - a) := by grind
    refine ⟨s.1, by omega, fun h => ?_, fun h => ?_⟩
    · rcases Int.mul_eq_zero.1 h with h | h <;> omega
    · have : (b - p) * (b - a) = 0 := by omega
      rcases Int.mul_eq_zero.1 this with h | h <;> omega
  obtain ⟨x1, x2, x3, x4⟩ := q ax bx px hb.1 hb.2.1
  obtain ⟨y1, y2, y3, y4⟩ := q ay b2 py hb.2.2.1 hb.2.2.2
  by_cases h1 : (px - ax) * (bx - ax) + (py - ay) * (b2 - ay) <= 0
  · rw [decide_eq_true h1, cond_true, x3 (by omega), y3 (by omega)]
    exact decide_eq_true (by omega)
  · rw [decide_eq_false h1, cond_false]
    by_cases h2 : (bx - ax) * (bx - ax) + (b2 - ay) * (b2 - ay) <= (px - ax) * (bx - ax) + (py - ay) * (b2 - ay)
    · rw [decide_eq_true h2, cond_true, x4 (by omega), y4 (by omega)]
      exact decide_eq_true (by omega)
    · rw [decide_eq_false h2, cond_false, hf]
      have : 0 <= r * r * ((bx - ax) * (bx - ax) + (b2 - ay) * (b2 - ay)) := Int.mul_nonneg hr0 (by have := sqN (bx - ax); have := sqN (b2 - ay); omega)
      exact decide_eq_true (by omega)
theorem sg_cases (n : Int) : (F144_0 n = 0 /\ n = 0) ∨ (F144_0 n = 1 /\ 0 < n) ∨ (F144_0 n = -1 /\ n < 0) := by unfold F144_0; omega
theorem btw_b (px py ax ay bx b2 : Int) : F171_0 px py ax ay bx b2 = true ↔ Btw px py ax ay bx b2 := by
  unfold F171_0 F71_0 Btw
  simp only [Bool.cond_eq_ite, decide_eq_true_eq]
  split <;> (try split) <;> simp_all <;> omega
theorem btw_f {px py ax ay bx b2 : Int} (h : ¬ Btw px py ax ay bx b2) : F171_0 px py ax ay bx b2 = false := by
  cases hb : F171_0 px py ax ay bx b2 with
  | false => rfl
  | true => exact (h ((btw_b _ _ _ _ _ _).1 hb)).elim
theorem crs0 (p q u t : Int) : (bif decide (i64.wrap (F144_0 p * F144_0 q) < 0) then decide (i64.wrap (F144_0 u * F144_0 t) < 0) else false) = true ↔ (((0 < p /\ q < 0) ∨ (p < 0 /\ 0 < q)) /\ ((0 < u /\ t < 0) ∨ (u < 0 /\ 0 < t))) := by
  have k : ∀ a b : Int, (i64.wrap (F144_0 a * F144_0 b) < 0) ↔ ((0 < a /\ b < 0) ∨ (a < 0 /\ 0 < b)) := by
    intro a b
    rcases sg_cases a with ⟨h, h0⟩ | ⟨h, h0⟩ | ⟨h, h0⟩ <;> rcases sg_cases b with ⟨g, g0⟩ | ⟨g, g0⟩ | ⟨g, g0⟩ <;> rw [h, g, wrapI (by decide) (by decide)] <;> omega
  rw [← k p q, ← k u t]
  by_cases h : i64.wrap (F144_0 p * F144_0 q) < 0
  · rw [decide_eq_true h, cond_true, decide_eq_true_eq]; exact ⟨fun g => ⟨h, g⟩, fun g => g.2⟩
  · rw [decide_eq_false h, cond_false]; exact ⟨(fun g => by cases g), fun g => (h g.1).elim⟩
theorem crs {cx cy dx dy : Int} (h1 : sm ax) (h2 : sm ay) (h3 : sm bx) (h4 : sm b2) (h5 : sm cx) (h6 : sm cy) (h7 : sm dx) (h8 : sm dy)
    (n1 : ¬ (sd ax ay bx b2 cx cy = 0 /\ Btw cx cy ax ay bx b2)) (n2 : ¬ (sd ax ay bx b2 dx dy = 0 /\ Btw dx dy ax ay bx b2)) (n3 : ¬ Btw ax ay cx cy dx dy) (n4 : ¬ Btw bx b2 cx cy dx dy) :
    F151 ax ay bx b2 cx cy dx dy = true ↔ (((0 < sd ax ay bx b2 cx cy /\ sd ax ay bx b2 dx dy < 0) ∨ (sd ax ay bx b2 cx cy < 0 /\ 0 < sd ax ay bx b2 dx dy)) /\ ((0 < sd cx cy dx dy ax ay /\ sd cx cy dx dy bx b2 < 0) ∨ (sd cx cy dx dy ax ay < 0 /\ 0 < sd cx cy dx dy bx b2))) := by
  unfold F151
  rw [btw_f n3, btw_f n4]
  rw [show F79_0 (F93_0 bx ax) (F93_1 b2 ay) (F93_0 cx ax) (F93_1 cy ay) = sd ax ay bx b2 cx cy from (sd_p h1 h2 h3 h4 h5 h6).1]
  rw [show F79_0 (F93_0 bx ax) (F93_1 b2 ay) (F93_0 dx ax) (F93_1 dy ay) = sd ax ay bx b2 dx dy from (sd_p h1 h2 h3 h4 h7 h8).1]
  rw [show F79_0 (F93_0 dx cx) (F93_1 dy cy) (F93_0 ax cx) (F93_1 ay cy) = sd cx cy dx dy ax ay from (sd_p h5 h6 h7 h8 h1 h2).1]
  rw [show F79_0 (F93_0 dx cx) (F93_1 dy cy) (F93_0 bx cx) (F93_1 b2 cy) = sd cx cy dx dy bx b2 from (sd_p h5 h6 h7 h8 h3 h4).1]
  have z : ∀ (p : Int) (b : Bool) (B : Prop), (b = true ↔ B) -> ¬ (p = 0 /\ B) -> ((F144_0 p == 0) && b) = false := by
    intro p b B hb hn
    rw [Bool.and_eq_false_iff]
    rcases sg_cases p with ⟨h, h0⟩ | ⟨h, h0⟩ | ⟨h, h0⟩
    · right
      cases b with
      | false => rfl
      | true => exact (hn ⟨h0, hb.1 rfl⟩).elim
    · left; rw [h]; rfl
    · left; rw [h]; rfl
  rw [z _ _ _ (btw_b _ _ _ _ _ _) n1, z _ _ _ (btw_b _ _ _ _ _ _) n2]
  simp only [Bool.and_false, Bool.or_false]
  exact crs0 _ _ _ _
theorem thr_crs {X0 Y0 X1 Y1 : Int} (h1 : sm ax) (h2 : sm ay) (h3 : sm bx) (h4 : sm b2) (g1 : sm X0) (g2 : sm Y0) (g3 : sm X1) (g4 : sm Y1) (hX : X0 <= X1) (hY : Y0 <= Y1) (hr : 0 <= r)
    (oa : Out ax ay X0 Y0 X1 Y1) (ob : Out bx b2 X0 Y0 X1 Y1) (c00 : nr ax ay bx b2 X0 Y0 r = false) (c10 : nr ax ay bx b2 X1 Y0 r = false) (c11 : nr ax ay bx b2 X1 Y1 r = false) (c01 : nr ax ay bx b2 X0 Y1 r = false) :
    (Bx ax ay bx b2 X0 Y0 X1 Y1 /\ (0 <= sd ax ay bx b2 X0 Y0 ∨ 0 <= sd ax ay bx b2 X1 Y0 ∨ 0 <= sd ax ay bx b2 X1 Y1 ∨ 0 <= sd ax ay bx b2 X0 Y1) /\ (sd ax ay bx b2 X0 Y0 <= 0 ∨ sd ax ay bx b2 X1 Y0 <= 0 ∨ sd ax ay bx b2 X1 Y1 <= 0 ∨ sd ax ay bx b2 X0 Y1 <= 0))
    ↔ (F151 ax ay bx b2 X0 Y0 X1 Y1 = true ∨ F151 ax ay bx b2 X1 Y0 X0 Y1 = true) := by
  have nc : ∀ cx cy, nr ax ay bx b2 cx cy r = false -> ¬ (sd ax ay bx b2 cx cy = 0 /\ Btw cx cy ax ay bx b2) := fun cx cy h hn => by
    rw [near_on hr hn.2 hn.1] at h; cases h
  have no : ∀ qx qy, Out qx qy X0 Y0 X1 Y1 -> ¬ Btw qx qy X0 Y0 X1 Y1 /\ ¬ Btw qx qy X1 Y0 X0 Y1 := fun qx qy h => by
    unfold Out at h; unfold Btw; omega
  have hs : sd ax ay bx b2 X0 Y0 + sd ax ay bx b2 X1 Y1 = sd ax ay bx b2 X1 Y0 + sd ax ay bx b2 X0 Y1 := by unfold sd; grind
  have k1 := crs h1 h2 h3 h4 g1 g2 g3 g4 (nc _ _ c00) (nc _ _ c11) (no _ _ oa).1 (no _ _ ob).1
  have k2 := crs h1 h2 h3 h4 g3 g2 g1 g4 (nc _ _ c10) (nc _ _ c01) (no _ _ oa).2 (no _ _ ob).2
  rw [k1, k2]
  have i00 : X0 <= X0 /\ X0 <= X1 /\ Y0 <= Y0 /\ Y0 <= Y1 := by omega
  have i10 : X0 <= X1 /\ X1 <= X1 /\ Y0 <= Y0 /\ Y0 <= Y1 := by omega
  have i11 : X0 <= X1 /\ X1 <= X1 /\ Y0 <= Y1 /\ Y1 <= Y1 := by omega
  have i01 : X0 <= X0 /\ X0 <= X1 /\ Y0 <= Y1 /\ Y1 <= Y1 := by omega
  constructor
  · rintro ⟨hB, hl, hr'⟩
    have d1 := diagB i00 i11 oa ob hB
    have d2 := diagB i10 i01 oa ob hB
    have nz : ∀ cx cy, X0 <= cx /\ cx <= X1 /\ Y0 <= cy /\ cy <= Y1 -> nr ax ay bx b2 cx cy r = false -> sd ax ay bx b2 cx cy ≠ 0 := fun cx cy hi h h0 =>
      nc cx cy h ⟨h0, cornB hi.1 hi.2.1 hi.2.2.1 hi.2.2.2 oa ob hB h0⟩
    have z1 := nz _ _ i00 c00
    have z2 := nz _ _ i10 c10
    have z3 := nz _ _ i11 c11
    have z4 := nz _ _ i01 c01
    by_cases hd : (0 < sd ax ay bx b2 X0 Y0 /\ sd ax ay bx b2 X1 Y1 < 0) ∨ (sd ax ay bx b2 X0 Y0 < 0 /\ 0 < sd ax ay bx b2 X1 Y1)
    · exact .inl ⟨hd, d1 hd⟩
    · have hd2 : (0 < sd ax ay bx b2 X1 Y0 /\ sd ax ay bx b2 X0 Y1 < 0) ∨ (sd ax ay bx b2 X1 Y0 < 0 /\ 0 < sd ax ay bx b2 X0 Y1) := by omega
      exact .inr ⟨hd2, d2 hd2⟩
  · rintro (⟨a, b⟩ | ⟨a, b⟩)
    · exact ⟨diagM i00 i11 a b, by omega, by omega⟩
    · exact ⟨diagM i10 i01 a b, by omega, by omega⟩
end
end
end Go.Dx
namespace Go.Dx
open Go.IntKind (i64 u64 u8)
open Go.Sx
noncomputable section
set_option linter.unusedSimpArgs false
theorem ix1_zero {e i m : Int} (h : ix1 e i m = 0) : e = 0 /\ 0 <= i /\ i < m := by
  unfold ix1 at h
  cases he : e == 0 with
  | false => rw [he, cond_false] at h; rw [h] at he; cases he
  | true =>
    rw [he, cond_true] at h
    refine ⟨eq_of_beq he, ?_⟩
    unfold bad1 at h
    by_cases h1 : i < 0
    · rw [decide_eq_true h1] at h; cases h
    · rw [decide_eq_false h1, cond_false] at h
      by_cases h2 : m <= i
      · rw [decide_eq_true h2] at h; cases h
      · omega
end
end Go.Dx
namespace Go.Dx
open Go.IntKind (i64 u64 u8)
open Go.Sx
noncomputable section
set_option linter.unusedVariables false
set_option linter.unusedSimpArgs false
def crn (ax ay bx b2 w px py : Int) : Bool := F106_0 (F125_0 px) (F125_1 py) ax ay bx b2 w
def far2 (ax ay X0 Y0 X1 Y1 : Int) : Int := i64.wrap (i64.wrap (max (max 0 (i64.wrap (i64.wrap (2 * X0) - ax))) (i64.wrap (ax - i64.wrap (2 * X1))) * max (max 0 (i64.wrap (i64.wrap (2 * X0) - ax))) (i64.wrap (ax - i64.wrap (2 * X1)))) + i64.wrap (max (max 0 (i64.wrap (i64.wrap (2 * Y0) - ay))) (i64.wrap (ay - i64.wrap (2 * Y1))) * max (max 0 (i64.wrap (i64.wrap (2 * Y0) - ay))) (i64.wrap (ay - i64.wrap (2 * Y1)))))
def tch (ax ay bx b2 w X0 Y0 X1 Y1 : Int) : Bool := bif crn ax ay bx b2 w X0 Y0 then true else bif crn ax ay bx b2 w X1 Y0 then true else bif crn ax ay bx b2 w X1 Y1 then true else bif crn ax ay bx b2 w X0 Y1 then true else bif decide (far2 ax ay X0 Y0 X1 Y1 <= i64.wrap (w * w)) then true else bif decide (far2 bx b2 X0 Y0 X1 Y1 <= i64.wrap (w * w)) then true else bif !F151 ax ay bx b2 (F125_0 X0) (F125_1 Y0) (F125_0 X1) (F125_1 Y1) then F151 ax ay bx b2 (F125_0 X1) (F125_1 Y0) (F125_0 X0) (F125_1 Y1) else true
theorem tch_eq (f2 : FnV) (x4 x5 x6 x7 x8 x9 : Int) : F126_0 f2 x4 x5 x6 x7 x8 x9 = tch (F150_0 (elV [Ty.int i64, Ty.int i64] f2) x5) (F150_1 (elV [Ty.int i64, Ty.int i64] f2) x5) (F150_2 (elV [Ty.int i64, Ty.int i64] f2) x5) (F150_3 (elV [Ty.int i64, Ty.int i64] f2) x5) x4 x6 x7 x8 x9 := rfl
section
variable {ax ay bx b2 w X0 Y0 X1 Y1 px py : Int}
def pl (x : Int) : Prop := -100000000 <= x /\ x <= 100000000
theorem dbl {x : Int} (h : pl x) : i64.wrap (2 * x) = 2 * x /\ sm (2 * x) := by
  unfold pl at h; unfold sm
  exact ⟨wrapI (by omega) (by omega), by omega⟩
theorem corner_p (h1 : sm ax) (h2 : sm ay) (h3 : sm bx) (h4 : sm b2) (h7 : 0 <= w) (h8 : w <= 1073741824) (hx : pl px) (hy : pl py) : F123_0 ax ay bx b2 w px py = nr ax ay bx b2 (2 * px) (2 * py) w := by
  unfold F123_0
  rw [(dbl hx).1, (dbl hy).1]
  exact near_p h1 h2 h3 h4 (dbl hx).2 (dbl hy).2 h7 h8
theorem corner_r (h1 : sm ax) (h2 : sm ay) (h3 : sm bx) (h4 : sm b2) (h7 : 0 <= w) (h8 : w <= 1073741824) (hx : pl px) (hy : pl py) : crn ax ay bx b2 w px py = nr ax ay bx b2 (2 * px) (2 * py) w := by
  unfold crn F125_0 F125_1
  rw [(dbl hx).1, (dbl hy).1]
  exact near_r h1 h2 h3 h4 (dbl hx).2 (dbl hy).2 h7 h8
theorem far_p (ax ay X0 Y0 X1 Y1 : Int) : F85_0 (max (max (i64.wrap (i64.wrap (2 * X0) - ax)) 0) (i64.wrap (ax - i64.wrap (2 * X1)))) (max (max (i64.wrap (i64.wrap (2 * Y0) - ay)) 0) (i64.wrap (ay - i64.wrap (2 * Y1)))) (max (max (i64.wrap (i64.wrap (2 * X0) - ax)) 0) (i64.wrap (ax - i64.wrap (2 * X1)))) (max (max (i64.wrap (i64.wrap (2 * Y0) - ay)) 0) (i64.wrap (ay - i64.wrap (2 * Y1)))) = far2 ax ay X0 Y0 X1 Y1 := by
  unfold F85_0 far2
  rw [Int.max_comm (i64.wrap (i64.wrap (2 * X0) - ax)) 0, Int.max_comm (i64.wrap (i64.wrap (2 * Y0) - ay)) 0]
theorem far_out (h1 : sm ax) (h2 : sm ay) (g1 : pl X0) (g2 : pl Y0) (g3 : pl X1) (g4 : pl Y1) (h7 : 0 <= w) (h8 : w <= 1073741824) (h : ¬ far2 ax ay X0 Y0 X1 Y1 <= i64.wrap (w * w)) : Out ax ay (2 * X0) (2 * Y0) (2 * X1) (2 * Y1) := by
  apply Classical.byContradiction
  intro hn
  apply h
  unfold far2
  rw [(dbl g1).1, (dbl g2).1, (dbl g3).1, (dbl g4).1]
  unfold sm at h1 h2
  unfold pl at g1 g2 g3 g4
  unfold Out at hn
  rw [wrapI (x := 2 * X0 - ax) (by omega) (by omega), wrapI (x := ax - 2 * X1) (by omega) (by omega), wrapI (x := 2 * Y0 - ay) (by omega) (by omega), wrapI (x := ay - 2 * Y1) (by omega) (by omega)]
  rw [show max (max 0 (2 * X0 - ax)) (ax - 2 * X1) = 0 from by omega, show max (max 0 (2 * Y0 - ay)) (ay - 2 * Y1) = 0 from by omega]
  have hr := mulS (x := w) (y := w) (A := 1073741824) (B := 1073741824) (by omega) h8 (by omega) h8
  have hr0 : 0 <= w * w := Int.mul_nonneg h7 h7
  rw [wrapI (x := w * w) (by omega) (by omega), wrapI (x := 0 * 0) (by decide) (by decide), wrapI (x := 0 * 0 + 0 * 0) (by decide) (by decide)]
  simpa using hr0
theorem thr_p (h1 : sm ax) (h2 : sm ay) (h3 : sm bx) (h4 : sm b2) (g1 : pl X0) (g2 : pl Y0) (g3 : pl X1) (g4 : pl Y1) :
    F145_0 ax ay bx b2 X0 Y0 X1 Y1 = true ↔ (Bx ax ay bx b2 (2 * X0) (2 * Y0) (2 * X1) (2 * Y1) /\ (0 <= sd ax ay bx b2 (2 * X0) (2 * Y0) ∨ 0 <= sd ax ay bx b2 (2 * X1) (2 * Y0) ∨ 0 <= sd ax ay bx b2 (2 * X1) (2 * Y1) ∨ 0 <= sd ax ay bx b2 (2 * X0) (2 * Y1)) /\ (sd ax ay bx b2 (2 * X0) (2 * Y0) <= 0 ∨ sd ax ay bx b2 (2 * X1) (2 * Y0) <= 0 ∨ sd ax ay bx b2 (2 * X1) (2 * Y1) <= 0 ∨ sd ax ay bx b2 (2 * X0) (2 * Y1) <= 0)) := by
  have s : ∀ px py, pl px -> pl py -> F78_0 ax ay bx b2 (F101_0 px 2) (F101_1 py 2) = sd ax ay bx b2 (2 * px) (2 * py) := fun px py hx hy => by
    unfold F78_0 F101_0 F101_1
    rw [(dbl hx).1, (dbl hy).1]
    exact (sd_p h1 h2 h3 h4 (dbl hx).2 (dbl hy).2).1
  unfold F145_0
  rw [s _ _ g1 g2, s _ _ g3 g2, s _ _ g3 g4, s _ _ g1 g4, (dbl g1).1, (dbl g2).1, (dbl g3).1, (dbl g4).1]
  generalize sd ax ay bx b2 (2 * X0) (2 * Y0) = p
  generalize sd ax ay bx b2 (2 * X1) (2 * Y0) = q
  generalize sd ax ay bx b2 (2 * X1) (2 * Y1) = u
  generalize sd ax ay bx b2 (2 * X0) (2 * Y1) = t
  unfold Bx
  have o4 : ∀ a b c d : Bool, (bif bif bif a then true else b then true else c then true else d) = true ↔ (a = true ∨ b = true ∨ c = true ∨ d = true) := by
    intro a b c d; cases a <;> cases b <;> cases c <;> cases d <;> simp
  have e1 := o4 (decide (max ax bx < 2 * X0)) (decide (2 * X1 < min ax bx)) (decide (max ay b2 < 2 * Y0)) (decide (2 * Y1 < min ay b2))
  have e2 := o4 (decide (0 <= p)) (decide (0 <= q)) (decide (0 <= u)) (decide (0 <= t))
  have e3 := o4 (decide (p <= 0)) (decide (q <= 0)) (decide (u <= 0)) (decide (t <= 0))
  simp only [decide_eq_true_eq] at e1 e2 e3
  rw [← e1, ← e2, ← e3]
  generalize (bif bif bif decide (max ax bx < 2 * X0) then true else decide (2 * X1 < min ax bx) then true else decide (max ay b2 < 2 * Y0) then true else decide (2 * Y1 < min ay b2)) = A
  generalize (bif bif bif decide (0 <= p) then true else decide (0 <= q) then true else decide (0 <= u) then true else decide (0 <= t)) = B
  generalize (bif bif bif decide (p <= 0) then true else decide (q <= 0) then true else decide (u <= 0) then true else decide (t <= 0)) = C
  cases A <;> cases B <;> cases C <;> simp
theorem piece_eq (h1 : sm ax) (h2 : sm ay) (h3 : sm bx) (h4 : sm b2) (g1 : pl X0) (g2 : pl Y0) (g3 : pl X1) (g4 : pl Y1) (hX : X0 <= X1) (hY : Y0 <= Y1) (h7 : 0 <= w) (h8 : w <= 1073741824) :
    F111_0 ax ay bx b2 w X0 Y0 X1 Y1 = bif crn ax ay bx b2 w X0 Y0 && (crn ax ay bx b2 w X1 Y0 && (crn ax ay bx b2 w X1 Y1 && crn ax ay bx b2 w X0 Y1)) then 2 else bif tch ax ay bx b2 w X0 Y0 X1 Y1 then 1 else 0 := by
  have ht : nr ax ay bx b2 (2 * X0) (2 * Y0) w = false -> nr ax ay bx b2 (2 * X1) (2 * Y0) w = false -> nr ax ay bx b2 (2 * X1) (2 * Y1) w = false -> nr ax ay bx b2 (2 * X0) (2 * Y1) w = false -> ¬ far2 ax ay X0 Y0 X1 Y1 <= i64.wrap (w * w) -> ¬ far2 bx b2 X0 Y0 X1 Y1 <= i64.wrap (w * w) ->
      F145_0 ax ay bx b2 X0 Y0 X1 Y1 = bif !F151 ax ay bx b2 (F125_0 X0) (F125_1 Y0) (F125_0 X1) (F125_1 Y1) then F151 ax ay bx b2 (F125_0 X1) (F125_1 Y0) (F125_0 X0) (F125_1 Y1) else true := by
    intro n0 n1 n2 n3 m1 m2
    unfold F125_0 F125_1
    rw [(dbl g1).1, (dbl g2).1, (dbl g3).1, (dbl g4).1]
    have k := thr_crs h1 h2 h3 h4 (dbl g1).2 (dbl g2).2 (dbl g3).2 (dbl g4).2 (by omega) (by omega) h7 (far_out h1 h2 g1 g2 g3 g4 h7 h8 m1) (far_out h3 h4 g1 g2 g3 g4 h7 h8 m2) n0 n1 n2 n3
    rw [← thr_p h1 h2 h3 h4 g1 g2 g3 g4] at k
    generalize F145_0 ax ay bx b2 X0 Y0 X1 Y1 = a at k ⊢
    generalize F151 ax ay bx b2 (2 * X0) (2 * Y0) (2 * X1) (2 * Y1) = b at k ⊢
    generalize F151 ax ay bx b2 (2 * X1) (2 * Y0) (2 * X0) (2 * Y1) = c at k ⊢
    cases a <;> cases b <;> cases c <;> simp_all
  unfold F111_0 tch
  rw [far_p, far_p]
  rw [corner_p h1 h2 h3 h4 h7 h8 g1 g2, corner_p h1 h2 h3 h4 h7 h8 g3 g2, corner_p h1 h2 h3 h4 h7 h8 g3 g4, corner_p h1 h2 h3 h4 h7 h8 g1 g4, corner_r h1 h2 h3 h4 h7 h8 g1 g2, corner_r h1 h2 h3 h4 h7 h8 g3 g2, corner_r h1 h2 h3 h4 h7 h8 g3 g4, corner_r h1 h2 h3 h4 h7 h8 g1 g4]
  generalize nr ax ay bx b2 (2 * X0) (2 * Y0) w = n0 at ht ⊢
  generalize nr ax ay bx b2 (2 * X1) (2 * Y0) w = n1 at ht ⊢
  generalize nr ax ay bx b2 (2 * X1) (2 * Y1) w = n2 at ht ⊢
  generalize nr ax ay bx b2 (2 * X0) (2 * Y1) w = n3 at ht ⊢
  cases n0
  · cases n1
    · cases n2
      · cases n3
        · by_cases m1 : far2 ax ay X0 Y0 X1 Y1 <= i64.wrap (w * w)
          · rw [decide_eq_true m1]; rfl
          · rw [decide_eq_false m1]
            by_cases m2 : far2 bx b2 X0 Y0 X1 Y1 <= i64.wrap (w * w)
            · rw [decide_eq_true m2]; rfl
            · rw [decide_eq_false m2, ht rfl rfl rfl rfl m1 m2]; rfl
        · rfl
      · rfl
    · rfl
  · cases n1
    · cases n2 <;> cases n3 <;> rfl
    · cases n2
      · cases n3 <;> rfl
      · cases n3 <;> rfl
end
end
end Go.Dx
namespace Go.Dx
open Go.IntKind (i64 u64 u8)
open Go.Sx
noncomputable section
set_option linter.unusedVariables false
set_option linter.unusedSimpArgs false
theorem sel {α : Type} {e : Int} {p : Bool} {v v' z : α} (h : e = 0 -> p = false -> v = v') : (bif e != 0 then z else bif p then z else v) = (bif e == 0 then bif p then z else bif e != 0 then z else v' else bif e != 0 then z else v') := by
  by_cases he : e = 0
  · subst he
    cases p with
    | true => rfl
    | false => exact h rfl rfl
  · have h1 : (e == 0) = false := by simpa using he
    have h2 : (e != 0) = true := by simpa using he
    rw [h1, h2]; rfl
theorem selE (e : Int) (p : Bool) : (bif e != 0 then e else bif p then 7 else 0) = (bif e == 0 then bif p then 7 else bif e != 0 then e else 0 else bif e != 0 then e else 0) := by
  by_cases he : e = 0
  · subst he; cases p <;> rfl
  · have h1 : (e == 0) = false := by simpa using he
    have h2 : (e != 0) = true := by simpa using he
    rw [h1, h2]; rfl
theorem rough_eq (a b c d : Int) : F53_0 a b c d = !F58_0 a b c d := by
  unfold F53_0 F58_0
  rw [wild_placed]
  generalize F51 _ _ = p
  have e1 : decide (c < a) = !decide (a <= c) := by by_cases h : a <= c <;> simp [h] <;> omega
  have e2 : decide (d < b) = !decide (b <= d) := by by_cases h : b <= d <;> simp [h] <;> omega
  rw [e1, e2]
  generalize decide (a <= c) = q
  generalize decide (b <= d) = u
  cases p <;> cases q <;> cases u <;> rfl
theorem patch_in {a b c d : Int} (h : F58_0 a b c d = true) : (-100000 <= a /\ a <= 100000) /\ (-100000 <= b /\ b <= 100000) /\ (-100000 <= c /\ c <= 100000) /\ (-100000 <= d /\ d <= 100000) /\ a <= c /\ b <= d := by
  unfold F58_0 at h
  cases hp : F51 4 (elV [Ty.int i64] (secF [V.int i64 a, V.int i64 b, V.int i64 c, V.int i64 d] 0 ((1 + 1 + 1 + 1 - 0) / 4))) with
  | false => rw [hp] at h; cases h
  | true =>
    rw [hp, cond_true] at h
    by_cases h1 : a <= c
    · rw [decide_eq_true h1, cond_true] at h
      have h2 := of_decide_eq_true h
      unfold F51 at hp
      exact ⟨from_in (allB_ok hp 0 (by omega)), from_in (allB_ok hp 1 (by omega)), from_in (allB_ok hp 2 (by omega)), from_in (allB_ok hp 3 (by omega)), h1, h2⟩
    · rw [decide_eq_false h1] at h; cases h
theorem pt_in {x y : Int} (h : ptOk x y = true) : (-100000 <= x /\ x <= 100000) /\ (-100000 <= y /\ y <= 100000) := by
  unfold ptOk F51 at h
  exact ⟨from_in (allB_ok h 0 (by omega)), from_in (allB_ok h 1 (by omega))⟩
structure RoadIn (n : Nat) (f : Nat -> List V) (w : Int) : Prop where
  two : 2 <= n
  eight : n <= 8
  pts : ∀ j, j < n -> (-100000 <= iv (hdV (f j)) /\ iv (hdV (f j)) <= 100000) /\ (-100000 <= iv (hdV (tlV (f j))) /\ iv (hdV (tlV (f j))) <= 100000)
  adj : ∀ j, j + 1 < n -> eqP f (j + 1) j = false
  w1 : 100 <= w
  w2 : w <= 30000
theorem road_in {n0 : Nat} {f0 : Nat -> List V} {i : Nat} (h : cR n0 f0 i = 0) : RoadIn (lenV (hdV (tlV (tlV (f0 i))))) (fun j => views [Ty.int i64, Ty.int i64] (atV (hdV (tlV (tlV (f0 i)))) j)) (iv (hdV (tlV (tlV (tlV (f0 i)))))) := by
  have h' : F70 n0 (elV tyR f0) (i : Int) = 0 := h
  unfold F70 at h'
  simp only [Int.toNat_natCast] at h'
  cases hn : F122 (sv (hdV (elV tyR f0 i))) with
  | false => rw [hn] at h'; cases h'
  | true =>
    rw [hn, Bool.not_true, cond_false] at h'
    cases hd : exB i (fun k => (sv (hdV (elV tyR f0 k))).toList == (sv (hdV (elV tyR f0 i))).toList) with
    | true => rw [hd] at h'; cases h'
    | false =>
      rw [hd, cond_false] at h'
      have h2 : roadE (iv (hdV (tlV (f0 i)))) (lenV (hdV (tlV (tlV (f0 i))))) (fun j => views [Ty.int i64, Ty.int i64] (atV (hdV (tlV (tlV (f0 i)))) j)) (iv (hdV (tlV (tlV (tlV (f0 i)))))) = 0 := h'
      unfold roadE at h2
      generalize (fun j => views [Ty.int i64, Ty.int i64] (atV (hdV (tlV (tlV (f0 i)))) j)) = f at h2 ⊢
      generalize lenV (hdV (tlV (tlV (f0 i)))) = n at h2 ⊢
      generalize iv (hdV (tlV (tlV (tlV (f0 i))))) = w at h2 ⊢
      generalize iv (hdV (tlV (f0 i))) = k at h2
      cases h3 : F71_0 k 0 3 with
      | false => rw [h3] at h2; cases h2
      | true =>
        rw [h3, Bool.not_true, cond_false] at h2
        by_cases h4 : (n : Int) < 2
        · rw [decide_eq_true h4] at h2; cases h2
        · rw [decide_eq_false h4, cond_false] at h2
          by_cases h5 : 8 < (n : Int)
          · rw [decide_eq_true h5] at h2; cases h2
          · rw [decide_eq_false h5, cond_false] at h2
            cases h6 : exB n (fun i => !ptOk (iv (hdV (f i))) (iv (hdV (tlV (f i))))) with
            | true => rw [h6] at h2; cases h2
            | false =>
              rw [h6, cond_false] at h2
              cases h7 : F71_0 w 100 30000 with
              | false => rw [h7] at h2; cases h2
              | true =>
                rw [h7, Bool.not_true, cond_false] at h2
                cases h8 : adjP n f with
                | true => rw [h8] at h2; cases h2
                | false =>
                  have hw := from_in h7
                  refine ⟨by omega, by omega, fun j hj => ?_, fun j hj => ?_, hw.1, hw.2⟩
                  · apply pt_in
                    cases hp : ptOk (iv (hdV (f j))) (iv (hdV (tlV (f j)))) with
                    | true => rfl
                    | false => rw [exB_true j hj (by rw [hp]; rfl)] at h6; cases h6
                  · cases hp : eqP f (j + 1) j with
                    | false => rfl
                    | true =>
                      unfold adjP at h8
                      rw [exB_true (j + 1) hj (by rw [Nat.add_sub_cancel, hp]; simp)] at h8; cases h8
section
variable {n : Nat} {f : Nat -> List V} {w : Int}
theorem w1p {j n : Nat} (h : j < n) (hn : n <= 8) : (i64.wrap ((j : Int) + 1)).toNat = j + 1 := by
  rw [wrapI (by omega) (by omega)]; omega
theorem dpt {x : Int} (h : -100000 <= x /\ x <= 100000) : i64.wrap (2 * x) = 2 * x /\ sm (2 * x) := dbl (by unfold pl; omega)
theorem meets_eq (hr : RoadIn n f w) {X0 Y0 X1 Y1 : Int} (g1 : pl X0) (g2 : pl Y0) (g3 : pl X1) (g4 : pl Y1) (hX : X0 <= X1) (hY : Y0 <= Y1) : F61 n f w X0 Y0 X1 Y1 = F76 n f w X0 Y0 X1 Y1 := by
  unfold F61 F76
  refine maxTo_congr fun i hi => ?_
  have hj : i + 1 < n := by omega
  obtain ⟨a1, a2⟩ := hr.pts i (by omega)
  obtain ⟨b1, b2⟩ := hr.pts (i + 1) hj
  have := hr.w1
  have := hr.w2
  have hw := w1p (j := i) (n := n) (by omega) hr.eight
  unfold p61 q76
  rw [hw]
  have k := piece_eq (ax := i64.wrap (2 * iv (hdV (f i)))) (ay := i64.wrap (2 * iv (hdV (tlV (f i))))) (bx := i64.wrap (2 * iv (hdV (f (i + 1))))) (b2 := i64.wrap (2 * iv (hdV (tlV (f (i + 1)))))) (w := w)
    (by rw [(dpt a1).1]; exact (dpt a1).2) (by rw [(dpt a2).1]; exact (dpt a2).2) (by rw [(dpt b1).1]; exact (dpt b1).2) (by rw [(dpt b2).1]; exact (dpt b2).2) g1 g2 g3 g4 hX hY (by omega) (by omega)
  rw [k, tch_eq]
  unfold F124_0 F150_0 F150_1 F150_2 F150_3 F125_0 F125_1 crn F125_0 F125_1
  rw [hw]
  rfl
theorem on_eq (hr : RoadIn n f w) {x y : Int} (g1 : pl x) (g2 : pl y) : F74 n f w x y = F75 n f w x y := by
  unfold F74 F75
  refine exB_congr fun i hi => ?_
  have hj : i + 1 < n := by omega
  obtain ⟨a1, a2⟩ := hr.pts i (by omega)
  obtain ⟨b1, b2⟩ := hr.pts (i + 1) hj
  have := hr.w1
  have := hr.w2
  have hw := w1p (j := i) (n := n) (by omega) hr.eight
  unfold p74 p75
  rw [hw]
  have s1 : sm (i64.wrap (2 * iv (hdV (f i)))) := by rw [(dpt a1).1]; exact (dpt a1).2
  have s2 : sm (i64.wrap (2 * iv (hdV (tlV (f i))))) := by rw [(dpt a2).1]; exact (dpt a2).2
  have s3 : sm (i64.wrap (2 * iv (hdV (f (i + 1))))) := by rw [(dpt b1).1]; exact (dpt b1).2
  have s4 : sm (i64.wrap (2 * iv (hdV (tlV (f (i + 1)))))) := by rw [(dpt b2).1]; exact (dpt b2).2
  rw [corner_p s1 s2 s3 s4 (by omega) (by omega) g1 g2, ← corner_r s1 s2 s3 s4 (by omega) (by omega) g1 g2]
  unfold F124_0 F150_0 F150_1 F150_2 F150_3 F125_0 F125_1 crn F125_0 F125_1
  rw [hw]
  rfl
end
section
variable {n0 : Nat} {f0 : Nat -> List V} {n2 : Nat} {f2 : Nat -> List V} {n4 : Nat} {f4 : Nat -> List V} {n6 : Nat} {f6 : Nat -> List V}
theorem ix_road {x8 : Int} (h : ix1 (F24_2 n0 (elV tyR f0) n2 (elV tyT f2) n4 (elV tyF f4) n6 (elV tyC f6)) x8 n0 = 0) : RoadIn (lenV (hdV (tlV (tlV (f0 x8.toNat))))) (fun j => views [Ty.int i64, Ty.int i64] (atV (hdV (tlV (tlV (f0 x8.toNat)))) j)) (iv (hdV (tlV (tlV (tlV (f0 x8.toNat)))))) := by
  obtain ⟨h1, h2, h3⟩ := ix1_zero h
  have hv := (valid h1).rd x8.toNat (by omega)
  exact road_in (f0 := f0) (n0 := n0) (by have : cR n0 (elV tyR f0) x8.toNat = cR n0 f0 x8.toNat := by unfold cR; rw [elV2]
                                          rw [← this]; exact hv)
theorem on_law (x8 x9 x10 : Int) : F25_0 n0 f0 n2 f2 n4 f4 n6 f6 x8 x9 x10 = F26_0 n0 f0 n2 f2 n4 f4 n6 f6 x8 x9 x10 /\ F25_1 n0 f0 n2 f2 n4 f4 n6 f6 x8 x9 x10 = F26_1 n0 f0 n2 f2 n4 f4 n6 f6 x8 x9 x10 := by
  have hc := chk2 (n0 := n0) (f0 := f0) (n2 := n2) (f2 := f2) (n4 := n4) (f4 := f4) (n6 := n6) (f6 := f6) (i := x8) (m := n0) (fun h => by have := (valid h).l0; omega)
  have hd := chk50 (n0 := n0) (f0 := f0) (n2 := n2) (f2 := f2) (n4 := n4) (f4 := f4) (n6 := n6) (f6 := f6) (i := x8) (m := n0)
  unfold F25_0 F26_0 F25_1 F26_1
  simp only [show (1 + 1 - 0) / 2 = 1 from rfl]
  rw [hc, hd, wild_placed]
  refine ⟨sel fun a b => ?_, selE _ _⟩
  have hp : ptOk x9 x10 = true := by
    have : (!ptOk x9 x10) = false := b
    simpa using this
  have := pt_in hp
  exact on_eq (ix_road a) (by unfold pl; omega) (by unfold pl; omega)
theorem meets_law (x8 x9 x10 x11 x12 : Int) : F22_0 n0 f0 n2 f2 n4 f4 n6 f6 x8 x9 x10 x11 x12 = F27_0 n0 f0 n2 f2 n4 f4 n6 f6 x8 x9 x10 x11 x12 /\ F22_1 n0 f0 n2 f2 n4 f4 n6 f6 x8 x9 x10 x11 x12 = F27_1 n0 f0 n2 f2 n4 f4 n6 f6 x8 x9 x10 x11 x12 := by
  have hc := chk2 (n0 := n0) (f0 := f0) (n2 := n2) (f2 := f2) (n4 := n4) (f4 := f4) (n6 := n6) (f6 := f6) (i := x8) (m := n0) (fun h => by have := (valid h).l0; omega)
  have hd := chk50 (n0 := n0) (f0 := f0) (n2 := n2) (f2 := f2) (n4 := n4) (f4 := f4) (n6 := n6) (f6 := f6) (i := x8) (m := n0)
  unfold F22_0 F27_0 F22_1 F27_1
  simp only [show (1 + 1 - 0) / 2 = 1 from rfl]
  rw [hc, hd, rough_eq]
  refine ⟨sel fun a b => ?_, selE _ _⟩
  have := patch_in (show F58_0 x9 x10 x11 x12 = true from by simpa using b)
  exact meets_eq (ix_road a) (by unfold pl; omega) (by unfold pl; omega) (by unfold pl; omega) (by unfold pl; omega) (by omega) (by omega)
end
end
end Go.Dx
namespace Go.Dx
open Go.IntKind (i64 u64 u8)
open Go.Sx Go.Proofs
set_option maxRecDepth 100000
set_option linter.unusedVariables false
set_option linter.unusedSimpArgs false
noncomputable section
def ctB24 : CTab := (19, .con C19) :: (26, .con C26) :: (27, .con C27) :: (76, .con C76) :: (126, .con C126) :: (75, .con C75) :: (151, .con C151) :: ctB17
theorem tabB24 : TabOk Tryz.prog eqs its ctB24 := .con ok19 (.con ok26 (.con ok27 (.con ok76 (.con ok126 (.con ok75 (.con ok151 (tabB17)))))))
def m5 (n0 : Nat) (f0 : FnV) (n2 : Nat) (f2 : FnV) (n4 : Nat) (f4 : FnV) (n6 : Nat) (f6 : FnV) (x8 x9 x10 x11 x12 x13 x14 : Int) : RT Empty := .obp ((∀ (i : Nat), i < n0 -> (sv (hdV (f0 i))).size <= (9223372036854775807 : Nat)) /\ ∀ (i : Nat), i < n6 -> (sv (hdV (f6 i))).size <= (9223372036854775807 : Nat)) (.obt (.obp ((∀ (i : Nat), i < n0 -> (sv (hdV (f0 i))).size <= (9223372036854775807 : Nat)) /\ ∀ (i : Nat), i < n6 -> (sv (hdV (f6 i))).size <= (9223372036854775807 : Nat)) (.obt (.obp ((∀ (i : Nat), i < n0 -> (sv (hdV (f0 i))).size <= (9223372036854775807 : Nat)) /\ ∀ (i : Nat), i < n6 -> (sv (hdV (f6 i))).size <= (9223372036854775807 : Nat)) (.obt (.obp ((∀ (i : Nat), i < n0 -> (sv (hdV (f0 i))).size <= (9223372036854775807 : Nat)) /\ ∀ (i : Nat), i < n6 -> (sv (hdV (f6 i))).size <= (9223372036854775807 : Nat)) (.obt (.obi (.obi (.obi (.obi (.obi (.obi (.obi (.obi (.obi (.obi (.obi (.obi (.br (bif bif bif bif F23_0 n0 (elV tyR f0) n2 (elV tyT f2) n4 (elV tyF f4) n6 (elV tyC f6) != F24_0 n0 (elV tyR f0) n2 (elV tyT f2) n4 (elV tyF f4) n6 (elV tyC f6) then true else F23_1 n0 (elV tyR f0) n2 (elV tyT f2) n4 (elV tyF f4) n6 (elV tyC f6) != F24_1 n0 (elV tyR f0) n2 (elV tyT f2) n4 (elV tyF f4) n6 (elV tyC f6) then true else F23_2 n0 (elV tyR f0) n2 (elV tyT f2) n4 (elV tyF f4) n6 (elV tyC f6) != F24_2 n0 (elV tyR f0) n2 (elV tyT f2) n4 (elV tyF f4) n6 (elV tyC f6) then true else !F25_0 n0 (elV tyR f0) n2 (elV tyT f2) n4 (elV tyF f4) n6 (elV tyC f6) x8 x9 x10 == F26_0 n0 (elV tyR f0) n2 (elV tyT f2) n4 (elV tyF f4) n6 (elV tyC f6) x8 x9 x10 then true else F25_1 n0 (elV tyR f0) n2 (elV tyT f2) n4 (elV tyF f4) n6 (elV tyC f6) x8 x9 x10 != F26_1 n0 (elV tyR f0) n2 (elV tyT f2) n4 (elV tyF f4) n6 (elV tyC f6) x8 x9 x10) (.ret (V.kb false)) (.obp ((∀ (i : Nat), i < n0 -> (sv (hdV (f0 i))).size <= (9223372036854775807 : Nat)) /\ ∀ (i : Nat), i < n6 -> (sv (hdV (f6 i))).size <= (9223372036854775807 : Nat)) (.obt (.obp ((∀ (i : Nat), i < n0 -> (sv (hdV (f0 i))).size <= (9223372036854775807 : Nat)) /\ ∀ (i : Nat), i < n6 -> (sv (hdV (f6 i))).size <= (9223372036854775807 : Nat)) (.obt (.obi (.obi (.obi (.br (bif F22_0 n0 (elV tyR f0) n2 (elV tyT f2) n4 (elV tyF f4) n6 (elV tyC f6) x8 x11 x12 x13 x14 == F27_0 n0 (elV tyR f0) n2 (elV tyT f2) n4 (elV tyF f4) n6 (elV tyC f6) x8 x11 x12 x13 x14 then F22_1 n0 (elV tyR f0) n2 (elV tyT f2) n4 (elV tyF f4) n6 (elV tyC f6) x8 x11 x12 x13 x14 == F27_1 n0 (elV tyR f0) n2 (elV tyT f2) n4 (elV tyF f4) n6 (elV tyC f6) x8 x11 x12 x13 x14 else false) (.obc (.obt (.ret (V.bool true)))) (.ret (V.kb false))))))))))))))))))))))))))))))
def rl5 (n0 : Nat) (f0 : FnV) (n2 : Nat) (f2 : FnV) (n4 : Nat) (f4 : FnV) (n6 : Nat) (f6 : FnV) (x8 x9 x10 x11 x12 x13 x14 : Int) : T (Leaf (Nat × Nat)) := runL (Nat × Nat) ctB24 u0 s5 [scV n0 f0 n2 f2 n4 f4 n6 f6, V.agg [V.int i64 x8, V.int i64 x9, V.int i64 x10, V.int i64 x11, V.int i64 x12, V.int i64 x13, V.int i64 x14]]
theorem f5m (n0 : Nat) (f0 : FnV) (n2 : Nat) (f2 : FnV) (n4 : Nat) (f4 : FnV) (n6 : Nat) (f6 : FnV) (x8 x9 x10 x11 x12 x13 x14 : Int) : fitT noD (rl5 n0 f0 n2 f2 n4 f4 n6 f6 x8 x9 x10 x11 x12 x13 x14) (m5 n0 f0 n2 f2 n4 f4 n6 f6 x8 x9 x10 x11 x12 x13 x14) = toF noD (m5 n0 f0 n2 f2 n4 f4 n6 f6 x8 x9 x10 x11 x12 x13 x14) := by kernel_rfl
theorem q5m (n0 : Nat) (f0 : FnV) (n2 : Nat) (f2 : FnV) (n4 : Nat) (f4 : FnV) (n6 : Nat) (f6 : FnV) (x8 x9 x10 x11 x12 x13 x14 : Int) : sameT (rl5 n0 f0 n2 f2 n4 f4 n6 f6 x8 x9 x10 x11 x12 x13 x14) (m5 n0 f0 n2 f2 n4 f4 n6 f6 x8 x9 x10 x11 x12 x13 x14) = (rl5 n0 f0 n2 f2 n4 f4 n6 f6 x8 x9 x10 x11 x12 x13 x14) := by kernel_rfl
theorem run5 (w0 : World) (n0 : Nat) (f0 : FnV) (n2 : Nat) (f2 : FnV) (n4 : Nat) (f4 : FnV) (n6 : Nat) (f6 : FnV) (x8 x9 x10 x11 x12 x13 x14 : Int) {r : V} (h : evR noE (m5 n0 f0 n2 f2 n4 f4 n6 f6 x8 x9 x10 x11 x12 x13 x14) r) : sat (LPof w0 (SV ctB24)) (runL (Nat × Nat) ctB24 u0 s5 [scV n0 f0 n2 f2 n4 f4 n6 f6, V.agg [V.int i64 x8, V.int i64 x9, V.int i64 x10, V.int i64 x11, V.int i64 x12, V.int i64 x13, V.int i64 x14]]) (topQ r) := run_ev0 (by kernel_rfl) _ (f5m n0 f0 n2 f2 n4 f4 n6 f6 x8 x9 x10 x11 x12 x13 x14) (q5m n0 f0 n2 f2 n4 f4 n6 f6 x8 x9 x10 x11 x12 x13 x14) h
def F5_0 (n0 : Nat) (f0 : FnV) (n2 : Nat) (f2 : FnV) (n4 : Nat) (f4 : FnV) (n6 : Nat) (f6 : FnV) (x8 x9 x10 x11 x12 x13 x14 : Int) : Bool := bif bif bif bif bif F23_0 n0 (elV tyR f0) n2 (elV tyT f2) n4 (elV tyF f4) n6 (elV tyC f6) != F24_0 n0 (elV tyR f0) n2 (elV tyT f2) n4 (elV tyF f4) n6 (elV tyC f6) then true else F23_1 n0 (elV tyR f0) n2 (elV tyT f2) n4 (elV tyF f4) n6 (elV tyC f6) != F24_1 n0 (elV tyR f0) n2 (elV tyT f2) n4 (elV tyF f4) n6 (elV tyC f6) then true else F23_2 n0 (elV tyR f0) n2 (elV tyT f2) n4 (elV tyF f4) n6 (elV tyC f6) != F24_2 n0 (elV tyR f0) n2 (elV tyT f2) n4 (elV tyF f4) n6 (elV tyC f6) then true else !F25_0 n0 (elV tyR f0) n2 (elV tyT f2) n4 (elV tyF f4) n6 (elV tyC f6) x8 x9 x10 == F26_0 n0 (elV tyR f0) n2 (elV tyT f2) n4 (elV tyF f4) n6 (elV tyC f6) x8 x9 x10 then true else F25_1 n0 (elV tyR f0) n2 (elV tyT f2) n4 (elV tyF f4) n6 (elV tyC f6) x8 x9 x10 != F26_1 n0 (elV tyR f0) n2 (elV tyT f2) n4 (elV tyF f4) n6 (elV tyC f6) x8 x9 x10 then false else bif bif F22_0 n0 (elV tyR f0) n2 (elV tyT f2) n4 (elV tyF f4) n6 (elV tyC f6) x8 x11 x12 x13 x14 == F27_0 n0 (elV tyR f0) n2 (elV tyT f2) n4 (elV tyF f4) n6 (elV tyC f6) x8 x11 x12 x13 x14 then F22_1 n0 (elV tyR f0) n2 (elV tyT f2) n4 (elV tyF f4) n6 (elV tyC f6) x8 x11 x12 x13 x14 == F27_1 n0 (elV tyR f0) n2 (elV tyT f2) n4 (elV tyF f4) n6 (elV tyC f6) x8 x11 x12 x13 x14 else false then true else false
def R5 (n0 : Nat) (f0 : FnV) (n2 : Nat) (f2 : FnV) (n4 : Nat) (f4 : FnV) (n6 : Nat) (f6 : FnV) (x8 x9 x10 x11 x12 x13 x14 : Int) : V := .bool (F5_0 n0 f0 n2 f2 n4 f4 n6 f6 x8 x9 x10 x11 x12 x13 x14)
theorem ev5 (n0 : Nat) (f0 : FnV) (n2 : Nat) (f2 : FnV) (n4 : Nat) (f4 : FnV) (n6 : Nat) (f6 : FnV) (x8 x9 x10 x11 x12 x13 x14 : Int) (hp : SzOk n0 f0 /\ SzOk n6 f6) : evR noE (m5 n0 f0 n2 f2 n4 f4 n6 f6 x8 x9 x10 x11 x12 x13 x14) (R5 n0 f0 n2 f2 n4 f4 n6 f6 x8 x9 x10 x11 x12 x13 x14) := evObp (by first | assumption | (exact hp)) (evObt (evObp (by first | assumption | (exact hp)) (evObt (evObp (by first | assumption | (exact hp)) (evObt (evObp (by first | assumption | (exact hp)) (evObt (evObi (evObi (evObi (evObi (evObi (evObi (evObi (evObi (evObi (evObi (evObi (evObi (evBr (fun h0 => evRet (by unfold R5 F5_0; try rw [h0]; rfl)) (fun h0 => evObp (by first | assumption | (exact hp)) (evObt (evObp (by first | assumption | (exact hp)) (evObt (evObi (evObi (evObi (evBr (fun h1 => evObc (evObt (evRet (by unfold R5 F5_0; try rw [h0]; try rw [h1]; rfl)))) (fun h1 => evRet (by unfold R5 F5_0; try rw [h0]; try rw [h1]; rfl))))))))))))))))))))))))))))))
theorem law5 (n0 : Nat) (f0 : FnV) (n2 : Nat) (f2 : FnV) (n4 : Nat) (f4 : FnV) (n6 : Nat) (f6 : FnV) (x8 x9 x10 x11 x12 x13 x14 : Int) : F5_0 n0 f0 n2 f2 n4 f4 n6 f6 x8 x9 x10 x11 x12 x13 x14 = true := by
  unfold F5_0
  have e0 : F23_0 n0 (elV tyR f0) n2 (elV tyT f2) n4 (elV tyF f4) n6 (elV tyC f6) = F24_0 n0 (elV tyR f0) n2 (elV tyT f2) n4 (elV tyF f4) n6 (elV tyC f6) := congrArg (fun t => t.1) (check_eq _ _ _ _ _ _ _ _)
  have e1 : F23_1 n0 (elV tyR f0) n2 (elV tyT f2) n4 (elV tyF f4) n6 (elV tyC f6) = F24_1 n0 (elV tyR f0) n2 (elV tyT f2) n4 (elV tyF f4) n6 (elV tyC f6) := congrArg (fun t => t.2.1) (check_eq _ _ _ _ _ _ _ _)
  rw [e0, e1, F23_24, (on_law x8 x9 x10).1, (on_law x8 x9 x10).2, (meets_law x8 x11 x12 x13 x14).1, (meets_law x8 x11 x12 x13 x14).2]
  simp only [bne_self_eq_false, BEq.rfl, Bool.not_true, cond_true, cond_false]
theorem evl5 (n0 : Nat) (f0 : FnV) (n2 : Nat) (f2 : FnV) (n4 : Nat) (f4 : FnV) (n6 : Nat) (f6 : FnV) (x8 x9 x10 x11 x12 x13 x14 : Int) (hp : SzOk n0 f0 /\ SzOk n6 f6) : evR noE (m5 n0 f0 n2 f2 n4 f4 n6 f6 x8 x9 x10 x11 x12 x13 x14) (.bool true) := by
  have h := ev5 n0 f0 n2 f2 n4 f4 n6 f6 x8 x9 x10 x11 x12 x13 x14 hp
  unfold R5 at h
  rw [law5 n0 f0 n2 f2 n4 f4 n6 f6 x8 x9 x10 x11 x12 x13 x14] at h
  exact h
def tys5 : List Ty := [.agg [.sl tyR, .sl tyT, .sl tyF, .sl tyC], .agg [.int .i64, .int .i64, .int .i64, .int .i64, .int .i64, .int .i64, .int .i64]]
theorem ok5 : (vP (lawC tys5)).Ok Tryz.prog 5 := mkC_ev (J := Nat × Nat) (un := u0) tabB24 hE hI Tryz.func5 (by kernel_rfl) (by kernel_rfl) (by kernel_rfl) rfl (fun w0 ds hp => run5 w0 _ _ _ _ _ _ _ _ _ _ _ _ _ _ _ (evl5 _ _ _ _ _ _ _ _ _ _ _ _ _ _ _ (by have h : szTys [.agg [.sl tyR, .sl tyT, .sl tyF, .sl tyC], .agg [.int .i64, .int .i64, .int .i64, .int .i64, .int .i64, .int .i64, .int .i64]] _ := hp; exact ⟨fun i hi => (h.1.1 i hi).1, fun i hi => (h.1.2.2.2.1 i hi).1⟩)))
end
end Go.Dx
