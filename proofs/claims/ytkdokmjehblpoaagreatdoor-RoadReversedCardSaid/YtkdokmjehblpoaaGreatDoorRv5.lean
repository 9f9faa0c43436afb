/- Part 5 of a proof. No conditions. -/
import Derived.Test.YtkdokmjehblpoaaGreatDoorRv4
import Derived.Laws.MathBits
set_option maxRecDepth 100000
set_option linter.unusedVariables false
set_option linter.unusedSimpArgs false
namespace Go.Dx
open Go.IntKind (i64 u64 u8)
open Go.Sx Go.Proofs
noncomputable section
def ctB16e : CTab := (55, .con C55) :: (61, .con C61) :: (74, .con C74) :: ctB16d
theorem tabB16e : TabOk Tryz.prog eqs its ctB16e := .con ok55 (.con ok61 (.con ok74 (tabB16d)))
attribute [local irreducible] F44 F50_0 F91_0
def m22 (n0 : Nat) (f0 : FnV) (n2 : Nat) (f2 : FnV) (n4 : Nat) (f4 : FnV) (n6 : Nat) (f6 : FnV) (x8 x9 x10 x11 x12 : Int) : RT Empty := .asm (true = true -> n0 <= 9223372036854775807) (.obp (((∀ (i : Nat), i < n0 -> (sv (hdV (f0 i))).size <= (9223372036854775807 : Nat)) /\ ∀ (i : Nat), i < n6 -> (sv (hdV (f6 i))).size <= (9223372036854775807 : Nat)) /\ (0 : Nat) = (0 : Nat) /\ (2 : Nat) <= (100 : Nat)) (.obt (.br (F44 n0 (elV tyR f0) n2 (elV tyT f2) n4 (elV tyF f4) n6 (elV tyC f6) 2 (elV tp1 (secF [vi x8, vi (↑n0 : Int)] 0 1)) != 0) (.ret (V.tup [vi 0, vi (F44 n0 (elV tyR f0) n2 (elV tyT f2) n4 (elV tyF f4) n6 (elV tyC f6) 2 (elV tp1 (secF [vi x8, vi (↑n0 : Int)] 0 1)))])) (.obc (.obt (.br (F53_0 x9 x10 x11 x12) (.ret (V.tup [vi 0, vi 7])) (.ob (decide (0 <= x8 /\ x8 < (↑n0 : Int))) (.obc (.obt (.ret (V.tup [vi (F61 (lenV (hdV (tlV (tlV (f0 x8.toNat))))) (fun i => views tp2 (atV (hdV (tlV (tlV (f0 x8.toNat)))) i)) (jv3 (f0 x8.toNat)) x9 x10 x11 x12), vi 0])))))))))))
theorem run22 (n0 : Nat) (f0 : FnV) (n2 : Nat) (f2 : FnV) (n4 : Nat) (f4 : FnV) (n6 : Nat) (f6 : FnV) (x8 x9 x10 x11 x12 : Int) : Fit noD (runL JJ ctB16e u0 s22 [scV n0 f0 n2 f2 n4 f4 n6 f6, vi x8, V.agg [vi x9, vi x10, vi x11, vi x12]]) (m22 n0 f0 n2 f2 n4 f4 n6 f6 x8 x9 x10 x11 x12) := ⟨by kernel_rfl, by kernel_rfl⟩
def F22_0 (n0 : Nat) (f0 : FnV) (n2 : Nat) (f2 : FnV) (n4 : Nat) (f4 : FnV) (n6 : Nat) (f6 : FnV) (x8 x9 x10 x11 x12 : Int) : Int := bif F44 n0 (elV tyR f0) n2 (elV tyT f2) n4 (elV tyF f4) n6 (elV tyC f6) 2 (elV tp1 (secF [vi x8, vi (↑n0 : Int)] 0 1)) != 0 then 0 else bif F53_0 x9 x10 x11 x12 then 0 else F61 (lenV (hdV (tlV (tlV (f0 x8.toNat))))) (fun i => views tp2 (atV (hdV (tlV (tlV (f0 x8.toNat)))) i)) (jv3 (f0 x8.toNat)) x9 x10 x11 x12
def F22_1 (n0 : Nat) (f0 : FnV) (n2 : Nat) (f2 : FnV) (n4 : Nat) (f4 : FnV) (n6 : Nat) (f6 : FnV) (x8 x9 x10 x11 x12 : Int) : Int := bif F44 n0 (elV tyR f0) n2 (elV tyT f2) n4 (elV tyF f4) n6 (elV tyC f6) 2 (elV tp1 (secF [vi x8, vi (↑n0 : Int)] 0 1)) != 0 then F44 n0 (elV tyR f0) n2 (elV tyT f2) n4 (elV tyF f4) n6 (elV tyC f6) 2 (elV tp1 (secF [vi x8, vi (↑n0 : Int)] 0 1)) else bif F53_0 x9 x10 x11 x12 then 7 else 0
def R22 (n0 : Nat) (f0 : FnV) (n2 : Nat) (f2 : FnV) (n4 : Nat) (f4 : FnV) (n6 : Nat) (f6 : FnV) (x8 x9 x10 x11 x12 : Int) : V := .tup [.int i64 (F22_0 n0 f0 n2 f2 n4 f4 n6 f6 x8 x9 x10 x11 x12), .int i64 (F22_1 n0 f0 n2 f2 n4 f4 n6 f6 x8 x9 x10 x11 x12)]
theorem ev22 (n0 : Nat) (f0 : FnV) (n2 : Nat) (f2 : FnV) (n4 : Nat) (f4 : FnV) (n6 : Nat) (f6 : FnV) (x8 x9 x10 x11 x12 : Int) (hp : SzOk n0 f0 /\ SzOk n6 f6) : evR noE (m22 n0 f0 n2 f2 n4 f4 n6 f6 x8 x9 x10 x11 x12) (R22 n0 f0 n2 f2 n4 f4 n6 f6 x8 x9 x10 x11 x12) := evAsm (fun a0 => evObp (by first | assumption | ((first | exact ⟨hp, rfl, by decide⟩ | (simp_all [cond_eq_ite] <;> first | omega | exact (k44_4 (by assumption) (by assumption) h0).1 | exact (k44_4 (by assumption) (by assumption) h0).2 | exact k44_2 (by assumption) h0 | exact k44_2 (by assumption) h1 | exact k50 h0 | exact k50 h1 | exact k50 hc.1 | exact k44_2 (by assumption) hc)))) (evObt (evBr (fun h0 => evRet (by unfold R22 F22_0 F22_1; try rw [h0]; rfl)) (fun h0 => evObc (evObt (evBr (fun h1 => evRet (by unfold R22 F22_0 F22_1; try rw [h0]; try rw [h1]; rfl)) (fun h1 => evOb (by first | assumption | ((simp_all [cond_eq_ite] <;> first | omega | exact (k44_4 (by assumption) (by assumption) h0).1 | exact (k44_4 (by assumption) (by assumption) h0).2 | exact k44_2 (by assumption) h0 | exact k44_2 (by assumption) h1 | exact k50 h0 | exact k50 h1 | exact k50 hc.1 | exact k44_2 (by assumption) hc))) (evObc (evObt (evRet (by unfold R22 F22_0 F22_1; try rw [h0]; try rw [h1]; rfl)))))))))))
def C22 : PCon := mkC [.agg [.sl tyR, .sl tyT, .sl tyF, .sl tyC], .int .i64, .agg tp4] (fun
 | [.agg [.sl n0 f0, .sl n2 f2, .sl n4 f4, .sl n6 f6], .int _ x8, .agg [.int _ x9, .int _ x10, .int _ x11, .int _ x12]] => SzOk n0 f0 /\ SzOk n6 f6
 | _ => False) fun
 | [.agg [.sl n0 f0, .sl n2 f2, .sl n4 f4, .sl n6 f6], .int _ x8, .agg [.int _ x9, .int _ x10, .int _ x11, .int _ x12]] => R22 n0 f0 n2 f2 n4 f4 n6 f6 x8 x9 x10 x11 x12
 | _ => .any
theorem ok22 : (vP C22).Ok Tryz.prog 22 := mkE tabB16e Tryz.func22 (by kernel_rfl) fun ds hp => rf0 (run22 ..) (ev22 _ _ _ _ _ _ _ _ _ _ _ _ _ hp)
def m25 (n0 : Nat) (f0 : FnV) (n2 : Nat) (f2 : FnV) (n4 : Nat) (f4 : FnV) (n6 : Nat) (f6 : FnV) (x8 x9 x10 : Int) : RT Empty := .asm (true = true -> n0 <= 9223372036854775807) (.obp (((∀ (i : Nat), i < n0 -> (sv (hdV (f0 i))).size <= (9223372036854775807 : Nat)) /\ ∀ (i : Nat), i < n6 -> (sv (hdV (f6 i))).size <= (9223372036854775807 : Nat)) /\ (0 : Nat) = (0 : Nat) /\ (2 : Nat) <= (100 : Nat)) (.obt (.br (F44 n0 (elV tyR f0) n2 (elV tyT f2) n4 (elV tyF f4) n6 (elV tyC f6) 2 (elV tp1 (secF [vi x8, vi (↑n0 : Int)] 0 1)) != 0) (.ret (V.tup [V.kb false, vi (F44 n0 (elV tyR f0) n2 (elV tyT f2) n4 (elV tyF f4) n6 (elV tyC f6) 2 (elV tp1 (secF [vi x8, vi (↑n0 : Int)] 0 1)))])) (.obc (.obt (.br (F45_0 2 (elV tp1 (secF [vi x9, vi x10] 0 1))) (.ret (V.tup [V.kb false, vi 7])) (.ob (decide (0 <= x8 /\ x8 < (↑n0 : Int))) (.obc (.obt (.ret (V.tup [V.bool (F74 (lenV (hdV (tlV (tlV (f0 x8.toNat))))) (fun i => views tp2 (atV (hdV (tlV (tlV (f0 x8.toNat)))) i)) (jv3 (f0 x8.toNat)) x9 x10), vi 0])))))))))))
theorem run25 (n0 : Nat) (f0 : FnV) (n2 : Nat) (f2 : FnV) (n4 : Nat) (f4 : FnV) (n6 : Nat) (f6 : FnV) (x8 x9 x10 : Int) : Fit noD (runL JJ ctB16e u0 s25 [scV n0 f0 n2 f2 n4 f4 n6 f6, vi x8, vi x9, vi x10]) (m25 n0 f0 n2 f2 n4 f4 n6 f6 x8 x9 x10) := ⟨by kernel_rfl, by kernel_rfl⟩
def F25_0 (n0 : Nat) (f0 : FnV) (n2 : Nat) (f2 : FnV) (n4 : Nat) (f4 : FnV) (n6 : Nat) (f6 : FnV) (x8 x9 x10 : Int) : Bool := bif F44 n0 (elV tyR f0) n2 (elV tyT f2) n4 (elV tyF f4) n6 (elV tyC f6) 2 (elV tp1 (secF [vi x8, vi (↑n0 : Int)] 0 1)) != 0 then false else bif F45_0 2 (elV tp1 (secF [vi x9, vi x10] 0 1)) then false else F74 (lenV (hdV (tlV (tlV (f0 x8.toNat))))) (fun i => views tp2 (atV (hdV (tlV (tlV (f0 x8.toNat)))) i)) (jv3 (f0 x8.toNat)) x9 x10
def F25_1 (n0 : Nat) (f0 : FnV) (n2 : Nat) (f2 : FnV) (n4 : Nat) (f4 : FnV) (n6 : Nat) (f6 : FnV) (x8 x9 x10 : Int) : Int := bif F44 n0 (elV tyR f0) n2 (elV tyT f2) n4 (elV tyF f4) n6 (elV tyC f6) 2 (elV tp1 (secF [vi x8, vi (↑n0 : Int)] 0 1)) != 0 then F44 n0 (elV tyR f0) n2 (elV tyT f2) n4 (elV tyF f4) n6 (elV tyC f6) 2 (elV tp1 (secF [vi x8, vi (↑n0 : Int)] 0 1)) else bif F45_0 2 (elV tp1 (secF [vi x9, vi x10] 0 1)) then 7 else 0
def R25 (n0 : Nat) (f0 : FnV) (n2 : Nat) (f2 : FnV) (n4 : Nat) (f4 : FnV) (n6 : Nat) (f6 : FnV) (x8 x9 x10 : Int) : V := .tup [.bool (F25_0 n0 f0 n2 f2 n4 f4 n6 f6 x8 x9 x10), .int i64 (F25_1 n0 f0 n2 f2 n4 f4 n6 f6 x8 x9 x10)]
theorem ev25 (n0 : Nat) (f0 : FnV) (n2 : Nat) (f2 : FnV) (n4 : Nat) (f4 : FnV) (n6 : Nat) (f6 : FnV) (x8 x9 x10 : Int) (hp : SzOk n0 f0 /\ SzOk n6 f6) : evR noE (m25 n0 f0 n2 f2 n4 f4 n6 f6 x8 x9 x10) (R25 n0 f0 n2 f2 n4 f4 n6 f6 x8 x9 x10) := evAsm (fun a0 => evObp (by first | assumption | ((first | exact ⟨hp, rfl, by decide⟩ | (simp_all [cond_eq_ite] <;> first | omega | exact (k44_4 (by assumption) (by assumption) h0).1 | exact (k44_4 (by assumption) (by assumption) h0).2 | exact k44_2 (by assumption) h0 | exact k44_2 (by assumption) h1 | exact k50 h0 | exact k50 h1 | exact k50 hc.1 | exact k44_2 (by assumption) hc)))) (evObt (evBr (fun h0 => evRet (by unfold R25 F25_0 F25_1; try rw [h0]; rfl)) (fun h0 => evObc (evObt (evBr (fun h1 => evRet (by unfold R25 F25_0 F25_1; try rw [h0]; try rw [h1]; rfl)) (fun h1 => evOb (by first | assumption | ((simp_all [cond_eq_ite] <;> first | omega | exact (k44_4 (by assumption) (by assumption) h0).1 | exact (k44_4 (by assumption) (by assumption) h0).2 | exact k44_2 (by assumption) h0 | exact k44_2 (by assumption) h1 | exact k50 h0 | exact k50 h1 | exact k50 hc.1 | exact k44_2 (by assumption) hc))) (evObc (evObt (evRet (by unfold R25 F25_0 F25_1; try rw [h0]; try rw [h1]; rfl)))))))))))
def C25 : PCon := mkC [.agg [.sl tyR, .sl tyT, .sl tyF, .sl tyC], .int .i64, .int .i64, .int .i64] (fun
 | [.agg [.sl n0 f0, .sl n2 f2, .sl n4 f4, .sl n6 f6], .int _ x8, .int _ x9, .int _ x10] => SzOk n0 f0 /\ SzOk n6 f6
 | _ => False) fun
 | [.agg [.sl n0 f0, .sl n2 f2, .sl n4 f4, .sl n6 f6], .int _ x8, .int _ x9, .int _ x10] => R25 n0 f0 n2 f2 n4 f4 n6 f6 x8 x9 x10
 | _ => .any
theorem ok25 : (vP C25).Ok Tryz.prog 25 := mkE tabB16e Tryz.func25 (by kernel_rfl) fun ds hp => rf0 (run25 ..) (ev25 _ _ _ _ _ _ _ _ _ _ _ hp)
def m15 (n0 : Nat) (f0 : FnV) (n2 : Nat) (f2 : FnV) (n4 : Nat) (f4 : FnV) (n6 : Nat) (f6 : FnV) (x8 x9 x10 : Int) : RT Empty := .asm (true = true -> n6 <= 9223372036854775807) (.obp (((∀ (i : Nat), i < n0 -> (sv (hdV (f0 i))).size <= (9223372036854775807 : Nat)) /\ ∀ (i : Nat), i < n6 -> (sv (hdV (f6 i))).size <= (9223372036854775807 : Nat)) /\ (0 : Nat) = (0 : Nat) /\ (2 : Nat) <= (100 : Nat)) (.obt (.br (F44 n0 (elV tyR f0) n2 (elV tyT f2) n4 (elV tyF f4) n6 (elV tyC f6) 2 (elV tp1 (secF [vi x8, vi (↑n6 : Int)] 0 1)) != 0) (.ret (V.tup [vi 0, vi (F44 n0 (elV tyR f0) n2 (elV tyT f2) n4 (elV tyF f4) n6 (elV tyC f6) 2 (elV tp1 (secF [vi x8, vi (↑n6 : Int)] 0 1)))])) (.obc (.obt (.br (F45_0 2 (elV tp1 (secF [vi x9, vi x10] 0 1))) (.ret (V.tup [vi 0, vi 7])) (.obp ((0 : Int) <= x8 /\ x8 < (↑n6 : Int)) (.obt (.ret (V.tup [vi (F46 n2 (elV tyT f2) (elV tyC f6) x8 x9 x10), vi 0]))))))))))
theorem run15 (n0 : Nat) (f0 : FnV) (n2 : Nat) (f2 : FnV) (n4 : Nat) (f4 : FnV) (n6 : Nat) (f6 : FnV) (x8 x9 x10 : Int) : Fit noD (runL JJ ctB16e u0 s15 [scV n0 f0 n2 f2 n4 f4 n6 f6, vi x8, vi x9, vi x10]) (m15 n0 f0 n2 f2 n4 f4 n6 f6 x8 x9 x10) := ⟨by kernel_rfl, by kernel_rfl⟩
def F15_0 (n0 : Nat) (f0 : FnV) (n2 : Nat) (f2 : FnV) (n4 : Nat) (f4 : FnV) (n6 : Nat) (f6 : FnV) (x8 x9 x10 : Int) : Int := bif F44 n0 (elV tyR f0) n2 (elV tyT f2) n4 (elV tyF f4) n6 (elV tyC f6) 2 (elV tp1 (secF [vi x8, vi (↑n6 : Int)] 0 1)) != 0 then 0 else bif F45_0 2 (elV tp1 (secF [vi x9, vi x10] 0 1)) then 0 else F46 n2 (elV tyT f2) (elV tyC f6) x8 x9 x10
def F15_1 (n0 : Nat) (f0 : FnV) (n2 : Nat) (f2 : FnV) (n4 : Nat) (f4 : FnV) (n6 : Nat) (f6 : FnV) (x8 x9 x10 : Int) : Int := bif F44 n0 (elV tyR f0) n2 (elV tyT f2) n4 (elV tyF f4) n6 (elV tyC f6) 2 (elV tp1 (secF [vi x8, vi (↑n6 : Int)] 0 1)) != 0 then F44 n0 (elV tyR f0) n2 (elV tyT f2) n4 (elV tyF f4) n6 (elV tyC f6) 2 (elV tp1 (secF [vi x8, vi (↑n6 : Int)] 0 1)) else bif F45_0 2 (elV tp1 (secF [vi x9, vi x10] 0 1)) then 7 else 0
def R15 (n0 : Nat) (f0 : FnV) (n2 : Nat) (f2 : FnV) (n4 : Nat) (f4 : FnV) (n6 : Nat) (f6 : FnV) (x8 x9 x10 : Int) : V := .tup [.int i64 (F15_0 n0 f0 n2 f2 n4 f4 n6 f6 x8 x9 x10), .int i64 (F15_1 n0 f0 n2 f2 n4 f4 n6 f6 x8 x9 x10)]
theorem ev15 (n0 : Nat) (f0 : FnV) (n2 : Nat) (f2 : FnV) (n4 : Nat) (f4 : FnV) (n6 : Nat) (f6 : FnV) (x8 x9 x10 : Int) (hp : SzOk n0 f0 /\ SzOk n6 f6) : evR noE (m15 n0 f0 n2 f2 n4 f4 n6 f6 x8 x9 x10) (R15 n0 f0 n2 f2 n4 f4 n6 f6 x8 x9 x10) := evAsm (fun a0 => evObp (by first | assumption | ((first | exact ⟨hp, rfl, by decide⟩ | (simp_all [cond_eq_ite] <;> first | omega | exact (k44_4 (by assumption) (by assumption) h0).1 | exact (k44_4 (by assumption) (by assumption) h0).2 | exact k44_2 (by assumption) h0 | exact k44_2 (by assumption) h1 | exact k50 h0 | exact k50 h1 | exact k50 hc.1 | exact k44_2 (by assumption) hc)))) (evObt (evBr (fun h0 => evRet (by unfold R15 F15_0 F15_1; try rw [h0]; rfl)) (fun h0 => evObc (evObt (evBr (fun h1 => evRet (by unfold R15 F15_0 F15_1; try rw [h0]; try rw [h1]; rfl)) (fun h1 => evObp (by first | assumption | ((first | exact ⟨hp, rfl, by decide⟩ | (simp_all [cond_eq_ite] <;> first | omega | exact (k44_4 (by assumption) (by assumption) h0).1 | exact (k44_4 (by assumption) (by assumption) h0).2 | exact k44_2 (by assumption) h0 | exact k44_2 (by assumption) h1 | exact k50 h0 | exact k50 h1 | exact k50 hc.1 | exact k44_2 (by assumption) hc)))) (evObt (evRet (by unfold R15 F15_0 F15_1; try rw [h0]; try rw [h1]; rfl))))))))))
def C15 : PCon := mkC [.agg [.sl tyR, .sl tyT, .sl tyF, .sl tyC], .int .i64, .int .i64, .int .i64] (fun
 | [.agg [.sl n0 f0, .sl n2 f2, .sl n4 f4, .sl n6 f6], .int _ x8, .int _ x9, .int _ x10] => SzOk n0 f0 /\ SzOk n6 f6
 | _ => False) fun
 | [.agg [.sl n0 f0, .sl n2 f2, .sl n4 f4, .sl n6 f6], .int _ x8, .int _ x9, .int _ x10] => R15 n0 f0 n2 f2 n4 f4 n6 f6 x8 x9 x10
 | _ => .any
theorem ok15 : (vP C15).Ok Tryz.prog 15 := mkE tabB16e Tryz.func15 (by kernel_rfl) fun ds hp => rf0 (run15 ..) (ev15 _ _ _ _ _ _ _ _ _ _ _ hp)
end
end Go.Dx
namespace Go.Dx
open Go.IntKind (i64 u64 u8)
open Go.Sx Go.Proofs
noncomputable section
def ctB20 : CTab := (22, .con C22) :: (25, .con C25) :: (15, .con C15) :: ctB16e
theorem tabB20 : TabOk Tryz.prog eqs its ctB20 := .con ok22 (.con ok25 (.con ok15 (tabB16e)))
end
noncomputable section
def ctB21 : CTab := ctB20
theorem tabB21 : TabOk Tryz.prog eqs its ctB21 := tabB20
end
noncomputable section
def ctB22 : CTab := ctB21
theorem tabB22 : TabOk Tryz.prog eqs its ctB22 := tabB21
def u2 : Unr := fun k => bif Nat.beq k 2 then 5 else 0
end
noncomputable section
def ctB23 : CTab := ctB22
theorem tabB23 : TabOk Tryz.prog eqs its ctB23 := tabB22
attribute [local irreducible] F44 F50_0 F91_0
end
end Go.Dx
namespace Go.Dx
open Go.Sx
section
variable {J : Type}
def normR : V -> Leaf J -> Leaf J
 | .bool b, .res (.kb _) => .res (.kb b)
 | r, _ => .res r
theorem normR_ok (r : V) (a : Leaf J) : topQ r (normR r a) := by
 unfold normR; split <;> rfl
def norm (r : V) : T (Leaf J) -> T (Leaf J)
 | .ret a => .ret (normR r a)
 | .br b x y => match b with
   | true => .br true (norm r x) y
   | false => .br false x (norm r y)
 | .ob _ x => .ob true (norm r x)
 | .obi c d x => match c with
   | true => .obi true true (norm r x)
   | false => .obi false d (norm r x)
 | .obp _ x => .obp True (norm r x)
 | .obq a _ x => .obq a a (norm r x)
 | .fail _ => .ret (.res r)
 | .loop .. => .ret (.res r)
 | .all f => .all fun l => norm r (f l)
 | .und x y => .und (norm r x) (norm r y)
 | .asm p x => .asm p (norm r x)
theorem norm_sat {LP : LPred} (r : V) : ∀ t : T (Leaf J), sat LP (norm r t) (topQ r) := by
 intro t
 induction t with
 | ret a => exact normR_ok r a
 | br b x y hx hy =>
   cases b with
   | true => exact ⟨fun _ => hx, (fun e => by cases e)⟩
   | false => exact ⟨(fun e => by cases e), fun _ => hy⟩
 | ob b x hx => exact ⟨rfl, hx⟩
 | obi c d x hx =>
   cases c with
   | true => exact ⟨fun _ => rfl, hx⟩
   | false => exact ⟨(fun e => by cases e), hx⟩
 | obp p x hx => exact ⟨trivial, hx⟩
 | obq a b x hx => exact ⟨rfl, hx⟩
 | fail n => exact (rfl : toA r = toA r)
 | loop fr b e h g k hk => exact (rfl : toA r = toA r)
 | all f hf => exact fun l => hf l
 | und x y hx hy => exact ⟨hx, hy⟩
 | asm p x hx => exact fun _ => hx
theorem run_norm {ct : CTab} {un : Unr} {w0 : World} {sf : SFun} {ds : List V} {r : V} (h : norm r (runL J ct un sf ds) = runL J ct un sf ds) : sat (LPof w0 (SV ct)) (runL J ct un sf ds) (topQ r) := by
 rw [← h]; exact norm_sat r _
end
def mkCB (ts : List Ty) (pre : List V -> Bool) (r : List V -> V) : PCon := fun ds => cond (pre (unqs ts ds)) (some ((fxLs ts ds [], fxRs ts ds []), True, r (unqs ts ds))) none
theorem mkCB_ok {P : Program} {f : FuncId} {ts : List Ty} {pre : List V -> Prop} {preB : List V -> Bool} {r : List V -> V} (h : ∀ ds, preB ds = true -> pre ds) (hO : (vP (mkC ts pre r)).Ok P f) : (vP (mkCB ts preB r)).Ok P f := by
 refine ⟨fun B m lh w args vs K hrel hargs hsp => ?_, fun _ _ _ _ _ hk ⟨ds, d, p, r, h1, h2, h3, h4, h5⟩ => ⟨ds, d, p, r, h1, h2, h3, h4, hk _ _ h5⟩, fun _ _ _ _ ⟨_, _, _, _, _, _, _, _, h⟩ => h⟩
 refine hO.sound B m lh w args vs K hrel hargs ?_
 obtain ⟨ds, d, p, r', h1, h2, ⟨h30, h3⟩, h4, h5⟩ := hsp
 unfold mkCB at h2
 cases hb : preB (unqs ts ds) with
 | false => rw [hb] at h2; cases h2
 | true =>
   rw [hb] at h2
   simp only [cond_true, Option.some.injEq, Prod.mk.injEq] at h2
   obtain ⟨rfl, rfl, rfl⟩ := h2
   exact ⟨ds, _, _, _, h1, rfl, ⟨h30, h _ hb⟩, h4, h5⟩
def eqL (p : V -> V -> Bool) : List V -> List V -> Bool
 | [], [] => true
 | v :: vs, x :: xs => p v x && eqL p vs xs
 | _, _ => false
def eqD : Nat -> V -> V -> Bool
 | 0, _, _ => false
 | fu + 1, v, x => match v, x with
   | .int k a, .int k' b => decide (k = k') && decide (a = b)
   | .bool a, .bool b => a == b
   | .kb a, .bool b => a == b
   | .str a, .str b => decide (a.data.toList = b.data.toList)
   | .agg xs, .agg ys => eqL (eqD fu) xs ys
   | .sl n f, .sl m g => Nat.beq n m && allB n fun i => eqL (eqD fu) (f i) (g i) && (g i).all V.fc
   | .sq n _ f, .sl m g => Nat.beq n m && allB n fun i => eqL (eqD fu) (f i) (g i) && (g i).all V.fc
   | _, _ => false
theorem eqL_ok {w0 : World} {lh : List LObj} {p : V -> V -> Bool} (hp : ∀ v x a, p v x = true -> vr w0 lh Nu.nil v a -> vr w0 lh Nu.nil x a) : ∀ (vs xs : List V) (qs : List AVal), eqL p vs xs = true -> vrs w0 lh Nu.nil vs qs -> vrs w0 lh Nu.nil xs qs
 | [], [], qs, _, h => h
 | v :: vs, x :: xs, qs, h, h1 => by
   simp only [eqL, Bool.and_eq_true] at h
   simp only [vrs] at h1 ⊢
   obtain ⟨y, ys, rfl, h2, h3⟩ := h1
   exact ⟨y, ys, rfl, hp _ _ _ h.1 h2, eqL_ok hp vs xs ys h.2 h3⟩
 | [], _ :: _, _, h, _ => by simp [eqL] at h
 | _ :: _, [], _, h, _ => by simp [eqL] at h
theorem eqD_ok {w0 : World} {lh : List LObj} : ∀ (fu : Nat) (v x : V) (a : AVal), eqD fu v x = true -> vr w0 lh Nu.nil v a -> vr w0 lh Nu.nil x a
 | 0, v, x, a, h, _ => by simp [eqD] at h
 | fu + 1, v, x, a, h, hv => by
   simp only [eqD] at h
   split at h
   ·simp only [Bool.and_eq_true, decide_eq_true_eq] at h; obtain ⟨rfl, rfl⟩ := h; exact hv
   ·have := eq_of_beq h; subst this; exact hv
   ·have := eq_of_beq h; subst this; simp only [vr] at hv ⊢; exact hv
   ·rename_i s t
    have h0 := of_decide_eq_true h
    have : s = t := by
     cases s with | mk d =>
     cases t with | mk e =>
     have : d = e := Array.toList_inj.1 h0
     rw [this]
    subst this; exact hv
   ·simp only [vr] at hv ⊢
    obtain ⟨qs, rfl, h2⟩ := hv
    exact ⟨qs, rfl, eqL_ok (fun v x a => eqD_ok fu v x a) _ _ _ h h2⟩
   ·simp only [Bool.and_eq_true] at h
    have hn := Nat.eq_of_beq_eq_true h.1
    subst hn
    simp only [vr] at hv ⊢
    obtain ⟨p, c, esz, h1, h2, h3, h4, h5⟩ := hv
    refine ⟨p, c, esz, h1, h2, h3, h4, fun i hi => ?_⟩
    obtain ⟨q, qs, g1, g2, g3, g4⟩ := h5 i hi
    have hh := allB_ok h.2 i hi
    simp only [Bool.and_eq_true] at hh
    exact ⟨q, qs, g1, g2, eqL_ok (fun v x a => eqD_ok fu v x a) _ _ _ hh.1 g3, hh.2⟩
   ·simp only [Bool.and_eq_true] at h
    have hn := Nat.eq_of_beq_eq_true h.1
    subst hn
    simp only [vr] at hv ⊢
    obtain ⟨p, c, esz, h1, h2, h3, h4, h5⟩ := hv
    refine ⟨p, c, esz, h1, h2.1, h3, h4, fun i hi => ?_⟩
    obtain ⟨q, qs, g1, g2, g3, g4⟩ := h5 i hi
    have hh := allB_ok h.2 i hi
    simp only [Bool.and_eq_true] at hh
    exact ⟨q, qs, g1, g2, eqL_ok (fun v x a => eqD_ok fu v x a) _ _ _ hh.1 g3, hh.2⟩
   ·cases h
def atC : List (List V × V) -> PCon
 | [], _ => none
 | (ex, r) :: l, ds => cond (eqL (eqD 8) ds ex) (some (([], []), True, r)) (atC l ds)
theorem atC_ok {P : Program} {f : FuncId} {C : PCon} (hO : (vP C).Ok P f) : ∀ (l : List (List V × V)), (∀ e ∈ l, ∃ d p, C e.1 = some (d, p, e.2) /\ d.1 = d.2 /\ p) -> (vP (atC l)).Ok P f := by
 intro l hl
 refine ⟨fun B m lh w args vs K hrel hargs hsp => ?_, fun _ _ _ _ _ hk ⟨ds, d, p, r, h1, h2, h3, h4, h5⟩ => ⟨ds, d, p, r, h1, h2, h3, h4, hk _ _ h5⟩, fun _ _ _ _ ⟨_, _, _, _, _, _, _, _, h⟩ => h⟩
 refine hO.sound B m lh w args vs K hrel hargs ?_
 obtain ⟨ds, d, p, r', h1, h2, _, h4, h5⟩ := hsp
 induction l with
 | nil => simp [atC] at h2
 | cons e l ih =>
   simp only [atC] at h2
   cases hb : eqL (eqD 8) ds e.1 with
   | true =>
     rw [hb] at h2
     simp only [cond_true, Option.some.injEq, Prod.mk.injEq] at h2
     obtain ⟨_, _, rfl⟩ := h2
     obtain ⟨d', p', e1, e2, e3⟩ := hl e (List.mem_cons_self ..)
     exact ⟨e.1, d', p', _, eqL_ok (fun v x a => eqD_ok 8 v x a) _ _ _ hb h1, e1, ⟨e2, e3⟩, h4, h5⟩
   | false =>
     rw [hb] at h2
     exact ih (fun e he => hl e (List.mem_cons_of_mem _ he)) h2
end Go.Dx
namespace Go.Dx
open Go.Sx
theorem at1 {ts : List Ty} {pre : List V -> Prop} {r : List V -> V} {raw : List V} {res : V} (hp : pre (unqs ts (views ts raw))) (hr : r (unqs ts (views ts raw)) = res) : ∃ d p, mkC ts pre r (views ts raw) = some (d, p, res) /\ d.1 = d.2 /\ p :=
 ⟨_, _, by rw [mkC, hr], fxs_views ts raw [], hp⟩
theorem all2 {α : Type} {a : α} {l : List α} {Q : α -> Prop} (h : Q a) (hl : ∀ e ∈ l, Q e) : ∀ e ∈ a :: l, Q e := fun e he => by
 rcases List.mem_cons.1 he with rfl | he
 ·exact h
 ·exact hl e he
theorem all0 {α : Type} {Q : α -> Prop} : ∀ e ∈ ([] : List α), Q e := fun e he => by cases he
end Go.Dx
namespace Go.Dx
open Go.IntKind (i64 u64 u8)
open Go.Sx Go.Proofs
noncomputable section
def ctB17 : CTab := ctB23
theorem tabB17 : TabOk Tryz.prog eqs its ctB17 := tabB23
def uB : Unr := fun _ => 1000
def szB (n : Nat) (f : Nat -> List V) : Bool := allB n fun i => Nat.ble (sv (hdV (f i))).size 9223372036854775807
theorem szB_ok {n : Nat} {f : Nat -> List V} (h : szB n f = true) : SzOk n f := fun i hi => Nat.le_of_ble_eq_true (allB_ok h i hi)
def exN1 : ByteArray := ⟨#[104, 105, 103, 104]⟩
def exN2 : ByteArray := ⟨#[122, 101, 98, 114, 97]⟩
def exN3 : ByteArray := ⟨#[99, 49]⟩
def exR : Nat -> List V
 | 0 => [.str exN1, vi 0, .sl 3 (fun | 0 => [vi 0, vi 0] | 1 => [vi 10000, vi 0] | _ => [vi 10000, vi 10000]), vi 4000]
 | _ => [.str exN2, vi 3, .sl 2 (fun | 0 => [vi 5000, vi (-2000)] | _ => [vi 5000, vi 2000]), vi 3000]
def exT : Nat -> List V := fun _ => [vi 4000, vi 3000, vi 1000, vi 20, vi 40]
def exF : Nat -> List V := fun _ => [vi 10000, vi 5000, vi 0, vi 5000, .sl 1 fun _ => [vi 250, vi 750, vi 10, vi 30]]
def exK : Nat -> List V := fun _ => [.str exN3, vi 4000, vi 4000, vi 60, vi 0, vi (-1)]
def exS : V := .agg [.sl 2 exR, .sl 1 exT, .sl 1 exF, .sl 1 exK]
def ty44 : List Ty := [.agg [.sl tyR, .sl tyT, .sl tyF, .sl tyC], .sl tp1]
def AT44 : PCon := atC [(views ty44 [exS, .sl 2 (fun | 0 => [vi 0] | _ => [vi 1])], vi 0)]
theorem okA44 : (vP AT44).Ok Tryz.prog 44 := atC_ok ok44 _ (all2 (at1 (ts := ty44) (raw := [exS, .sl 2 (fun | 0 => [vi 0] | _ => [vi 1])]) (⟨⟨szB_ok (by kernel_rfl), szB_ok (by kernel_rfl)⟩, rfl, by decide⟩) (by kernel_rfl)) (all0))
def ty23 : List Ty := [.agg [.sl tyR, .sl tyT, .sl tyF, .sl tyC]]
def AT23 : PCon := atC [(views ty23 [.agg [.sl 0 exR, .sl 1 (fun _ => [vi 0, vi 0, vi 0, vi 0, vi 0]), .sl 0 exF, .sl 0 exK]], .tup [vi 2, vi 0, vi 7])]
theorem okA23 : (vP AT23).Ok Tryz.prog 23 := atC_ok ok23 _ (all2 (at1 (ts := ty23) (raw := [.agg [.sl 0 exR, .sl 1 (fun _ => [vi 0, vi 0, vi 0, vi 0, vi 0]), .sl 0 exF, .sl 0 exK]]) (⟨szB_ok (by kernel_rfl), szB_ok (by kernel_rfl)⟩) (by kernel_rfl)) (all0))
def ty22 : List Ty := [.agg [.sl tyR, .sl tyT, .sl tyF, .sl tyC], .int .i64, .agg tp4]
def AT22 : PCon := atC [(views ty22 [exS, vi 0, .agg [vi 8500, vi (-1500), vi 11500, vi 1500]], .tup [vi 1, vi 0])]
theorem okA22 : (vP AT22).Ok Tryz.prog 22 := atC_ok ok22 _ (all2 (at1 (ts := ty22) (raw := [exS, vi 0, .agg [vi 8500, vi (-1500), vi 11500, vi 1500]]) (⟨szB_ok (by kernel_rfl), szB_ok (by kernel_rfl)⟩) (by kernel_rfl)) (all0))
def ty15 : List Ty := [.agg [.sl tyR, .sl tyT, .sl tyF, .sl tyC], .int .i64, .int .i64, .int .i64]
def AT15 : PCon := atC [(views ty15 [exS, vi 0, vi 4000, vi 5000], .tup [vi (-1), vi 0])]
theorem okA15 : (vP AT15).Ok Tryz.prog 15 := atC_ok ok15 _ (all2 (at1 (ts := ty15) (raw := [exS, vi 0, vi 4000, vi 5000]) (⟨szB_ok (by kernel_rfl), szB_ok (by kernel_rfl)⟩) (by kernel_rfl)) (all0))
end
noncomputable section
def ctB18 : CTab := [(44, .con AT44), (23, .con AT23), (22, .con AT22), (15, .con AT15), (25, .con C25), (55, .con C55), (61, .con C61), (74, .con C74), (108, .con C108), (46, .con C46), (111, .con C111), (56, .con C56), (47, .con C47), (145, .con C145), (140, .con C140), (49, .con C49), (123, .con C123), (62, .con C62), (68, .con C68), (63, .con C63), (69, .con C69), (117, .inl s117 u0), (116, .inl s116 u0), (115, .con C115), (114, .con C114), (147, .con C147), (64, .con C64), (66, .con C66), (113, .con C113), (65, .con C65), (67, .con C67), (53, .con C53), (45, .con C45), (90, .con C90), (119, .con C119), (121, .con C121), (99, .con C99), (129, .con C129), (148, .con C148), (149, .con C149), (112, .con C112), (118, .con C118), (120, .con C120), (133, .con C133), (103, .con C103), (100, .con C100), (134, .con C134), (135, .con C135), (78, .con C78), (54, .con C54), (48, .con C48), (102, .con C102), (84, .con C84), (85, .con C85), (127, .con C127), (101, .con C101), (86, .con C86), (162, .con C162), (146, .con C146), (83, .inl s83 u0), (19, .inl s19 uB), (17, .inl s17 uB), (43, .inl s43 uB), (57, .inl s57 uB), (109, .inl s109 uB), (139, .inl s139 uB), (163, .inl s163 uB), (177, .inl s177 uB), (141, .inl s141 uB), (142, .inl s142 uB), (143, .inl s143 uB), (131, .inl s131 uB), (161, .inl s161 uB)]
theorem tabB18 : TabOk Tryz.prog eqs its ctB18 := .con okA44 (.con okA23 (.con okA22 (.con okA15 (.con ok25 (.con ok55 (.con ok61 (.con ok74 (.con ok108 (.con ok46 (.con ok111 (.con ok56 (.con ok47 (.con ok145 (.con ok140 (.con ok49 (.con ok123 (.con ok62 (.con ok68 (.con ok63 (.con ok69 (.inl Tryz.func117 (by kernel_rfl) (by kernel_rfl) (by kernel_rfl) (.inl Tryz.func116 (by kernel_rfl) (by kernel_rfl) (by kernel_rfl) (.con ok115 (.con ok114 (.con ok147 (.con ok64 (.con ok66 (.con ok113 (.con ok65 (.con ok67 (.con ok53 (.con ok45 (.con ok90 (.con ok119 (.con ok121 (.con ok99 (.con ok129 (.con ok148 (.con ok149 (.con ok112 (.con ok118 (.con ok120 (.con ok133 (.con ok103 (.con ok100 (.con ok134 (.con ok135 (.con ok78 (.con ok54 (.con ok48 (.con ok102 (.con ok84 (.con ok85 (.con ok127 (.con ok101 (.con ok86 (.con ok162 (.con ok146 (.inl Tryz.func83 (by kernel_rfl) (by kernel_rfl) (by kernel_rfl) (.inl Tryz.func19 (by kernel_rfl) (by kernel_rfl) (by kernel_rfl) (.inl Tryz.func17 (by kernel_rfl) (by kernel_rfl) (by kernel_rfl) (.inl Tryz.func43 (by kernel_rfl) (by kernel_rfl) (by kernel_rfl) (.inl Tryz.func57 (by kernel_rfl) (by kernel_rfl) (by kernel_rfl) (.inl Tryz.func109 (by kernel_rfl) (by kernel_rfl) (by kernel_rfl) (.inl Tryz.func139 (by kernel_rfl) (by kernel_rfl) (by kernel_rfl) (.inl Tryz.func163 (by kernel_rfl) (by kernel_rfl) (by kernel_rfl) (.inl Tryz.func177 (by kernel_rfl) (by kernel_rfl) (by kernel_rfl) (.inl Tryz.func141 (by kernel_rfl) (by kernel_rfl) (by kernel_rfl) (.inl Tryz.func142 (by kernel_rfl) (by kernel_rfl) (by kernel_rfl) (.inl Tryz.func143 (by kernel_rfl) (by kernel_rfl) (by kernel_rfl) (.inl Tryz.func131 (by kernel_rfl) (by kernel_rfl) (by kernel_rfl) (.inl Tryz.func161 (by kernel_rfl) (by kernel_rfl) (by kernel_rfl) (.nil)))))))))))))))))))))))))))))))))))))))))))))))))))))))))))))))))))))))))
theorem run19 (w0 : World) : sat (LPof w0 (SV ctB18)) (runL (JJ) ctB18 uB s19 []) (topQ (.bool true)) := run_norm (by kernel_rfl)
def C19 : PCon := mkC [] (fun _ => True) fun _ => .bool true
theorem ok19 : (vP C19).Ok Tryz.prog 19 := mkC_ev (J := JJ) (un := uB) tabB18 hE hI Tryz.func19 (by kernel_rfl) (by kernel_rfl) (by kernel_rfl) rfl (fun w0 ds hp => run19 w0)
end
end Go.Dx
namespace Go.Dx
open Go.IntKind (i64 u64 u8)
open Go.Sx
noncomputable section
theorem wrapU {x : Int} (h1 : 0 <= x) (h2 : x < 18446744073709551616) : u64.wrap x = x := IntWalk.u64_in _ (by omega)
theorem mulS {x y A B : Int} (h1 : -A <= x) (h2 : x <= A) (h3 : -B <= y) (h4 : y <= B) : -(A * B) <= x * y /\ x * y <= A * B := by
 have hA : 0 <= A := by omega
 have hB : 0 <= B := by omega
 by_cases hy : 0 <= y
 ·have a1 : x * y <= A * y := Int.mul_le_mul_of_nonneg_right h2 hy
  have a2 : A * y <= A * B := iml h4 hA
  have a3 : -A * y <= x * y := Int.mul_le_mul_of_nonneg_right h1 hy
  rw [Int.neg_mul] at a3
  exact ⟨by omega, by omega⟩
 ·have hy' : 0 <= -y := by omega
  have a1 : x * (-y) <= A * (-y) := Int.mul_le_mul_of_nonneg_right h2 hy'
  have a2 : A * (-y) <= A * B := iml (by omega) hA
  have a3 : -A * (-y) <= x * (-y) := Int.mul_le_mul_of_nonneg_right h1 hy'
  have b1 : x * (-y) = -(x * y) := Int.mul_neg _ _
  have b3 : -A * (-y) = -(A * (-y)) := Int.neg_mul _ _
  exact ⟨by omega, by omega⟩
theorem sqN (x : Int) : 0 <= x * x := by
 by_cases h : 0 <= x
 ·exact imn h h
 ·rw [← Int.neg_mul_neg]; exact imn (by omega) (by omega)
theorem parts {x : Int} (h0 : 0 <= x) (h1 : x < 18446744073709551616) : 0 <= x / 4294967296 /\ x / 4294967296 <= 4294967295 /\ 0 <= x % 4294967296 /\ x % 4294967296 <= 4294967295 := by omega
theorem hi_p {x y : Int} (hx0 : 0 <= x) (hx : x < 18446744073709551616) (hy0 : 0 <= y) (hy : y < 18446744073709551616) : F162_0 x y = x * y / 18446744073709551616 := by
 rw [← mul64_arith x y hx0 hx hy0 hy]
 unfold F162_0
 simp only [and_low32 _ hx0 hx, and_low32 _ hy0 hy, IntKind.wrap_u64]
 rw [and_low32 _ (by omega) (by omega)]
 simp only [show (2 : Int) ^ 32 = 4294967296 from rfl]
 rw [Int.fdiv_eq_ediv_of_nonneg _ (by omega), Int.fdiv_eq_ediv_of_nonneg _ (by omega), Int.fdiv_eq_ediv_of_nonneg _ (by omega), Int.fdiv_eq_ediv_of_nonneg _ (by omega), Int.fdiv_eq_ediv_of_nonneg _ (by omega)]
theorem lo_p (x y : Int) : F162_1 x y = x * y % 18446744073709551616 := by unfold F162_1; rw [IntKind.wrap_u64]
theorem atMost_p {x y z w : Int} (hx0 : 0 <= x) (hx : x < 9223372036854775808) (hy0 : 0 <= y) (hy : y < 9223372036854775808) (hz0 : 0 <= z) (hz : z < 9223372036854775808) (hw0 : 0 <= w) (hw : w < 9223372036854775808) :
 F135_0 (F134_0 x y) (F134_1 x y) (F134_0 z w) (F134_1 z w) = decide (x * y <= z * w) := by
 unfold F134_0 F134_1 F135_0
 rw [wrapU hx0 (by omega), wrapU hy0 (by omega), wrapU hz0 (by omega), wrapU hw0 (by omega)]
 rw [hi_p hx0 (by omega) hy0 (by omega), hi_p hz0 (by omega) hw0 (by omega), lo_p, lo_p]
 generalize x * y = a
 generalize z * w = b
 rw [Bool.eq_iff_iff]
 simp only [Bool.cond_eq_ite, Bool.and_true, Bool.and_eq_true, beq_iff_eq, decide_eq_true_eq]
 split <;> (try split) <;> (try split) <;> simp_all <;> omega
def nr (ax ay bx by' px py r : Int) : Bool :=
 bif decide ((px - ax) * (bx - ax) + (py - ay) * (by' - ay) <= 0) then decide ((px - ax) * (px - ax) + (py - ay) * (py - ay) <= r * r)
 else bif decide ((bx - ax) * (bx - ax) + (by' - ay) * (by' - ay) <= (px - ax) * (bx - ax) + (py - ay) * (by' - ay)) then decide ((px - bx) * (px - bx) + (py - by') * (py - by') <= r * r)
 else decide (((bx - ax) * (py - ay) - (by' - ay) * (px - ax)) * ((bx - ax) * (py - ay) - (by' - ay) * (px - ax)) <= r * r * ((bx - ax) * (bx - ax) + (by' - ay) * (by' - ay)))
def sm (x : Int) : Prop := -536870912 <= x /\ x <= 536870912
theorem abs_sq (c : Int) : max c (0 - c) * max c (0 - c) = c * c := by
 by_cases h : 0 <= c
 ·rw [show max c (0 - c) = c from by omega]
 ·rw [show max c (0 - c) = -c from by omega, Int.neg_mul_neg]
section
variable {ax ay bx by' px py r : Int}
theorem near_p (h1 : sm ax) (h2 : sm ay) (h3 : sm bx) (h4 : sm by') (h5 : sm px) (h6 : sm py) (h7 : 0 <= r) (h8 : r <= 1073741824) : F103_0 ax ay bx by' px py r = nr ax ay bx by' px py r := by
 unfold sm at *
 unfold F103_0 nr F84_0 F84_1
 rw [wrapI (x := bx - ax) (by omega) (by omega), wrapI (x := by' - ay) (by omega) (by omega), wrapI (x := px - ax) (by omega) (by omega), wrapI (x := py - ay) (by omega) (by omega), wrapI (x := px - bx) (by omega) (by omega), wrapI (x := py - by') (by omega) (by omega)]
 have e1 : -1073741824 <= bx - ax /\ bx - ax <= 1073741824 := by omega
 have e2 : -1073741824 <= by' - ay /\ by' - ay <= 1073741824 := by omega
 have e3 : -1073741824 <= px - ax /\ px - ax <= 1073741824 := by omega
 have e4 : -1073741824 <= py - ay /\ py - ay <= 1073741824 := by omega
 have e5 : -1073741824 <= px - bx /\ px - bx <= 1073741824 := by omega
 have e6 : -1073741824 <= py - by' /\ py - by' <= 1073741824 := by omega
 generalize bx - ax = dx at *
 generalize by' - ay = dy at *
 generalize px - ax = ux at *
 generalize py - ay = uy at *
 generalize px - bx = vx at *
 generalize py - by' = vy at *
 have k : ∀ a b c d : Int, (-1073741824 <= a /\ a <= 1073741824) -> (-1073741824 <= b /\ b <= 1073741824) -> (-1073741824 <= c /\ c <= 1073741824) -> (-1073741824 <= d /\ d <= 1073741824) -> F85_0 a b c d = a * c + b * d /\ -2305843009213693952 <= a * c + b * d /\ a * c + b * d <= 2305843009213693952 := by
  intro a b c d ha hb hc hd
  have m1 := mulS ha.1 ha.2 hc.1 hc.2
  have m2 := mulS hb.1 hb.2 hd.1 hd.2
  unfold F85_0
  rw [wrapI (x := a * c) (by omega) (by omega), wrapI (x := b * d) (by omega) (by omega), wrapI (by omega) (by omega)]
  exact ⟨rfl, by omega, by omega⟩
 have hr := mulS (x := r) (y := r) (A := 1073741824) (B := 1073741824) (by omega) h8 (by omega) h8
 have hr0 : 0 <= r * r := imn h7 h7
 have s1 : 0 <= dx * dx := sqN dx
 have s2 : 0 <= dy * dy := sqN dy
 rw [(k ux uy dx dy e3 e4 e1 e2).1, (k ux uy ux uy e3 e4 e3 e4).1, (k dx dy dx dy e1 e2 e1 e2).1, (k vx vy vx vy e5 e6 e5 e6).1, wrapI (x := r * r) (by omega) (by omega)]
 have c1 := mulS e1.1 e1.2 e4.1 e4.2
 have c2 := mulS e2.1 e2.2 e3.1 e3.2
 have d1 := mulS e1.1 e1.2 e1.1 e1.2
 have d2 := mulS e2.1 e2.2 e2.1 e2.2
 rw [show F127_0 dx dy ux uy = dx * uy - dy * ux from by
  unfold F127_0
  rw [wrapI (x := dx * uy) (by omega) (by omega), wrapI (x := dy * ux) (by omega) (by omega), wrapI (by omega) (by omega)]]
 rw [wrapI (x := 0 - (dx * uy - dy * ux)) (by omega) (by omega)]
 rw [atMost_p (by omega) (by omega) (by omega) (by omega) hr0 (by omega) (by omega) (by omega), abs_sq]
end
end
end Go.Dx
namespace Go.Dx
open Go.IntKind (i64 u64 u8)
def sd (ax ay bx b2 px py : Int) : Int := (bx - ax) * (py - ay) - (b2 - ay) * (px - ax)
section
variable {ax ay bx b2 X0 Y0 X1 Y1 : Int}
def Bx (ax ay bx b2 X0 Y0 X1 Y1 : Int) : Prop := ¬ (max ax bx < X0 ∨ X1 < min ax bx ∨ max ay b2 < Y0 ∨ Y1 < min ay b2)
end
end Go.Dx
namespace Go.Dx
open Go.IntKind (i64 u64 u8)
open Go.Sx
noncomputable section
theorem out_from (a l h : Int) : F71_0 a l h = !F86_0 a l h := by
 unfold F71_0 F86_0
 by_cases h1 : a < l
 ·rw [dqt h1, dqf (show ¬ l <= a by omega)]; rfl
 ·rw [dqf h1, dqt (show l <= a by omega)]
  by_cases h2 : h < a
  ·rw [dqt h2, cond_false, cond_true]; exact dqf (by omega)
  ·rw [dqf h2, cond_false, cond_true]; exact dqt (by omega)
theorem exB_congr {n : Nat} {p q : Nat -> Bool} (h : ∀ i, i < n -> p i = q i) : exB n p = exB n q := by
 cases hq : exB n q with
 | true =>
   obtain ⟨i, hi, hp⟩ := exB_iff.1 hq
   exact exB_true i hi (by rw [h i hi]; exact hp)
 | false =>
   refine exB_false fun i hi => ?_
   rw [h i hi]
   cases hp : q i with
   | false => rfl
   | true => rw [exB_true i hi hp] at hq; cases hq
theorem wild_placed (n : Nat) (f : Nat -> List V) : F45_0 n f = !F51 n f := by
 unfold F45_0 F99_0 F133
 rw [idx_geq]
 unfold exB F51
 congr 1
 congr 1
 funext i
 rw [out_from]; rfl
theorem toL_len (s : ByteArray) : ∀ (k i : Nat) (r : List UInt8), s.size - i = k -> (ByteArray.toList.loop s i r).length = r.length + k := by
 intro k
 induction k with
 | zero =>
   intro i r h
   rw [ByteArray.toList.loop]
   have : ¬ i < s.size := by omega
   simp [this]
 | succ k ih =>
   intro i r h
   rw [ByteArray.toList.loop]
   have : i < s.size := by omega
   simp only [this, if_true]
   rw [ih (i + 1) _ (by omega)]
   simp; omega
theorem toL_nil (s : ByteArray) : (s.toList == (⟨#[]⟩ : ByteArray).toList) = decide (s.size = 0) := by
 have e : (⟨#[]⟩ : ByteArray).toList = [] := by decide +kernel
 rw [e]
 have hl : s.toList.length = s.size := by
  unfold ByteArray.toList; rw [toL_len s s.size 0 [] (by omega)]; simp
 by_cases h : s.size = 0
 ·rw [dqt h]
  have : s.toList = [] := List.eq_nil_of_length_eq_zero (by omega)
  rw [this]; rfl
 ·rw [dqf h]
  cases hs : s.toList with
  | nil => rw [hs] at hl; simp at hl; omega
  | cons a l => rfl
theorem dropWhile_nil {α : Type} {p : α -> Bool} : ∀ {l : List α}, l.dropWhile p = [] ↔ ∀ x ∈ l, p x = true
 | [] => by simp
 | a :: l => by
   rw [List.dropWhile_cons]
   cases h : p a with
   | true => simp only [if_true]; rw [dropWhile_nil]; simp [h]
   | false => simp [h]
theorem trim_nil (l cs : List UInt8) : Lib.trimS l cs = [] ↔ ∀ b ∈ l, cs.contains b = true := by
 unfold Lib.trimS Lib.trimLeftS Lib.trimRightS
 rw [dropWhile_nil]
 constructor
 ·intro h
  have h1 : l.reverse.dropWhile (cs.contains ·) = [] := by
   cases hd : l.reverse.dropWhile (cs.contains ·) with
   | nil => rfl
   | cons a r =>
     have ha : cs.contains a = true := h a (by rw [hd]; simp)
     have hh := List.head_dropWhile_not (cs.contains ·) (l := l.reverse) (by rw [hd]; simp)
     simp only [hd, List.head_cons] at hh
     rw [ha] at hh; cases hh
  rw [dropWhile_nil] at h1
  exact fun b hb => h1 b (by simpa using hb)
 ·intro h b hb
  have : b ∈ l.reverse := by
   have := List.mem_reverse.1 hb
   exact (List.dropWhile_sublist _).subset this
  exact h b (by simpa using this)
def nmB (b : Nat) : Bool := (decide (97 <= b) && decide (b <= 122)) || ((decide (48 <= b) && decide (b <= 57)) || decide (b = 45))
theorem cut_bytes (b : UInt8) : ([97, 98, 99, 100, 101, 102, 103, 104, 105, 106, 107, 108, 109, 110, 111, 112, 113, 114, 115, 116, 117, 118, 119, 120, 121, 122, 48, 49, 50, 51, 52, 53, 54, 55, 56, 57, 45] : List UInt8).contains b = nmB b.toNat := by
 have key : ∀ n : Fin 256, ([97, 98, 99, 100, 101, 102, 103, 104, 105, 106, 107, 108, 109, 110, 111, 112, 113, 114, 115, 116, 117, 118, 119, 120, 121, 122, 48, 49, 50, 51, 52, 53, 54, 55, 56, 57, 45] : List UInt8).contains (UInt8.ofNat n.val) = nmB n.val := by decide +kernel
 have := key ⟨b.toNat, b.toNat_lt⟩
 simpa using this
theorem getD_el {l : List UInt8} {i : Nat} (h : i < l.length) : l.getD i 0 = l[i] := by simp [List.getD, h]
theorem badN_eq (s : ByteArray) (i : Nat) : (!badN s i) = (nmB (s.data.toList.getD i 0).toNat && (decide (0 < i) || (decide (97 <= (s.data.toList.getD i 0).toNat) && decide ((s.data.toList.getD i 0).toNat <= 122)))) := by
 unfold badN nmB
 generalize (s.data.toList.getD i 0).toNat = b
 rw [Bool.eq_iff_iff]
 simp only [Bool.cond_eq_ite, Bool.not_eq_true', Bool.and_eq_true, Bool.or_eq_true, decide_eq_true_eq]
 split <;> split <;> (try split) <;> simp_all <;> omega
theorem name_eq (s : ByteArray) : F114_0 s = F122 s := by
 unfold F114_0 F122
 rw [toL_nil]
 have hsz : s.size = s.data.toList.length := by rw [Array.length_toList]; rfl
 by_cases h0 : s.size = 0
 ·rw [dqt h0, h0]; rfl
 rw [dqf h0]
 have e0 : decide (0 < (s.size : Int)) = true := dqt (by omega)
 rw [e0]
 by_cases h24 : (s.size : Int) <= 24
 case neg => rw [dqf h24]; simp
 rw [dqt h24]
 simp only [Bool.not_false, cond_true, Bool.and_true]
 rw [toL_nil]
 rw [Bool.eq_iff_iff]
 have ht : (F146 s (ByteArray.mk (Array.mk [97, 98, 99, 100, 101, 102, 103, 104, 105, 106, 107, 108, 109, 110, 111, 112, 113, 114, 115, 116, 117, 118, 119, 120, 121, 122, 48, 49, 50, 51, 52, 53, 54, 55, 56, 57, 45]))).size = 0 ↔ ∀ b ∈ s.data.toList, nmB b.toNat = true := by
  rw [show (F146 s (ByteArray.mk (Array.mk [97, 98, 99, 100, 101, 102, 103, 104, 105, 106, 107, 108, 109, 110, 111, 112, 113, 114, 115, 116, 117, 118, 119, 120, 121, 122, 48, 49, 50, 51, 52, 53, 54, 55, 56, 57, 45]))).size = (Lib.trimS s.data.toList [97, 98, 99, 100, 101, 102, 103, 104, 105, 106, 107, 108, 109, 110, 111, 112, 113, 114, 115, 116, 117, 118, 119, 120, 121, 122, 48, 49, 50, 51, 52, 53, 54, 55, 56, 57, 45]).length from by simp [F146, ByteArray.size]]
  rw [List.length_eq_zero_iff, trim_nil]
  constructor
  ·intro h b hb; rw [← cut_bytes]; exact h b hb
  ·intro h b hb; rw [cut_bytes]; exact h b hb
 have hb : allB s.size (fun i => !badN s i) = true ↔ (∀ b ∈ s.data.toList, nmB b.toNat = true) /\ 97 <= (s.data.toList.getD 0 0).toNat /\ (s.data.toList.getD 0 0).toNat <= 122 := by
  rw [allB_true]
  constructor
  ·intro h
   refine ⟨fun b hb => ?_, ?_⟩
   ·obtain ⟨i, hi, rfl⟩ := List.getElem_of_mem hb
    have := h i (by omega)
    rw [badN_eq, Bool.and_eq_true] at this
    rw [getD_el hi] at this
    exact this.1
   ·have := h 0 (by omega)
    rw [badN_eq] at this
    simp only [Bool.and_eq_true, Bool.or_eq_true, decide_eq_true_eq] at this
    rcases this.2 with h1 | h1
    ·omega
    ·exact h1
  ·rintro ⟨h1, h2, h3⟩ i hi
   rw [badN_eq]
   have hi' : i < s.data.toList.length := by omega
   rw [h1 _ (by rw [getD_el hi']; exact List.getElem_mem hi')]
   by_cases hz : i = 0
   ·subst hz; rw [dqt h2, dqt h3]; rfl
   ·simp; omega
 rw [hb, ← ht]
 cases hd : decide ((F146 s (ByteArray.mk (Array.mk [97, 98, 99, 100, 101, 102, 103, 104, 105, 106, 107, 108, 109, 110, 111, 112, 113, 114, 115, 116, 117, 118, 119, 120, 121, 122, 48, 49, 50, 51, 52, 53, 54, 55, 56, 57, 45]))).size = 0) with
 | false =>
   have := of_decide_eq_false hd
   simp [this]
 | true =>
   have := of_decide_eq_true hd
   simp only [cond_true, this, true_and]
   rw [show s.data.1.getD 0 0 = s.data.toList.getD 0 0 from rfl]
   generalize (s.data.toList.getD 0 0).toNat = b
   by_cases g : 97 <= b
   ·rw [dqt (show (97 : Int) <= (b : Int) by omega)]
    simp only [cond_true, decide_eq_true_eq]; omega
   ·rw [dqf (show ¬ (97 : Int) <= (b : Int) by omega)]
    simp; omega
end
noncomputable section
theorem pt_wild (x y : Int) : F113_0 x y = !ptOk x y := by unfold F113_0 ptOk; exact wild_placed _ _
theorem dup_eq (n : Nat) (f : Nat -> List V) (s : ByteArray) : F90_0 n f s = exB n fun k => (sv (hdV (f k))).toList == s.toList := by
 unfold F90_0 F129; rw [idx_geq]; rfl
theorem dupC_eq (n : Nat) (f : Nat -> List V) (s : ByteArray) : F121_0 n f s = exB n fun k => (sv (hdV (f k))).toList == s.toList := by
 unfold F121_0 F149; rw [idx_geq]; rfl
theorem far_eq (n : Nat) (f : Nat -> List V) : F115_0 n f = exB n fun i => !ptOk (jv0 (f i)) (jv1 (f i)) := by
 unfold F115_0 F147; rw [idx_geq]; exact exB_congr fun i _ => pt_wild _ _
theorem road_eq (n0 : Nat) (f0 : FnV) (i : Nat) : c62 n0 (elV tyR f0) i = cR n0 f0 i := by
 unfold c62 cR F63 F70 roadE
 rw [name_eq, dup_eq, far_eq]
 simp only [Int.toNat_natCast, Nat.sub_zero, Nat.zero_add, out_from, Bool.not_not]
 rfl
theorem tree_eq (n2 : Nat) (f2 : FnV) (i : Nat) : c64 n2 (elV tyT f2) i = cT f2 i := by
 show F65_0 (jv0 (f2 i)) (jv1 (f2 i)) (jv2 (f2 i)) (jv3 (f2 i)) (jv4 (f2 i)) = _
 unfold cT F65_0 treeE
 rw [wild_placed]
 show (bif !!ptOk _ _ then _ else _) = _
 generalize ptOk _ _ = p
 generalize jv2 (f2 i) = a
 generalize jv3 (f2 i) = z
 generalize jv4 (f2 i) = w
 cases p
 ·rfl
 ·simp only [Bool.not_true, Bool.not_false, cond_true]
  rw [out_from]
  cases ha : F86_0 a 1 20000
  ·simp only [Bool.not_false, Bool.not_true, cond_true, cond_false]
   by_cases hw : 1 <= w /\ w <= 1000
   ·have e : F86_0 w 1 1000 = false := by unfold F86_0; rw [dqf (by omega), cond_false]; exact dqf (by omega)
    rw [e, wrapI (by omega) (by omega)]
    unfold F86_0
    by_cases hz : z < 0
    ·rw [dqt hz]; rfl
    ·rw [dqf hz]
     by_cases hz2 : w <= z
     ·rw [dqt (show w - 1 < z by omega), dqt hz2]; rfl
     ·rw [dqf (show ¬ w - 1 < z by omega), dqf hz2, dqf (show ¬ 1000 < w by omega)]; rfl
   ·have e : F86_0 w 1 1000 = true := by
     unfold F86_0
     by_cases h1 : w < 1
     ·rw [dqt h1]; rfl
     ·rw [dqf h1, cond_false]; exact dqt (by omega)
    rw [e]
    have : (bif bif decide (z < 0) then true else decide (w <= z) then true else decide (1000 < w)) = true := by
     by_cases hz : z < 0
     ·rw [dqt hz]; rfl
     ·rw [dqf hz, cond_false]
      by_cases h2 : w <= z
      ·rw [dqt h2]; rfl
      ·rw [dqf h2, cond_false]; exact dqt (by omega)
    rw [this]
    cases !F86_0 z 0 (i64.wrap (w - 1)) <;> rfl
  ·rfl
theorem wnd_eq (x0 x1 x2 x3 : Int) : F118_0 x0 x1 x2 x3 = bif bif bif bif bif decide (x0 < 0) then true else decide (x1 <= x0) then true else decide (1000 < x1) then true else decide (x2 < 0) then true else decide (x3 <= x2) then true else decide (1000 < x3) := by
 have key : ∀ a b : Int, ((bif !F86_0 b 1 1000 then F86_0 a 0 (i64.wrap (b - 1)) else true) = true) ↔ (a < 0 ∨ b <= a ∨ 1000 < b) := by
  intro a b
  unfold F86_0
  by_cases h1 : b < 1
  ·rw [dqt h1]; simp; omega
  ·rw [dqf h1]
   by_cases h2 : 1000 < b
   ·rw [dqt h2]; simp; omega
   ·rw [dqf h2, wrapI (by omega) (by omega)]
    simp only [cond_false, Bool.not_false, cond_true, Bool.cond_eq_ite]
    split <;> simp_all <;> omega
 have e1 := key x0 x1
 have e2 := key x2 x3
 have : F118_0 x0 x1 x2 x3 = (bif !(bif !F86_0 x1 1 1000 then F86_0 x0 0 (i64.wrap (x1 - 1)) else true) then (bif !F86_0 x3 1 1000 then F86_0 x2 0 (i64.wrap (x3 - 1)) else true) else true) := by
  unfold F118_0
  cases F86_0 x1 1 1000 <;> cases F86_0 x0 0 (i64.wrap (x1 - 1)) <;> rfl
 rw [this]
 generalize (bif !F86_0 x1 1 1000 then F86_0 x0 0 (i64.wrap (x1 - 1)) else true) = p at e1 ⊢
 generalize (bif !F86_0 x3 1 1000 then F86_0 x2 0 (i64.wrap (x3 - 1)) else true) = q at e2 ⊢
 rw [Bool.eq_iff_iff]
 simp only [Bool.cond_eq_ite]
 cases p <;> cases q <;> simp_all <;> omega
theorem front_eq (n4 : Nat) (f4 : FnV) (i : Nat) : c66 n4 (elV tyF f4) i = cF f4 i := by
 show F67_0 (jv0 (f4 i)) (jv1 (f4 i)) (jv2 (f4 i)) (jv3 (f4 i)) (lenV (hdV (tlV (tlV (tlV (tlV (f4 i))))))) (fun j => views tp4 (atV (hdV (tlV (tlV (tlV (tlV (f4 i)))))) j)) = _
 unfold cF F67_0 F72
 rw [wild_placed]
 have : ∀ n (f : Nat -> List V), F119_0 n f = exB n fun j => badW (f j) := by
  intro n f
  unfold F119_0 F148; rw [idx_geq]
  exact exB_congr fun j _ => by rw [wnd_eq]; rfl
 rw [this]
 rfl
theorem colx (p q r t : Bool) (B : Int) : (bif p then bif !q then bif !r then bif t then 7 else B else 7 else 7 else 7) = (bif bif bif bif !p then true else q then true else r then true else t then 7 else B) := by
 cases p <;> cases q <;> cases r <;> cases t <;> rfl
theorem col_eq (n6 : Nat) (f6 : FnV) (i : Nat) : c68 n6 (elV tyC f6) i = cC n6 f6 i := by
 unfold c68 cC F69_0 F73
 rw [name_eq, dupC_eq, wild_placed]
 simp only [Int.toNat_natCast, Nat.sub_zero, Nat.zero_add]
 unfold colE
 simp only [out_from, Bool.not_not]
 rw [colx]
 rfl
theorem first_congr {n : Nat} {c d : Nat -> Int} (h : ∀ i, c i = d i) : firstI n c = firstI n d /\ firstE n c = firstE n d := by
 have : c = d := funext h
 rw [this]; exact ⟨rfl, rfl⟩
theorem check_eq (n0 : Nat) (f0 : FnV) (n2 : Nat) (f2 : FnV) (n4 : Nat) (f4 : FnV) (n6 : Nat) (f6 : FnV) :
 (F23_0 n0 f0 n2 f2 n4 f4 n6 f6, F23_1 n0 f0 n2 f2 n4 f4 n6 f6, F23_2 n0 f0 n2 f2 n4 f4 n6 f6) = F24 n0 f0 n2 f2 n4 f4 n6 f6 := by
 unfold F23_0 F23_1 F23_2 F24 long z1 z2 z3 r24 F62_0 F62_1 F64_0 F64_1 F66_0 F66_1 F68_0 F68_1
 rw [(first_congr (road_eq n0 f0)).1, (first_congr (road_eq n0 f0)).2, (first_congr (tree_eq n2 f2)).1, (first_congr (tree_eq n2 f2)).2, (first_congr (front_eq n4 f4)).1, (first_congr (front_eq n4 f4)).2, (first_congr (col_eq n6 f6)).1, (first_congr (col_eq n6 f6)).2]
 cases (bif bif bif decide (8 < (n0 : Int)) then true else decide (12 < (n2 : Int)) then true else decide (8 < (n4 : Int)) then true else decide (24 < (n6 : Int)))
 ·simp only [cond_false]
  cases h1 : firstE n0 (cR n0 f0) != 0
  ·simp only [cond_false]
   cases h2 : firstE n2 (cT f2) != 0
   ·simp only [cond_false]
    cases h3 : firstE n4 (cF f4) != 0
    ·simp only [cond_false]
     cases h4 : firstE n6 (cC n6 f6) != 0
     ·rfl
     ·rfl
    ·rfl
   ·rfl
  ·rfl
 ·rfl
end
noncomputable section
theorem elV2 (ts : List Ty) (f : Nat -> List V) : elV ts (elV ts f) = elV ts f := by
 funext i; exact views_idem ts _
theorem firstE_zero {n : Nat} {c : Nat -> Int} (h : firstE n c = 0) : ∀ i, i < n -> c i = 0 := by
 unfold firstE at h
 rcases idx_ex (n := n) (p := fun i => c i != 0) with ⟨_, h2⟩ | ⟨j, h1, h2, h3, _⟩
 ·intro i hi
  have := h2 i hi
  simpa using this
 ·rw [h2] at h
  have : ((j : Int) == -1) = false := by rw [beq_eq_false_iff_ne]; omega
  rw [this, cond_false, Int.toNat_natCast] at h
  rw [h] at h3; cases h3
section
variable {n0 : Nat} {f0 : Nat -> List V} {n2 : Nat} {f2 : Nat -> List V} {n4 : Nat} {f4 : Nat -> List V} {n6 : Nat} {f6 : Nat -> List V} {i j m l : Int}
structure Valid (n0 : Nat) (f0 : FnV) (n2 : Nat) (f2 : FnV) (n4 : Nat) (f4 : FnV) (n6 : Nat) (f6 : FnV) : Prop where
 l0 : n0 <= 8
 l2 : n2 <= 12
 l4 : n4 <= 8
 l6 : n6 <= 24
 rd : ∀ i, i < n0 -> cR n0 f0 i = 0
 tr : ∀ i, i < n2 -> cT f2 i = 0
 fr : ∀ i, i < n4 -> cF f4 i = 0
 cl : ∀ i, i < n6 -> cC n6 f6 i = 0
theorem r24_zero {n : Nat} {c : Nat -> Int} {k : Int} {z : Int × Int × Int} (h : (r24 n c k z).2.2 = 0) : (∀ i, i < n -> c i = 0) /\ z.2.2 = 0 := by
 unfold r24 at h
 cases hb : firstE n c != 0 with
 | true => rw [hb] at h; simp only [cond_true] at h; rw [h] at hb; cases hb
 | false =>
   rw [hb] at h
   exact ⟨firstE_zero (by simpa using hb), h⟩
theorem valid (h : F24_2 n0 f0 n2 f2 n4 f4 n6 f6 = 0) : Valid n0 f0 n2 f2 n4 f4 n6 f6 := by
 unfold F24_2 F24 at h
 cases hl : long n0 f0 n2 f2 n4 f4 n6 f6 with
 | true => rw [hl] at h; cases h
 | false =>
   rw [hl, cond_false] at h
   obtain ⟨h1, h⟩ := r24_zero h
   unfold z1 at h
   obtain ⟨h2, h⟩ := r24_zero h
   unfold z2 at h
   obtain ⟨h3, h⟩ := r24_zero h
   unfold z3 at h
   obtain ⟨h4, _⟩ := r24_zero h
   unfold long at hl
   simp only [Bool.cond_eq_ite, Bool.ite_eq_false_distrib] at hl
   have : n0 <= 8 /\ n2 <= 12 /\ n4 <= 8 /\ n6 <= 24 := by
    refine ⟨?_, ?_, ?_, ?_⟩ <;> (apply Classical.byContradiction; intro hn) <;> simp_all <;> omega
   exact ⟨this.1, this.2.1, this.2.2.1, this.2.2.2, h1, h2, h3, h4⟩
def bad1 (i m : Int) : Bool := bif decide (i < 0) then true else decide (m <= i)
def ix1 (e i m : Int) : Int := bif e == 0 then (bif bad1 i m then 4 else 0) else e
theorem F23_24 : F23_2 n0 f0 n2 f2 n4 f4 n6 f6 = F24_2 n0 f0 n2 f2 n4 f4 n6 f6 := congrArg (fun t => t.2.2) (check_eq n0 f0 n2 f2 n4 f4 n6 f6)
theorem out_bad {i : Int} {m : Nat} (hm : m <= 9223372036854775807) : F86_0 i 0 (i64.wrap ((m : Int) - 1)) = bad1 i m := by
 unfold F86_0 bad1
 rw [wrapI (by omega) (by omega)]
 by_cases h : i < 0
 ·rw [dqt h]; rfl
 ·rw [dqf h, cond_false, cond_false]
  by_cases g : (m : Int) <= i
  ·rw [dqt g]; exact dqt (by omega)
  ·rw [dqf g]; exact dqf (by omega)
theorem chk2 {i : Int} {m : Nat} (hm : F24_2 n0 (elV tyR f0) n2 (elV tyT f2) n4 (elV tyF f4) n6 (elV tyC f6) = 0 -> m <= 9223372036854775807) :
 F44 n0 (elV tyR f0) n2 (elV tyT f2) n4 (elV tyF f4) n6 (elV tyC f6) 2 (elV tp1 (secF [vi i, vi m] 0 1)) = ix1 (F24_2 n0 (elV tyR f0) n2 (elV tyT f2) n4 (elV tyF f4) n6 (elV tyC f6)) i m := by
 unfold F44 outs ix1
 simp only [elV2, F23_24]
 cases he : F24_2 n0 (elV tyR f0) n2 (elV tyT f2) n4 (elV tyF f4) n6 (elV tyC f6) == 0 with
 | false => rfl
 | true =>
   rw [cond_true, cond_true]
   have := hm (eq_of_beq he)
   rw [← out_bad this]
   show (bif !(true && !F86_0 i 0 (i64.wrap ((m : Int) - 1))) then _ else _) = _
   rw [Bool.true_and, Bool.not_not]
end
end
noncomputable section
theorem from_in {a l h : Int} (hf : F71_0 a l h = true) : l <= a /\ a <= h := by
 unfold F71_0 at hf
 by_cases h1 : l <= a
 ·rw [dqt h1, cond_true] at hf; exact ⟨h1, of_decide_eq_true hf⟩
 ·rw [dqf h1] at hf; cases hf
end
noncomputable section
section
variable {ax ay bx b2 px py r : Int}
theorem sd_p (h1 : sm ax) (h2 : sm ay) (h3 : sm bx) (h4 : sm b2) (h5 : sm px) (h6 : sm py) : F127_0 (F84_0 bx ax) (F84_1 b2 ay) (F84_0 px ax) (F84_1 py ay) = sd ax ay bx b2 px py /\ -4611686018427387904 <= sd ax ay bx b2 px py /\ sd ax ay bx b2 px py <= 4611686018427387904 := by
 unfold sm at *
 unfold sd F127_0 F84_0 F84_1
 rw [wrapI (x := bx - ax) (by omega) (by omega), wrapI (x := b2 - ay) (by omega) (by omega), wrapI (x := px - ax) (by omega) (by omega), wrapI (x := py - ay) (by omega) (by omega)]
 have c1 := mulS (x := bx - ax) (y := py - ay) (A := 1073741824) (B := 1073741824) (by omega) (by omega) (by omega) (by omega)
 have c2 := mulS (x := b2 - ay) (y := px - ax) (A := 1073741824) (B := 1073741824) (by omega) (by omega) (by omega) (by omega)
 rw [wrapI (x := (bx - ax) * (py - ay)) (by omega) (by omega), wrapI (x := (b2 - ay) * (px - ax)) (by omega) (by omega), wrapI (by omega) (by omega)]
 exact ⟨rfl, by omega, by omega⟩
end
end
noncomputable section
theorem ix1_zero {e i m : Int} (h : ix1 e i m = 0) : e = 0 /\ 0 <= i /\ i < m := by
 unfold ix1 at h
 cases he : e == 0 with
 | false => rw [he, cond_false] at h; rw [h] at he; cases he
 | true =>
   rw [he, cond_true] at h
   refine ⟨eq_of_beq he, ?_⟩
   unfold bad1 at h
   by_cases h1 : i < 0
   ·rw [dqt h1] at h; cases h
   ·rw [dqf h1, cond_false] at h
    by_cases h2 : m <= i
    ·rw [dqt h2] at h; cases h
    ·omega
end
noncomputable section
def far2 (ax ay X0 Y0 X1 Y1 : Int) : Int := i64.wrap (i64.wrap (max (max 0 (i64.wrap (i64.wrap (2 * X0) - ax))) (i64.wrap (ax - i64.wrap (2 * X1))) * max (max 0 (i64.wrap (i64.wrap (2 * X0) - ax))) (i64.wrap (ax - i64.wrap (2 * X1)))) + i64.wrap (max (max 0 (i64.wrap (i64.wrap (2 * Y0) - ay))) (i64.wrap (ay - i64.wrap (2 * Y1))) * max (max 0 (i64.wrap (i64.wrap (2 * Y0) - ay))) (i64.wrap (ay - i64.wrap (2 * Y1)))))
section
variable {ax ay bx b2 w X0 Y0 X1 Y1 px py : Int}
def pl (x : Int) : Prop := -100000000 <= x /\ x <= 100000000
theorem dbl {x : Int} (h : pl x) : i64.wrap (2 * x) = 2 * x /\ sm (2 * x) := by
 unfold pl at h; unfold sm
 exact ⟨wrapI (by omega) (by omega), by omega⟩
theorem corner_p (h1 : sm ax) (h2 : sm ay) (h3 : sm bx) (h4 : sm b2) (h7 : 0 <= w) (h8 : w <= 1073741824) (hx : pl px) (hy : pl py) : F123_0 ax ay bx b2 w px py = nr ax ay bx b2 (2 * px) (2 * py) w := by
 unfold F123_0
 rw [(dbl hx).1, (dbl hy).1]
 exact near_p h1 h2 h3 h4 (dbl hx).2 (dbl hy).2 h7 h8
theorem far_p (ax ay X0 Y0 X1 Y1 : Int) : F85_0 (max (max (i64.wrap (i64.wrap (2 * X0) - ax)) 0) (i64.wrap (ax - i64.wrap (2 * X1)))) (max (max (i64.wrap (i64.wrap (2 * Y0) - ay)) 0) (i64.wrap (ay - i64.wrap (2 * Y1)))) (max (max (i64.wrap (i64.wrap (2 * X0) - ax)) 0) (i64.wrap (ax - i64.wrap (2 * X1)))) (max (max (i64.wrap (i64.wrap (2 * Y0) - ay)) 0) (i64.wrap (ay - i64.wrap (2 * Y1)))) = far2 ax ay X0 Y0 X1 Y1 := by
 unfold F85_0 far2
 rw [Int.max_comm (i64.wrap (i64.wrap (2 * X0) - ax)) 0, Int.max_comm (i64.wrap (i64.wrap (2 * Y0) - ay)) 0]
theorem thr_p (h1 : sm ax) (h2 : sm ay) (h3 : sm bx) (h4 : sm b2) (g1 : pl X0) (g2 : pl Y0) (g3 : pl X1) (g4 : pl Y1) :
 F145_0 ax ay bx b2 X0 Y0 X1 Y1 = true ↔ (Bx ax ay bx b2 (2 * X0) (2 * Y0) (2 * X1) (2 * Y1) /\ (0 <= sd ax ay bx b2 (2 * X0) (2 * Y0) ∨ 0 <= sd ax ay bx b2 (2 * X1) (2 * Y0) ∨ 0 <= sd ax ay bx b2 (2 * X1) (2 * Y1) ∨ 0 <= sd ax ay bx b2 (2 * X0) (2 * Y1)) /\ (sd ax ay bx b2 (2 * X0) (2 * Y0) <= 0 ∨ sd ax ay bx b2 (2 * X1) (2 * Y0) <= 0 ∨ sd ax ay bx b2 (2 * X1) (2 * Y1) <= 0 ∨ sd ax ay bx b2 (2 * X0) (2 * Y1) <= 0)) := by
 have s : ∀ px py, pl px -> pl py -> F78_0 ax ay bx b2 (F101_0 px 2) (F101_1 py 2) = sd ax ay bx b2 (2 * px) (2 * py) := fun px py hx hy => by
  unfold F78_0 F101_0 F101_1
  rw [(dbl hx).1, (dbl hy).1]
  exact (sd_p h1 h2 h3 h4 (dbl hx).2 (dbl hy).2).1
 unfold F145_0
 rw [s _ _ g1 g2, s _ _ g3 g2, s _ _ g3 g4, s _ _ g1 g4, (dbl g1).1, (dbl g2).1, (dbl g3).1, (dbl g4).1]
 generalize sd ax ay bx b2 (2 * X0) (2 * Y0) = p
 generalize sd ax ay bx b2 (2 * X1) (2 * Y0) = q
 generalize sd ax ay bx b2 (2 * X1) (2 * Y1) = u
 generalize sd ax ay bx b2 (2 * X0) (2 * Y1) = t
 unfold Bx
 have o4 : ∀ a b c d : Bool, (bif bif bif a then true else b then true else c then true else d) = true ↔ (a = true ∨ b = true ∨ c = true ∨ d = true) := by
  intro a b c d; cases a <;> cases b <;> cases c <;> cases d <;> simp
 have e1 := o4 (decide (max ax bx < 2 * X0)) (decide (2 * X1 < min ax bx)) (decide (max ay b2 < 2 * Y0)) (decide (2 * Y1 < min ay b2))
 have e2 := o4 (decide (0 <= p)) (decide (0 <= q)) (decide (0 <= u)) (decide (0 <= t))
 have e3 := o4 (decide (p <= 0)) (decide (q <= 0)) (decide (u <= 0)) (decide (t <= 0))
 simp only [decide_eq_true_eq] at e1 e2 e3
 rw [← e1, ← e2, ← e3]
 generalize (bif bif bif decide (max ax bx < 2 * X0) then true else decide (2 * X1 < min ax bx) then true else decide (max ay b2 < 2 * Y0) then true else decide (2 * Y1 < min ay b2)) = A
 generalize (bif bif bif decide (0 <= p) then true else decide (0 <= q) then true else decide (0 <= u) then true else decide (0 <= t)) = B
 generalize (bif bif bif decide (p <= 0) then true else decide (q <= 0) then true else decide (u <= 0) then true else decide (t <= 0)) = C
 cases A <;> cases B <;> cases C <;> simp
end
end
noncomputable section
theorem rough_eq (a b c d : Int) : F53_0 a b c d = !F58_0 a b c d := by
 unfold F53_0 F58_0
 rw [wild_placed]
 generalize F51 _ _ = p
 have e1 : decide (c < a) = !decide (a <= c) := by by_cases h : a <= c <;> simp [h] <;> omega
 have e2 : decide (d < b) = !decide (b <= d) := by by_cases h : b <= d <;> simp [h] <;> omega
 rw [e1, e2]
 generalize decide (a <= c) = q
 generalize decide (b <= d) = u
 cases p <;> cases q <;> cases u <;> rfl
theorem patch_in {a b c d : Int} (h : F58_0 a b c d = true) : (-100000 <= a /\ a <= 100000) /\ (-100000 <= b /\ b <= 100000) /\ (-100000 <= c /\ c <= 100000) /\ (-100000 <= d /\ d <= 100000) /\ a <= c /\ b <= d := by
 unfold F58_0 at h
 cases hp : F51 4 (elV tp1 (secF [vi a, vi b, vi c, vi d] 0 1)) with
 | false => rw [hp] at h; cases h
 | true =>
   rw [hp, cond_true] at h
   by_cases h1 : a <= c
   ·rw [dqt h1, cond_true] at h
    have h2 := of_decide_eq_true h
    unfold F51 at hp
    exact ⟨from_in (allB_ok hp 0 (by omega)), from_in (allB_ok hp 1 (by omega)), from_in (allB_ok hp 2 (by omega)), from_in (allB_ok hp 3 (by omega)), h1, h2⟩
   ·rw [dqf h1] at h; cases h
theorem pt_in {x y : Int} (h : ptOk x y = true) : (-100000 <= x /\ x <= 100000) /\ (-100000 <= y /\ y <= 100000) := by
 unfold ptOk F51 at h
 exact ⟨from_in (allB_ok h 0 (by omega)), from_in (allB_ok h 1 (by omega))⟩
structure RoadIn (n : Nat) (f : Nat -> List V) (w : Int) : Prop where
 two : 2 <= n
 eight : n <= 8
 pts : ∀ j, j < n -> (-100000 <= jv0 (f j) /\ jv0 (f j) <= 100000) /\ (-100000 <= jv1 (f j) /\ jv1 (f j) <= 100000)
 adj : ∀ j, j + 1 < n -> eqP f (j + 1) j = false
 w1 : 100 <= w
 w2 : w <= 30000
theorem road_in {n0 : Nat} {f0 : Nat -> List V} {i : Nat} (h : cR n0 f0 i = 0) : RoadIn (lenV (hdV (tlV (tlV (f0 i))))) (fun j => views tp2 (atV (hdV (tlV (tlV (f0 i)))) j)) (jv3 (f0 i)) := by
 have h' : F70 n0 (elV tyR f0) (i : Int) = 0 := h
 unfold F70 at h'
 simp only [Int.toNat_natCast] at h'
 cases hn : F122 (sv (hdV (elV tyR f0 i))) with
 | false => rw [hn] at h'; cases h'
 | true =>
   rw [hn, Bool.not_true, cond_false] at h'
   cases hd : exB i (fun k => (sv (hdV (elV tyR f0 k))).toList == (sv (hdV (elV tyR f0 i))).toList) with
   | true => rw [hd] at h'; cases h'
   | false =>
     rw [hd, cond_false] at h'
     have h2 : roadE (jv1 (f0 i)) (lenV (hdV (tlV (tlV (f0 i))))) (fun j => views tp2 (atV (hdV (tlV (tlV (f0 i)))) j)) (jv3 (f0 i)) = 0 := h'
     unfold roadE at h2
     generalize (fun j => views tp2 (atV (hdV (tlV (tlV (f0 i)))) j)) = f at h2 ⊢
     generalize lenV (hdV (tlV (tlV (f0 i)))) = n at h2 ⊢
     generalize jv3 (f0 i) = w at h2 ⊢
     generalize jv1 (f0 i) = k at h2
     cases h3 : F71_0 k 0 3 with
     | false => rw [h3] at h2; cases h2
     | true =>
       rw [h3, Bool.not_true, cond_false] at h2
       by_cases h4 : (n : Int) < 2
       ·rw [dqt h4] at h2; cases h2
       ·rw [dqf h4, cond_false] at h2
        by_cases h5 : 8 < (n : Int)
        ·rw [dqt h5] at h2; cases h2
        ·rw [dqf h5, cond_false] at h2
         cases h6 : exB n (fun i => !ptOk (jv0 (f i)) (jv1 (f i))) with
         | true => rw [h6] at h2; cases h2
         | false =>
           rw [h6, cond_false] at h2
           cases h7 : F71_0 w 100 30000 with
           | false => rw [h7] at h2; cases h2
           | true =>
             rw [h7, Bool.not_true, cond_false] at h2
             cases h8 : adjP n f with
             | true => rw [h8] at h2; cases h2
             | false =>
               have hw := from_in h7
               refine ⟨by omega, by omega, fun j hj => ?_, fun j hj => ?_, hw.1, hw.2⟩
               ·apply pt_in
                cases hp : ptOk (jv0 (f j)) (jv1 (f j)) with
                | true => rfl
                | false => rw [exB_true j hj (by rw [hp]; rfl)] at h6; cases h6
               ·cases hp : eqP f (j + 1) j with
                | false => rfl
                | true =>
                  unfold adjP at h8
                  rw [exB_true (j + 1) hj (by rw [Nat.add_sub_cancel, hp]; simp)] at h8; cases h8
section
variable {n : Nat} {f : Nat -> List V} {w : Int}
theorem w1p {j n : Nat} (h : j < n) (hn : n <= 8) : (i64.wrap ((j : Int) + 1)).toNat = j + 1 := by
 rw [wrapI (by omega) (by omega)]; omega
theorem dpt {x : Int} (h : -100000 <= x /\ x <= 100000) : i64.wrap (2 * x) = 2 * x /\ sm (2 * x) := dbl (by unfold pl; omega)
end
section
variable {n0 : Nat} {f0 : Nat -> List V} {n2 : Nat} {f2 : Nat -> List V} {n4 : Nat} {f4 : Nat -> List V} {n6 : Nat} {f6 : Nat -> List V}
theorem ix_road {x8 : Int} (h : ix1 (F24_2 n0 (elV tyR f0) n2 (elV tyT f2) n4 (elV tyF f4) n6 (elV tyC f6)) x8 n0 = 0) : RoadIn (lenV (hdV (tlV (tlV (f0 x8.toNat))))) (fun j => views tp2 (atV (hdV (tlV (tlV (f0 x8.toNat)))) j)) (jv3 (f0 x8.toNat)) := by
 obtain ⟨h1, h2, h3⟩ := ix1_zero h
 have hv := (valid h1).rd x8.toNat (by omega)
 exact road_in (f0 := f0) (n0 := n0) (by have : cR n0 (elV tyR f0) x8.toNat = cR n0 f0 x8.toNat := by unfold cR; rw [elV2]
                                         rw [← this]; exact hv)
end
end
end Go.Dx
namespace Go.Dx
open Go.IntKind (i64 u64 u8)
open Go.Sx Go.Proofs
noncomputable section
def ctB24 : CTab := (19, .con C19) :: ctB17
theorem tabB24 : TabOk Tryz.prog eqs its ctB24 := .con ok19 (tabB17)
end
noncomputable section
def ctB28 : CTab := [(19, .con C19), (22, .con C22), (25, .con C25), (15, .con C15), (55, .con C55), (61, .con C61), (74, .con C74), (108, .con C108), (46, .con C46), (111, .con C111), (56, .con C56), (47, .con C47), (145, .con C145), (140, .con C140), (49, .con C49), (123, .con C123), (44, .con C44), (23, .con C23), (62, .con C62), (68, .con C68), (63, .con C63), (69, .con C69), (117, .inl s117 u0), (116, .inl s116 u0), (115, .con C115), (114, .con C114), (147, .con C147), (64, .con C64), (66, .con C66), (113, .con C113), (65, .con C65), (67, .con C67), (53, .con C53), (45, .con C45), (90, .con C90), (119, .con C119), (121, .con C121), (99, .con C99), (129, .con C129), (148, .con C148), (149, .con C149), (112, .con C112), (118, .con C118), (120, .con C120), (133, .con C133), (103, .con C103), (100, .con C100), (134, .con C134), (135, .con C135), (78, .con C78), (54, .con C54), (48, .con C48), (102, .con C102), (84, .con C84), (85, .con C85), (127, .con C127), (101, .con C101), (86, .con C86), (162, .con C162), (146, .con C146), (83, .inl s83 u0), (161, .inl s161 u0)]
theorem tabB28 : TabOk Tryz.prog eqs its ctB28 := .con ok19 (.con ok22 (.con ok25 (.con ok15 (.con ok55 (.con ok61 (.con ok74 (.con ok108 (.con ok46 (.con ok111 (.con ok56 (.con ok47 (.con ok145 (.con ok140 (.con ok49 (.con ok123 (.con ok44 (.con ok23 (.con ok62 (.con ok68 (.con ok63 (.con ok69 (.inl Tryz.func117 (by kernel_rfl) (by kernel_rfl) (by kernel_rfl) (.inl Tryz.func116 (by kernel_rfl) (by kernel_rfl) (by kernel_rfl) (.con ok115 (.con ok114 (.con ok147 (.con ok64 (.con ok66 (.con ok113 (.con ok65 (.con ok67 (.con ok53 (.con ok45 (.con ok90 (.con ok119 (.con ok121 (.con ok99 (.con ok129 (.con ok148 (.con ok149 (.con ok112 (.con ok118 (.con ok120 (.con ok133 (.con ok103 (.con ok100 (.con ok134 (.con ok135 (.con ok78 (.con ok54 (.con ok48 (.con ok102 (.con ok84 (.con ok85 (.con ok127 (.con ok101 (.con ok86 (.con ok162 (.con ok146 (.inl Tryz.func83 (by kernel_rfl) (by kernel_rfl) (by kernel_rfl) (.inl Tryz.func161 (by kernel_rfl) (by kernel_rfl) (by kernel_rfl) (.nil))))))))))))))))))))))))))))))))))))))))))))))))))))))))))))))
def P131 : List V -> Prop
 | [.int _ x] => x = 8
 | _ => False
def C131 : PCon := mkC [.int .u64] P131 fun _ => .int .i64 4
theorem n131 {w0 : World} : sat (LPof w0 (SV ctB28)) (runL JJ ctB28 u0 s131 [.int .u64 8]) (topQ (.int .i64 4)) := run_norm (by kernel_rfl)
theorem ok131 : (vP C131).Ok Tryz.prog 131 := mkE (un := u0) tabB28 Tryz.func131 (by kernel_rfl) fun ds hp => by
 have hp' : jv0 ds = 8 := hp
 intro hd w0
 show sat _ (runL JJ ctB28 u0 s131 [.int .u64 (jv0 ds)]) _
 rw [hp']
 exact n131
def Q131 : List V -> Bool
 | [.int _ x] => decide (x = 8)
 | _ => false
def CB131 : PCon := mkCB [.int .u64] Q131 fun _ => .int .i64 4
theorem okB131 : (vP CB131).Ok Tryz.prog 131 := mkCB_ok (pre := P131) (fun ds h => by
 unfold Q131 at h
 split at h
 ·rename_i x; exact (show x = 8 from of_decide_eq_true h)
 ·cases h) ok131
end
end Go.Dx
namespace Go.Dx
theorem vf_if {ts : List Ty} (h : ts.all isCellTy = true) {n : Nat} {p : Nat -> Bool} {ds : List V} {f : Nat -> List V} (h1 : VFok ts n f) (hf : fitVs [] (views ts ds) ds = views ts ds) : VFok ts n fun i => cond (p i) ds (f i) := fun i hi => by
 show okE _ (views ts (cond (p i) ds (f i))) = true /\ subVs [] (cond (p i) ds (f i)) (views ts (cond (p i) ds (f i)))
 cases p i with
 | true => exact ⟨okE_views h _, fitVs_ok _ _ hf⟩
 | false => exact h1 i hi
theorem sq0 (x : Int) : 0 <= x * x := by
 rcases Int.le_total 0 x with h | h
 ·exact imn h h
 ·have := imn (show 0 <= -x by omega) (show 0 <= -x by omega)
  rwa [Int.neg_mul_neg] at this
theorem le_sq {a b : Int} (hb : 0 <= b) (h : a * a <= b * b) : a <= b := by
 apply Classical.byContradiction; intro hn
 have h1 : b < a := by omega
 have h2 : b * b < a * a := Int.lt_of_le_of_lt (iml (Int.le_of_lt h1) hb) (Int.mul_lt_mul_of_pos_right h1 (by omega))
 omega
theorem cancel {k a b : Int} (hk : 0 < k) (h : k * a <= k * b) : a <= b := Int.le_of_mul_le_mul_left h hk
theorem cancel2 {k a b : Int} (hk : 0 < k) (h : k * k * a <= k * k * b) : a <= b := cancel (Int.mul_pos hk hk) h
def q2 (x y : Int) : Int := x * x + y * y
theorem q2_0 (x y : Int) : 0 <= q2 x y := by unfold q2; have := sq0 x; have := sq0 y; omega
theorem q2_mul (k x y : Int) : q2 (k * x) (k * y) = k * k * q2 x y := by unfold q2; grind
theorem q2_neg (x y : Int) : q2 (-x) y = q2 x y := by unfold q2; grind
theorem q2_comm (x y : Int) : q2 x y = q2 y x := by unfold q2; grind
theorem q2_mono {x y x' y' : Int} (h1 : 0 <= x) (h2 : x <= x') (h3 : 0 <= y) (h4 : y <= y') : q2 x y <= q2 x' y' := by
 unfold q2
 have := Int.mul_le_mul h2 h2 h1 (Int.le_trans h1 h2)
 have := Int.mul_le_mul h4 h4 h3 (Int.le_trans h3 h4)
 omega
theorem dot_le {x y z w A B : Int} (hA : 0 <= A) (hB : 0 <= B) (h1 : q2 x y <= A * A) (h2 : q2 z w <= B * B) : x * z + y * w <= A * B := by
 refine le_sq (imn hA hB) ?_
 have e : q2 x y * q2 z w = (x * z + y * w) * (x * z + y * w) + (x * w - y * z) * (x * w - y * z) := by unfold q2; grind
 have h3 := sq0 (x * w - y * z)
 have h4 : q2 x y * q2 z w <= (A * A) * (B * B) := Int.mul_le_mul h1 h2 (q2_0 z w) (sq0 A)
 have e2 : (A * B) * (A * B) = (A * A) * (B * B) := by grind
 omega
theorem triA {x y z w A B : Int} (hA : 0 <= A) (hB : 0 <= B) (h1 : q2 x y <= A * A) (h2 : q2 z w <= B * B) : q2 (x + z) (y + w) <= (A + B) * (A + B) := by
 have h3 := dot_le hA hB h1 h2
 have e : q2 (x + z) (y + w) = q2 x y + q2 z w + 2 * (x * z + y * w) := by unfold q2; grind
 have e2 : (A + B) * (A + B) = A * A + B * B + 2 * (A * B) := by grind
 omega
def At (ax ay bx b2 px py k r n m : Int) : Prop := 0 <= n /\ n <= m /\ 0 < m /\ q2 (m * px - k * ((m - n) * ax + n * bx)) (m * py - k * ((m - n) * ay + n * b2)) <= (m * k * r) * (m * k * r)
def Nq (ax ay bx b2 px py k r : Int) : Prop := ∃ n m, At ax ay bx b2 px py k r n m
section
variable {ax ay bx b2 px py r n m k : Int}
theorem nr_of (hr : 0 <= r) (h : Nq ax ay bx b2 px py 1 r) : nr ax ay bx b2 px py r = true := by
 obtain ⟨n, m, h1, h2, h3, h4⟩ := h
 rw [Int.mul_one] at h4
 have ex : m * px - 1 * ((m - n) * ax + n * bx) = m * (px - ax) - n * (bx - ax) := by grind
 have ey : m * py - 1 * ((m - n) * ay + n * b2) = m * (py - ay) - n * (b2 - ay) := by grind
 rw [ex, ey] at h4
 unfold nr
 have e1 : px - bx = (px - ax) - (bx - ax) := by omega
 have e2 : py - b2 = (py - ay) - (b2 - ay) := by omega
 rw [e1, e2]
 generalize px - ax = ux at *
 generalize py - ay = uy at *
 generalize bx - ax = dx at *
 generalize b2 - ay = dy at *
 have hmn := imn (Int.le_of_lt h3) h1
 have hR : (m * r) * (m * r) = m * m * (r * r) := by grind
 by_cases c1 : ux * dx + uy * dy <= 0
 ·rw [dqt c1, cond_true]
  refine dqt (cancel2 h3 ?_)
  have e : q2 (m * ux - n * dx) (m * uy - n * dy) = m * m * (ux * ux + uy * uy) + n * n * q2 dx dy - 2 * (m * n * (ux * dx + uy * dy)) := by unfold q2; grind
  have k1 := imn (sq0 n) (q2_0 dx dy)
  have k2 := imn hmn (show 0 <= -(ux * dx + uy * dy) by omega)
  rw [Int.mul_neg] at k2
  omega
 ·rw [dqf c1, cond_false]
  by_cases c2 : dx * dx + dy * dy <= ux * dx + uy * dy
  ·rw [dqt c2, cond_true]
   refine dqt (cancel2 h3 ?_)
   have e : q2 (m * ux - n * dx) (m * uy - n * dy) = m * m * ((ux - dx) * (ux - dx) + (uy - dy) * (uy - dy)) + (m - n) * (m - n) * q2 dx dy + 2 * (m * (m - n) * ((ux * dx + uy * dy) - (dx * dx + dy * dy))) := by unfold q2; grind
   have k1 := imn (sq0 (m - n)) (q2_0 dx dy)
   have k2 := imn (imn (Int.le_of_lt h3) (show 0 <= m - n by omega)) (show 0 <= (ux * dx + uy * dy) - (dx * dx + dy * dy) by omega)
   omega
  ·rw [dqf c2, cond_false]
   refine dqt (cancel2 h3 ?_)
   have e : q2 dx dy * q2 (m * ux - n * dx) (m * uy - n * dy) = m * m * ((dx * uy - dy * ux) * (dx * uy - dy * ux)) + (dx * (m * ux - n * dx) + dy * (m * uy - n * dy)) * (dx * (m * ux - n * dx) + dy * (m * uy - n * dy)) := by unfold q2; grind
   have k1 := sq0 (dx * (m * ux - n * dx) + dy * (m * uy - n * dy))
   have k2 := iml h4 (q2_0 dx dy)
   have e3 : q2 dx dy * (m * r * (m * r)) = m * m * (r * r * (dx * dx + dy * dy)) := by unfold q2; grind
   omega
theorem nr_ex (hr : 0 <= r) (h : nr ax ay bx b2 px py r = true) : Nq ax ay bx b2 px py 1 r := by
 unfold nr at h
 by_cases c1 : (px - ax) * (bx - ax) + (py - ay) * (b2 - ay) <= 0
 ·rw [dqt c1, cond_true] at h
  have h := of_decide_eq_true h
  refine ⟨0, 1, by omega, by omega, by omega, ?_⟩
  have e : q2 (1 * px - 1 * ((1 - 0) * ax + 0 * bx)) (1 * py - 1 * ((1 - 0) * ay + 0 * b2)) = (px - ax) * (px - ax) + (py - ay) * (py - ay) := by unfold q2; grind
  rw [e, Int.one_mul, Int.one_mul]; exact h
 ·rw [dqf c1, cond_false] at h
  by_cases c2 : (bx - ax) * (bx - ax) + (b2 - ay) * (b2 - ay) <= (px - ax) * (bx - ax) + (py - ay) * (b2 - ay)
  ·rw [dqt c2, cond_true] at h
   have h := of_decide_eq_true h
   refine ⟨1, 1, by omega, by omega, by omega, ?_⟩
   have e : q2 (1 * px - 1 * ((1 - 1) * ax + 1 * bx)) (1 * py - 1 * ((1 - 1) * ay + 1 * b2)) = (px - bx) * (px - bx) + (py - b2) * (py - b2) := by unfold q2; grind
   rw [e, Int.one_mul, Int.one_mul]; exact h
  ·rw [dqf c2, cond_false] at h
   have h := of_decide_eq_true h
   refine ⟨(px - ax) * (bx - ax) + (py - ay) * (b2 - ay), (bx - ax) * (bx - ax) + (b2 - ay) * (b2 - ay), by omega, by omega, by omega, ?_⟩
   have ex : ((bx - ax) * (bx - ax) + (b2 - ay) * (b2 - ay)) * px - 1 * (((bx - ax) * (bx - ax) + (b2 - ay) * (b2 - ay) - ((px - ax) * (bx - ax) + (py - ay) * (b2 - ay))) * ax + ((px - ax) * (bx - ax) + (py - ay) * (b2 - ay)) * bx) = ((bx - ax) * (bx - ax) + (b2 - ay) * (b2 - ay)) * (px - ax) - ((px - ax) * (bx - ax) + (py - ay) * (b2 - ay)) * (bx - ax) := by grind
   have ey : ((bx - ax) * (bx - ax) + (b2 - ay) * (b2 - ay)) * py - 1 * (((bx - ax) * (bx - ax) + (b2 - ay) * (b2 - ay) - ((px - ax) * (bx - ax) + (py - ay) * (b2 - ay))) * ay + ((px - ax) * (bx - ax) + (py - ay) * (b2 - ay)) * b2) = ((bx - ax) * (bx - ax) + (b2 - ay) * (b2 - ay)) * (py - ay) - ((px - ax) * (bx - ax) + (py - ay) * (b2 - ay)) * (b2 - ay) := by grind
   rw [ex, ey]
   clear ex ey
   generalize px - ax = ux at *
   generalize py - ay = uy at *
   generalize bx - ax = dx at *
   generalize b2 - ay = dy at *
   have e : q2 ((dx * dx + dy * dy) * ux - (ux * dx + uy * dy) * dx) ((dx * dx + dy * dy) * uy - (ux * dx + uy * dy) * dy) = (dx * dx + dy * dy) * ((dx * uy - dy * ux) * (dx * uy - dy * ux)) := by unfold q2; grind
   rw [e, Int.mul_one]
   have k1 := iml h (show 0 <= dx * dx + dy * dy by omega)
   have e2 : (dx * dx + dy * dy) * r * ((dx * dx + dy * dy) * r) = (dx * dx + dy * dy) * (r * r * (dx * dx + dy * dy)) := by grind
   omega
theorem nr_iff (hr : 0 <= r) : nr ax ay bx b2 px py r = true ↔ Nq ax ay bx b2 px py 1 r := ⟨nr_ex hr, nr_of hr⟩
theorem Nq.cv {qx qy j l : Int} (hr : 0 <= r) (hk : 0 < k) (h1 : Nq ax ay bx b2 px py k r) (h2 : Nq ax ay bx b2 qx qy k r) (hj : 0 <= j) (hl : j <= l) (h0 : 0 < l) : Nq ax ay bx b2 ((l - j) * px + j * qx) ((l - j) * py + j * qy) (k * l) r := by
 obtain ⟨n1, m1, a1, a2, a3, a4⟩ := h1
 obtain ⟨n2, m2, b1, b2', b3, b4⟩ := h2
 have hlj : 0 <= l - j := by omega
 have p1 := Int.mul_pos a3 b3
 refine ⟨(l - j) * n1 * m2 + j * n2 * m1, l * m1 * m2, ?_, ?_, ?_, ?_⟩
 ·have := imn (imn hlj a1) (Int.le_of_lt b3)
  have := imn (imn hj b1) (Int.le_of_lt a3)
  omega
 ·have k1 := imn (imn hlj (show 0 <= m1 - n1 by omega)) (Int.le_of_lt b3)
  have k2 := imn (imn hj (show 0 <= m2 - n2 by omega)) (Int.le_of_lt a3)
  have e : (l - j) * (m1 - n1) * m2 + j * (m2 - n2) * m1 = l * m1 * m2 - ((l - j) * n1 * m2 + j * n2 * m1) := by grind
  omega
 ·exact Int.mul_pos (Int.mul_pos h0 a3) b3
 ·have ex : l * m1 * m2 * ((l - j) * px + j * qx) - k * l * ((l * m1 * m2 - ((l - j) * n1 * m2 + j * n2 * m1)) * ax + ((l - j) * n1 * m2 + j * n2 * m1) * bx) = l * (((l - j) * m2) * (m1 * px - k * ((m1 - n1) * ax + n1 * bx)) + (j * m1) * (m2 * qx - k * ((m2 - n2) * ax + n2 * bx))) := by grind
  have ey : l * m1 * m2 * ((l - j) * py + j * qy) - k * l * ((l * m1 * m2 - ((l - j) * n1 * m2 + j * n2 * m1)) * ay + ((l - j) * n1 * m2 + j * n2 * m1) * b2) = l * (((l - j) * m2) * (m1 * py - k * ((m1 - n1) * ay + n1 * b2)) + (j * m1) * (m2 * qy - k * ((m2 - n2) * ay + n2 * b2))) := by grind
  rw [ex, ey, q2_mul]
  clear ex ey
  generalize m1 * px - k * ((m1 - n1) * ax + n1 * bx) = x1 at *
  generalize m1 * py - k * ((m1 - n1) * ay + n1 * b2) = y1 at *
  generalize m2 * qx - k * ((m2 - n2) * ax + n2 * bx) = x2 at *
  generalize m2 * qy - k * ((m2 - n2) * ay + n2 * b2) = y2 at *
  have w1 := imn hlj (Int.le_of_lt b3)
  have w2 := imn hj (Int.le_of_lt a3)
  have s1 := iml a4 (sq0 ((l - j) * m2))
  have s2 := iml b4 (sq0 (j * m1))
  rw [← q2_mul] at s1 s2
  have z1 := imn (imn (Int.le_of_lt a3) (Int.le_of_lt hk)) hr
  have z2 := imn (imn (Int.le_of_lt b3) (Int.le_of_lt hk)) hr
  have t := triA (A := (l - j) * m2 * (m1 * k * r)) (B := j * m1 * (m2 * k * r)) (imn w1 z1) (imn w2 z2) (by rw [show (l - j) * m2 * (m1 * k * r) * ((l - j) * m2 * (m1 * k * r)) = (l - j) * m2 * ((l - j) * m2) * (m1 * k * r * (m1 * k * r)) by grind]; exact s1) (by rw [show j * m1 * (m2 * k * r) * (j * m1 * (m2 * k * r)) = j * m1 * (j * m1) * (m2 * k * r * (m2 * k * r)) by grind]; exact s2)
  have e : (l - j) * m2 * (m1 * k * r) + j * m1 * (m2 * k * r) = l * (m1 * m2 * k * r) := by grind
  rw [e] at t
  have t := iml t (sq0 l)
  have e2 : l * l * (l * (m1 * m2 * k * r) * (l * (m1 * m2 * k * r))) = l * m1 * m2 * (k * l) * r * (l * m1 * m2 * (k * l) * r) := by grind
  rw [← e2]; exact t
theorem Nq.scale {l : Int} (hl : 0 < l) : Nq ax ay bx b2 px py k r ↔ Nq ax ay bx b2 (l * px) (l * py) (l * k) r := by
 have key : ∀ n m : Int, q2 (m * (l * px) - l * k * ((m - n) * ax + n * bx)) (m * (l * py) - l * k * ((m - n) * ay + n * b2)) = l * l * q2 (m * px - k * ((m - n) * ax + n * bx)) (m * py - k * ((m - n) * ay + n * b2)) := fun n m => by
  rw [← q2_mul]; congr 1 <;> grind
 have key2 : ∀ m : Int, m * (l * k) * r * (m * (l * k) * r) = l * l * (m * k * r * (m * k * r)) := fun m => by grind
 constructor
 ·rintro ⟨n, m, h1, h2, h3, h4⟩
  exact ⟨n, m, h1, h2, h3, by rw [key, key2]; exact iml h4 (sq0 l)⟩
 ·rintro ⟨n, m, h1, h2, h3, h4⟩
  rw [key, key2] at h4
  exact ⟨n, m, h1, h2, h3, cancel2 hl h4⟩
end
section
variable {ax ay bx b2 px py r n m k X0 Y0 X1 Y1 : Int}
def Endn (ex ey X0 Y0 X1 Y1 r : Int) : Prop := q2 (max (max (X0 - ex) 0) (ex - X1)) (max (max (Y0 - ey) 0) (ey - Y1)) <= r * r
def Meet (ax ay bx b2 X0 Y0 X1 Y1 : Int) : Prop := ∃ n m, 0 <= n /\ n <= m /\ 0 < m /\ (m * X0 <= (m - n) * ax + n * bx /\ (m - n) * ax + n * bx <= m * X1) /\ (m * Y0 <= (m - n) * ay + n * b2 /\ (m - n) * ay + n * b2 <= m * Y1)
def Cor (ax ay bx b2 X0 Y0 X1 Y1 r : Int) : Prop := ∃ cx cy, (cx = X0 ∨ cx = X1) /\ (cy = Y0 ∨ cy = Y1) /\ Nq ax ay bx b2 cx cy 1 r
def Res (ax ay bx b2 X0 Y0 X1 Y1 r : Int) : Prop := Cor ax ay bx b2 X0 Y0 X1 Y1 r ∨ Endn ax ay X0 Y0 X1 Y1 r ∨ Endn bx b2 X0 Y0 X1 Y1 r ∨ Meet ax ay bx b2 X0 Y0 X1 Y1
theorem At.sw (h : At ax ay bx b2 px py k r n m) : At bx b2 ax ay px py k r (m - n) m := by
 obtain ⟨h1, h2, h3, h4⟩ := h
 refine ⟨by omega, by omega, h3, ?_⟩
 rw [show (m - (m - n)) * bx + (m - n) * ax = (m - n) * ax + n * bx by grind, show (m - (m - n)) * b2 + (m - n) * ay = (m - n) * ay + n * b2 by grind]
 exact h4
theorem Nq.sw (h : Nq ax ay bx b2 px py k r) : Nq bx b2 ax ay px py k r := let ⟨n, m, h⟩ := h; ⟨m - n, m, h.sw⟩
theorem Nq.ry (h : Nq ax (-ay) bx (-b2) px (-py) k r) : Nq ax ay bx b2 px py k r := by
 obtain ⟨n, m, h1, h2, h3, h4⟩ := h
 refine ⟨n, m, h1, h2, h3, ?_⟩
 rw [show m * -py - k * ((m - n) * -ay + n * -b2) = -(m * py - k * ((m - n) * ay + n * b2)) by grind, q2_comm, q2_neg, q2_comm] at h4
 exact h4
theorem Nq.rx (h : Nq (-ax) ay (-bx) b2 (-px) py k r) : Nq ax ay bx b2 px py k r := by
 obtain ⟨n, m, h1, h2, h3, h4⟩ := h
 refine ⟨n, m, h1, h2, h3, ?_⟩
 rw [show m * -px - k * ((m - n) * -ax + n * -bx) = -(m * px - k * ((m - n) * ax + n * bx)) by grind, q2_neg] at h4
 exact h4
theorem Nq.xy (h : Nq ay ax b2 bx py px k r) : Nq ax ay bx b2 px py k r := by
 obtain ⟨n, m, h1, h2, h3, h4⟩ := h
 exact ⟨n, m, h1, h2, h3, by rw [q2_comm]; exact h4⟩
theorem Meet.sw (h : Meet ax ay bx b2 X0 Y0 X1 Y1) : Meet bx b2 ax ay X0 Y0 X1 Y1 := by
 obtain ⟨n, m, h1, h2, h3, h4, h5⟩ := h
 have e1 : (m - (m - n)) * bx + (m - n) * ax = (m - n) * ax + n * bx := by grind
 have e2 : (m - (m - n)) * b2 + (m - n) * ay = (m - n) * ay + n * b2 := by grind
 exact ⟨m - n, m, by omega, by omega, h3, by rw [e1]; exact h4, by rw [e2]; exact h5⟩
theorem Res.sw (h : Res ax ay bx b2 X0 Y0 X1 Y1 r) : Res bx b2 ax ay X0 Y0 X1 Y1 r := by
 rcases h with ⟨cx, cy, h1, h2, h3⟩ | h | h | h
 ·exact .inl ⟨cx, cy, h1, h2, h3.sw⟩
 ·exact .inr (.inr (.inl h))
 ·exact .inr (.inl h)
 ·exact .inr (.inr (.inr h.sw))
theorem Endn.rx {ex ey : Int} (h : Endn (-ex) ey (-X1) Y0 (-X0) Y1 r) : Endn ex ey X0 Y0 X1 Y1 r := by
 unfold Endn at *
 rwa [show max (max (-X1 - -ex) 0) (-ex - -X0) = max (max (X0 - ex) 0) (ex - X1) by omega] at h
theorem Endn.xy {ex ey : Int} (h : Endn ey ex Y0 X0 Y1 X1 r) : Endn ex ey X0 Y0 X1 Y1 r := by
 unfold Endn at *; rwa [q2_comm]
theorem Res.rx (h : Res (-ax) ay (-bx) b2 (-X1) Y0 (-X0) Y1 r) : Res ax ay bx b2 X0 Y0 X1 Y1 r := by
 rcases h with ⟨cx, cy, h1, h2, h3⟩ | h | h | ⟨n, m, h1, h2, h3, h4, h5⟩
 ·exact .inl ⟨-cx, cy, by omega, h2, Nq.rx (by rw [Int.neg_neg]; exact h3)⟩
 ·exact .inr (.inl h.rx)
 ·exact .inr (.inr (.inl h.rx))
 ·refine .inr (.inr (.inr ⟨n, m, h1, h2, h3, ?_, h5⟩))
  have e : (m - n) * -ax + n * -bx = -((m - n) * ax + n * bx) := by grind
  rw [e, Int.mul_neg, Int.mul_neg] at h4
  omega
theorem Res.xy (h : Res ay ax b2 bx Y0 X0 Y1 X1 r) : Res ax ay bx b2 X0 Y0 X1 Y1 r := by
 rcases h with ⟨cx, cy, h1, h2, h3⟩ | h | h | ⟨n, m, h1, h2, h3, h4, h5⟩
 ·exact .inl ⟨cy, cx, h2, h1, h3.xy⟩
 ·exact .inr (.inl h.xy)
 ·exact .inr (.inr (.inl h.xy))
 ·exact .inr (.inr (.inr ⟨n, m, h1, h2, h3, h5, h4⟩))
theorem up {n1 m1 : Int} (hr : 0 <= r) (h1 : 0 <= n) (h2 : n <= m) (h3 : 0 < m) (g1 : 0 <= n1) (g2 : n1 <= m1) (g3 : 0 < m1) (ho : n * m1 <= n1 * m) (hd : ax <= bx)
 (hy : (m - n) * ay + n * b2 <= m * Y1) (hx : m * X0 - ((m - n) * ax + n * bx) <= m * r) (ky : m1 * Y1 < (m1 - n1) * ay + n1 * b2) (kx : (m1 - n1) * ax + n1 * bx <= m1 * X0) : Nq ax ay bx b2 X0 Y1 1 r := by
 have ey : (m - n) * ay + n * b2 = m * ay + n * (b2 - ay) := by grind
 have ey1 : (m1 - n1) * ay + n1 * b2 = m1 * ay + n1 * (b2 - ay) := by grind
 have ex : (m - n) * ax + n * bx = m * ax + n * (bx - ax) := by grind
 have ex1 : (m1 - n1) * ax + n1 * bx = m1 * ax + n1 * (bx - ax) := by grind
 rw [ey] at hy; rw [ex] at hx; rw [ey1] at ky; rw [ex1] at kx
 have hD : 0 < b2 - ay := by
  apply Classical.byContradiction; intro hn
  have k1 := iml hy (Int.le_of_lt g3)
  have k2 := Int.mul_lt_mul_of_pos_left ky h3
  have k3 := imn (show 0 <= n1 * m - n * m1 by omega) (show 0 <= -(b2 - ay) by omega)
  have e1 : m1 * (m * ay + n * (b2 - ay)) = m1 * m * ay + n * m1 * (b2 - ay) := by grind
  have e2 : m * (m1 * ay + n1 * (b2 - ay)) = m1 * m * ay + n1 * m * (b2 - ay) := by grind
  have e3 : (n1 * m - n * m1) * -(b2 - ay) = n * m1 * (b2 - ay) - n1 * m * (b2 - ay) := by grind
  have e4 : m1 * (m * Y1) = m * (m1 * Y1) := by grind
  omega
 have o1 : 0 <= Y1 - ay := by
  have k1 := imn h1 (Int.le_of_lt hD)
  have : m * ay <= m * Y1 := by omega
  have := cancel h3 this; omega
 have o2 : Y1 - ay <= b2 - ay := by
  have k1 := Int.mul_le_mul_of_nonneg_right g2 (Int.le_of_lt hD)
  have e : m1 * ay + m1 * (b2 - ay) = m1 * b2 := by grind
  have : m1 * Y1 <= m1 * b2 := by omega
  have := cancel g3 this; omega
 have o3 : n * (b2 - ay) <= m * (Y1 - ay) := by rw [Int.mul_sub m]; omega
 have o4 : m1 * (Y1 - ay) <= n1 * (b2 - ay) := by rw [Int.mul_sub m1]; omega
 have e0 : (b2 - ay) * X0 - 1 * (((b2 - ay) - (Y1 - ay)) * ax + (Y1 - ay) * bx) = (b2 - ay) * (X0 - ax) - (Y1 - ay) * (bx - ax) := by grind
 have e00 : (b2 - ay) * Y1 - 1 * (((b2 - ay) - (Y1 - ay)) * ay + (Y1 - ay) * b2) = 0 := by grind
 refine ⟨Y1 - ay, b2 - ay, o1, o2, hD, ?_⟩
 rw [e0, e00, Int.mul_one]
 generalize b2 - ay = D at *
 generalize Y1 - ay = N at *
 have hd' : 0 <= bx - ax := by omega
 have lo : 0 <= D * (X0 - ax) - N * (bx - ax) := by
  refine cancel g3 ?_
  have k1 := Int.mul_le_mul_of_nonneg_right o4 hd'
  have k2 := imn (Int.le_of_lt hD) (show 0 <= m1 * X0 - (m1 * ax + n1 * (bx - ax)) by omega)
  have e1 : m1 * (D * (X0 - ax) - N * (bx - ax)) = D * (m1 * X0 - (m1 * ax + n1 * (bx - ax))) + (n1 * D * (bx - ax) - m1 * N * (bx - ax)) := by grind
  omega
 have hi : D * (X0 - ax) - N * (bx - ax) <= D * r := by
  refine cancel h3 ?_
  have k1 := Int.mul_le_mul_of_nonneg_right o3 hd'
  have k2 := imn (Int.le_of_lt hD) (show 0 <= m * r - (m * X0 - (m * ax + n * (bx - ax))) by omega)
  have e1 : m * (D * r) - m * (D * (X0 - ax) - N * (bx - ax)) = D * (m * r - (m * X0 - (m * ax + n * (bx - ax)))) + (m * N * (bx - ax) - n * D * (bx - ax)) := by grind
  omega
 have := q2_mono (x := D * (X0 - ax) - N * (bx - ax)) (x' := D * r) (y := 0) (y' := 0) lo hi (Int.le_refl _) (Int.le_refl _)
 have e : q2 (D * r) 0 = D * r * (D * r) := by unfold q2; omega
 omega
theorem lf (hr : 0 <= r) (hX : X0 <= X1) (h1 : 0 <= n) (h2 : n <= m) (h3 : 0 < m) (hd : ax <= bx) (hy0 : m * Y0 <= (m - n) * ay + n * b2) (hy1 : (m - n) * ay + n * b2 <= m * Y1)
 (hx0 : (m - n) * ax + n * bx <= m * X0) (hx : m * X0 - ((m - n) * ax + n * bx) <= m * r) : Res ax ay bx b2 X0 Y0 X1 Y1 r := by
 have dn : ∀ n1 m1 : Int, 0 <= n1 -> n1 <= m1 -> 0 < m1 -> n * m1 <= n1 * m -> (m1 - n1) * ay + n1 * b2 < m1 * Y0 -> (m1 - n1) * ax + n1 * bx <= m1 * X0 -> Res ax ay bx b2 X0 Y0 X1 Y1 r := fun n1 m1 g1 g2 g3 g4 g5 g6 => by
  refine .inl ⟨X0, Y0, .inl rfl, .inl rfl, Nq.ry (up (Y1 := -Y0) (ay := -ay) (b2 := -b2) hr h1 h2 h3 g1 g2 g3 g4 hd ?_ hx ?_ g6)⟩
  ·have e : (m - n) * -ay + n * -b2 = -((m - n) * ay + n * b2) := by grind
   rw [e, Int.mul_neg]; omega
  ·have e : (m1 - n1) * -ay + n1 * -b2 = -((m1 - n1) * ay + n1 * b2) := by grind
   rw [e, Int.mul_neg]; omega
 have uu : ∀ n1 m1 : Int, 0 <= n1 -> n1 <= m1 -> 0 < m1 -> n * m1 <= n1 * m -> m1 * Y1 < (m1 - n1) * ay + n1 * b2 -> (m1 - n1) * ax + n1 * bx <= m1 * X0 -> Res ax ay bx b2 X0 Y0 X1 Y1 r := fun n1 m1 g1 g2 g3 g4 g5 g6 =>
  .inl ⟨X0, Y1, .inl rfl, .inr rfl, up hr h1 h2 h3 g1 g2 g3 g4 hd hy1 hx g5 g6⟩
 by_cases c : bx <= X0
 ·have hn : n * 1 <= 1 * m := by omega
  have ex : (1 - 1) * ax + 1 * bx <= 1 * X0 := by omega
  by_cases c1 : b2 < Y0
  ·exact dn 1 1 (by omega) (by omega) (by omega) hn (by omega) ex
  ·by_cases c2 : Y1 < b2
   ·exact uu 1 1 (by omega) (by omega) (by omega) hn (by omega) ex
   ·refine .inr (.inr (.inl ?_))
    have k1 : m * X0 - m * bx <= m * r := by
     have := imn (show 0 <= m - n by omega) (show 0 <= bx - ax by omega)
     have e : m * bx = (m - n) * ax + n * bx + (m - n) * (bx - ax) := by grind
     omega
    have k2 : X0 - bx <= r := cancel h3 (by rw [Int.mul_sub]; exact k1)
    unfold Endn
    rw [show max (max (X0 - bx) 0) (bx - X1) = X0 - bx by omega, show max (max (Y0 - b2) 0) (b2 - Y1) = 0 by omega]
    have := q2_mono (x := X0 - bx) (x' := r) (y := 0) (y' := 0) (by omega) k2 (Int.le_refl _) (Int.le_refl _)
    have e : q2 r 0 = r * r := by unfold q2; omega
    omega
 ·have e0 : (m - n) * ax + n * bx = m * ax + n * (bx - ax) := by grind
  have hA : ax <= X0 := by
   apply Classical.byContradiction; intro hn
   have k1 := imn h1 (show 0 <= bx - ax by omega)
   have k2 := Int.mul_lt_mul_of_pos_left (show X0 < ax by omega) h3
   omega
  have hD : 0 < bx - ax := by omega
  have ho : n * (bx - ax) <= (X0 - ax) * m := by
   have e : (X0 - ax) * m = m * X0 - m * ax := by grind
   omega
  have ex : ((bx - ax) - (X0 - ax)) * ax + (X0 - ax) * bx = (bx - ax) * X0 := by grind
  by_cases c1 : ((bx - ax) - (X0 - ax)) * ay + (X0 - ax) * b2 < (bx - ax) * Y0
  ·exact dn _ _ (by omega) (by omega) hD ho c1 (by rw [ex]; exact Int.le_refl _)
  ·by_cases c2 : (bx - ax) * Y1 < ((bx - ax) - (X0 - ax)) * ay + (X0 - ax) * b2
   ·exact uu _ _ (by omega) (by omega) hD ho c2 (by rw [ex]; exact Int.le_refl _)
   ·exact .inr (.inr (.inr ⟨X0 - ax, bx - ax, by omega, by omega, hD, ⟨by rw [ex]; exact Int.le_refl _, by rw [ex]; exact iml hX (Int.le_of_lt hD)⟩, by omega, by omega⟩))
theorem lf2 (hr : 0 <= r) (hX : X0 <= X1) (h1 : 0 <= n) (h2 : n <= m) (h3 : 0 < m) (hy0 : m * Y0 <= (m - n) * ay + n * b2) (hy1 : (m - n) * ay + n * b2 <= m * Y1)
 (hx0 : (m - n) * ax + n * bx <= m * X0) (hx : m * X0 - ((m - n) * ax + n * bx) <= m * r) : Res ax ay bx b2 X0 Y0 X1 Y1 r := by
 rcases Int.le_total ax bx with hd | hd
 ·exact lf hr hX h1 h2 h3 hd hy0 hy1 hx0 hx
 ·have e1 : (m - (m - n)) * bx + (m - n) * ax = (m - n) * ax + n * bx := by grind
  have e2 : (m - (m - n)) * b2 + (m - n) * ay = (m - n) * ay + n * b2 := by grind
  exact (lf (n := m - n) hr hX (by omega) (by omega) h3 hd (by rw [e2]; exact hy0) (by rw [e2]; exact hy1) (by rw [e1]; exact hx0) (by rw [e1]; exact hx)).sw
theorem rf2 (hr : 0 <= r) (hX : X0 <= X1) (h1 : 0 <= n) (h2 : n <= m) (h3 : 0 < m) (hy0 : m * Y0 <= (m - n) * ay + n * b2) (hy1 : (m - n) * ay + n * b2 <= m * Y1)
 (hx0 : m * X1 <= (m - n) * ax + n * bx) (hx : ((m - n) * ax + n * bx) - m * X1 <= m * r) : Res ax ay bx b2 X0 Y0 X1 Y1 r := by
 have e : (m - n) * -ax + n * -bx = -((m - n) * ax + n * bx) := by grind
 exact Res.rx (lf2 hr (by omega) h1 h2 h3 hy0 hy1 (by rw [e, Int.mul_neg]; omega) (by rw [e, Int.mul_neg]; omega))
theorem le_of_q2 {x y R : Int} (hR : 0 <= R) (h : q2 x y <= R * R) : x <= R := by
 refine le_sq hR ?_
 have := sq0 y
 unfold q2 at h; omega
theorem sq_abs {a b : Int} (h0 : 0 <= a) (h : a <= b ∨ a <= -b) : a * a <= b * b := by
 rcases h with h | h
 ·exact Int.mul_le_mul h h h0 (by omega)
 ·have := Int.mul_le_mul h h h0 (by omega)
  rwa [Int.neg_mul_neg] at this
theorem near_rect (hr : 0 <= r) (hk : 0 < k) (hX : X0 <= X1) (hY : Y0 <= Y1) (x0 : k * X0 <= px) (x1 : px <= k * X1) (y0 : k * Y0 <= py) (y1 : py <= k * Y1) (h : Nq ax ay bx b2 px py k r) : Res ax ay bx b2 X0 Y0 X1 Y1 r := by
 obtain ⟨n, m, h1, h2, h3, h4⟩ := h
 have hm : 0 <= m := Int.le_of_lt h3
 have key : ∀ (P Q Z0 Z1 : Int), k * Z0 <= P -> P <= k * Z1 -> (k * max (max (m * Z0 - Q) 0) (Q - m * Z1)) * (k * max (max (m * Z0 - Q) 0) (Q - m * Z1)) <= (m * P - k * Q) * (m * P - k * Q) := fun P Q Z0 Z1 g1 g2 => by
  refine sq_abs (imn (Int.le_of_lt hk) (by omega)) ?_
  have k1 := iml g1 hm
  have k2 := iml g2 hm
  have e1 : k * (m * Z0 - Q) = m * (k * Z0) - k * Q := by grind
  have e2 : k * (Q - m * Z1) = k * Q - m * (k * Z1) := by grind
  by_cases c1 : 0 <= m * Z0 - Q
  ·by_cases c2 : Q - m * Z1 <= m * Z0 - Q
   ·left; rw [show max (max (m * Z0 - Q) 0) (Q - m * Z1) = m * Z0 - Q by omega]; omega
   ·right; rw [show max (max (m * Z0 - Q) 0) (Q - m * Z1) = Q - m * Z1 by omega]; omega
  ·by_cases c2 : 0 <= Q - m * Z1
   ·right; rw [show max (max (m * Z0 - Q) 0) (Q - m * Z1) = Q - m * Z1 by omega]; omega
   ·rw [show max (max (m * Z0 - Q) 0) (Q - m * Z1) = 0 by omega, Int.mul_zero]; omega
 have kx := key px ((m - n) * ax + n * bx) X0 X1 x0 x1
 have ky := key py ((m - n) * ay + n * b2) Y0 Y1 y0 y1
 have hq : q2 (max (max (m * X0 - ((m - n) * ax + n * bx)) 0) (((m - n) * ax + n * bx) - m * X1)) (max (max (m * Y0 - ((m - n) * ay + n * b2)) 0) (((m - n) * ay + n * b2) - m * Y1)) <= m * r * (m * r) := by
  refine cancel2 hk ?_
  rw [← q2_mul, show k * k * (m * r * (m * r)) = m * k * r * (m * k * r) by grind]
  refine Int.le_trans ?_ h4
  unfold q2; omega
 have hR := imn hm hr
 have qx := le_of_q2 hR hq
 have qy := le_of_q2 hR (by rw [q2_comm]; exact hq)
 have mX := iml hX hm
 have mY := iml hY hm
 have cor : ∀ cx cy : Int, (cx = X0 ∨ cx = X1) -> (cy = Y0 ∨ cy = Y1) -> q2 (m * cx - ((m - n) * ax + n * bx)) (m * cy - ((m - n) * ay + n * b2)) <= m * r * (m * r) -> Res ax ay bx b2 X0 Y0 X1 Y1 r := fun cx cy g1 g2 g3 =>
  .inl ⟨cx, cy, g1, g2, n, m, h1, h2, h3, by rw [Int.one_mul, Int.one_mul, Int.mul_one]; exact g3⟩
 generalize hQx : (m - n) * ax + n * bx = Qx at *
 generalize hQy : (m - n) * ay + n * b2 = Qy at *
 have ng : ∀ a b : Int, q2 (b - a) (b - a) = q2 (a - b) (a - b) := fun a b => by unfold q2; grind
 by_cases a1 : Qx < m * X0
 ·rw [show max (max (m * X0 - Qx) 0) (Qx - m * X1) = m * X0 - Qx by omega] at hq qx
  by_cases b1 : Qy < m * Y0
  ·rw [show max (max (m * Y0 - Qy) 0) (Qy - m * Y1) = m * Y0 - Qy by omega] at hq
   exact cor X0 Y0 (.inl rfl) (.inl rfl) hq
  ·by_cases b3 : m * Y1 < Qy
   ·rw [show max (max (m * Y0 - Qy) 0) (Qy - m * Y1) = -(m * Y1 - Qy) by omega, q2_comm, q2_neg, q2_comm] at hq
    exact cor X0 Y1 (.inl rfl) (.inr rfl) hq
   ·exact lf2 hr hX h1 h2 h3 (by rw [hQy]; omega) (by rw [hQy]; omega) (by rw [hQx]; omega) (by rw [hQx]; omega)
 ·by_cases a3 : m * X1 < Qx
  ·rw [show max (max (m * X0 - Qx) 0) (Qx - m * X1) = -(m * X1 - Qx) by omega] at hq qx
   rw [q2_neg] at hq
   by_cases b1 : Qy < m * Y0
   ·rw [show max (max (m * Y0 - Qy) 0) (Qy - m * Y1) = m * Y0 - Qy by omega] at hq
    exact cor X1 Y0 (.inr rfl) (.inl rfl) hq
   ·by_cases b3 : m * Y1 < Qy
    ·rw [show max (max (m * Y0 - Qy) 0) (Qy - m * Y1) = -(m * Y1 - Qy) by omega, q2_comm, q2_neg, q2_comm] at hq
     exact cor X1 Y1 (.inr rfl) (.inr rfl) hq
    ·exact rf2 hr hX h1 h2 h3 (by rw [hQy]; omega) (by rw [hQy]; omega) (by rw [hQx]; omega) (by rw [hQx]; omega)
  ·by_cases b1 : Qy < m * Y0
   ·rw [show max (max (m * Y0 - Qy) 0) (Qy - m * Y1) = m * Y0 - Qy by omega] at qy
    exact Res.xy (lf2 hr hY h1 h2 h3 (by rw [hQx]; omega) (by rw [hQx]; omega) (by rw [hQy]; omega) (by rw [hQy]; omega))
   ·by_cases b3 : m * Y1 < Qy
    ·rw [show max (max (m * Y0 - Qy) 0) (Qy - m * Y1) = Qy - m * Y1 by omega] at qy
     exact Res.xy (rf2 hr hY h1 h2 h3 (by rw [hQx]; omega) (by rw [hQx]; omega) (by rw [hQy]; omega) (by rw [hQy]; omega))
    ·exact .inr (.inr (.inr ⟨n, m, h1, h2, h3, by rw [hQx]; omega, by rw [hQy]; omega⟩))
theorem meet_sides (hX : X0 <= X1) (hY : Y0 <= Y1) (h : Meet ax ay bx b2 X0 Y0 X1 Y1) : Bx ax ay bx b2 X0 Y0 X1 Y1 /\ (∃ cx cy, (cx = X0 ∨ cx = X1) /\ (cy = Y0 ∨ cy = Y1) /\ 0 <= sd ax ay bx b2 cx cy) /\ ∃ cx cy, (cx = X0 ∨ cx = X1) /\ (cy = Y0 ∨ cy = Y1) /\ sd ax ay bx b2 cx cy <= 0 := by
 obtain ⟨n, m, h1, h2, h3, ⟨h4, h5⟩, h6, h7⟩ := h
 have hm : 0 <= m := Int.le_of_lt h3
 have hmn : 0 <= m - n := by omega
 have mono : ∀ a b Z : Int, (m - n) * a + n * b <= m * Z -> ¬ (Z < min a b) := fun a b Z g hn => by
  have k1 := iml (show Z + 1 <= a by omega) hmn
  have k2 := iml (show Z + 1 <= b by omega) h1
  have e : (m - n) * (Z + 1) + n * (Z + 1) = m * Z + m := by grind
  omega
 have mono2 : ∀ a b Z : Int, m * Z <= (m - n) * a + n * b -> ¬ (max a b < Z) := fun a b Z g hn => by
  have k1 := iml (show a <= Z - 1 by omega) hmn
  have k2 := iml (show b <= Z - 1 by omega) h1
  have e : (m - n) * (Z - 1) + n * (Z - 1) = m * Z - m := by grind
  omega
 have e0 : (bx - ax) * ((m - n) * ay + n * b2) - (b2 - ay) * ((m - n) * ax + n * bx) = m * ((bx - ax) * ay - (b2 - ay) * ax) := by grind
 have es : ∀ cx cy : Int, m * sd ax ay bx b2 cx cy = (bx - ax) * (m * cy - ((m - n) * ay + n * b2)) - (b2 - ay) * (m * cx - ((m - n) * ax + n * bx)) := fun cx cy => by unfold sd; grind
 refine ⟨fun hn => ?_, ?_, ?_⟩
 ·rcases hn with hn | hn | hn | hn
  ·exact mono2 _ _ _ h4 hn
  ·exact mono _ _ _ h5 hn
  ·exact mono2 _ _ _ h6 hn
  ·exact mono _ _ _ h7 hn
 ·have sgn : ∀ D lo hi : Int, lo <= 0 -> 0 <= hi -> 0 <= D * hi ∨ 0 <= D * lo := fun D lo hi l1 l2 => by
   rcases Int.le_total 0 D with hD | hD
   ·exact .inl (imn hD l2)
   ·exact .inr (by have := imn (show 0 <= -D by omega) (show 0 <= -lo by omega); rwa [Int.neg_mul_neg] at this)
  have s1 := sgn (bx - ax) (m * Y0 - ((m - n) * ay + n * b2)) (m * Y1 - ((m - n) * ay + n * b2)) (by omega) (by omega)
  have s2 := sgn (-(b2 - ay)) (m * X0 - ((m - n) * ax + n * bx)) (m * X1 - ((m - n) * ax + n * bx)) (by omega) (by omega)
  rw [Int.neg_mul, Int.neg_mul] at s2
  rcases s1 with s1 | s1 <;> rcases s2 with s2 | s2
  ·exact ⟨X1, Y1, .inr rfl, .inr rfl, cancel h3 (by rw [es]; omega)⟩
  ·exact ⟨X0, Y1, .inl rfl, .inr rfl, cancel h3 (by rw [es]; omega)⟩
  ·exact ⟨X1, Y0, .inr rfl, .inl rfl, cancel h3 (by rw [es]; omega)⟩
  ·exact ⟨X0, Y0, .inl rfl, .inl rfl, cancel h3 (by rw [es]; omega)⟩
 ·have sgn : ∀ D lo hi : Int, lo <= 0 -> 0 <= hi -> D * hi <= 0 ∨ D * lo <= 0 := fun D lo hi l1 l2 => by
   rcases Int.le_total 0 D with hD | hD
   ·exact .inr (by have := imn hD (show 0 <= -lo by omega); rw [Int.mul_neg] at this; omega)
   ·exact .inl (by have := imn (show 0 <= -D by omega) l2; rw [Int.neg_mul] at this; omega)
  have s1 := sgn (bx - ax) (m * Y0 - ((m - n) * ay + n * b2)) (m * Y1 - ((m - n) * ay + n * b2)) (by omega) (by omega)
  have s2 := sgn (-(b2 - ay)) (m * X0 - ((m - n) * ax + n * bx)) (m * X1 - ((m - n) * ax + n * bx)) (by omega) (by omega)
  rw [Int.neg_mul, Int.neg_mul] at s2
  rcases s1 with s1 | s1 <;> rcases s2 with s2 | s2
  ·exact ⟨X1, Y1, .inr rfl, .inr rfl, cancel h3 (by rw [es]; omega)⟩
  ·exact ⟨X0, Y1, .inl rfl, .inr rfl, cancel h3 (by rw [es]; omega)⟩
  ·exact ⟨X1, Y0, .inr rfl, .inl rfl, cancel h3 (by rw [es]; omega)⟩
  ·exact ⟨X0, Y0, .inl rfl, .inl rfl, cancel h3 (by rw [es]; omega)⟩
end
noncomputable section
section
variable {ax ay bx b2 px py r n m k X0 Y0 X1 Y1 : Int}
def Sides (ax ay bx b2 X0 Y0 X1 Y1 : Int) : Prop := (∃ cx cy, (cx = X0 ∨ cx = X1) /\ (cy = Y0 ∨ cy = Y1) /\ 0 <= sd ax ay bx b2 cx cy) /\ ∃ cx cy, (cx = X0 ∨ cx = X1) /\ (cy = Y0 ∨ cy = Y1) /\ sd ax ay bx b2 cx cy <= 0
theorem Meet.rx (h : Meet (-ax) ay (-bx) b2 (-X1) Y0 (-X0) Y1) : Meet ax ay bx b2 X0 Y0 X1 Y1 := by
 obtain ⟨n, m, h1, h2, h3, h4, h5⟩ := h
 refine ⟨n, m, h1, h2, h3, ?_, h5⟩
 have e : (m - n) * -ax + n * -bx = -((m - n) * ax + n * bx) := by grind
 rw [e, Int.mul_neg, Int.mul_neg] at h4
 omega
theorem Meet.ry (h : Meet ax (-ay) bx (-b2) X0 (-Y1) X1 (-Y0)) : Meet ax ay bx b2 X0 Y0 X1 Y1 := by
 obtain ⟨n, m, h1, h2, h3, h4, h5⟩ := h
 refine ⟨n, m, h1, h2, h3, h4, ?_⟩
 have e : (m - n) * -ay + n * -b2 = -((m - n) * ay + n * b2) := by grind
 rw [e, Int.mul_neg, Int.mul_neg] at h5
 omega
theorem Sides.rx (h : Sides ax ay bx b2 X0 Y0 X1 Y1) : Sides (-ax) ay (-bx) b2 (-X1) Y0 (-X0) Y1 := by
 have e : ∀ cx cy, sd (-ax) ay (-bx) b2 (-cx) cy = -sd ax ay bx b2 cx cy := fun cx cy => by unfold sd; grind
 obtain ⟨⟨cx, cy, h1, h2, h3⟩, dx, dy, g1, g2, g3⟩ := h
 exact ⟨⟨-dx, dy, by omega, g2, by rw [e]; omega⟩, -cx, cy, by omega, h2, by rw [e]; omega⟩
theorem Sides.ry (h : Sides ax ay bx b2 X0 Y0 X1 Y1) : Sides ax (-ay) bx (-b2) X0 (-Y1) X1 (-Y0) := by
 have e : ∀ cx cy, sd ax (-ay) bx (-b2) cx (-cy) = -sd ax ay bx b2 cx cy := fun cx cy => by unfold sd; grind
 obtain ⟨⟨cx, cy, h1, h2, h3⟩, dx, dy, g1, g2, g3⟩ := h
 exact ⟨⟨dx, -dy, g1, by omega, by rw [e]; omega⟩, cx, -cy, h1, by omega, by rw [e]; omega⟩
theorem sat0 (hX : X0 <= X1) (hY : Y0 <= Y1) (hB : Bx ax ay bx b2 X0 Y0 X1 Y1) (hS : Sides ax ay bx b2 X0 Y0 X1 Y1) (hx : ax <= bx) (hy : ay <= b2) : Meet ax ay bx b2 X0 Y0 X1 Y1 := by
 unfold Bx at hB
 have hdx : 0 <= bx - ax := by omega
 have hdy : 0 <= b2 - ay := by omega
 obtain ⟨⟨cx, cy, s1, s2, s3⟩, ex, ey, t1, t2, t3⟩ := hS
 unfold sd at s3 t3
 -- the way to a corner
 have up : ∀ cx cy : Int, (cx = X0 ∨ cx = X1) -> (cy = Y0 ∨ cy = Y1) -> (bx - ax) * (cy - ay) <= (bx - ax) * (Y1 - ay) /\ (bx - ax) * (Y0 - ay) <= (bx - ax) * (cy - ay) /\ (b2 - ay) * (X0 - ax) <= (b2 - ay) * (cx - ax) /\ (b2 - ay) * (cx - ax) <= (b2 - ay) * (X1 - ax) := fun cx cy h1 h2 =>
  ⟨iml (by omega) hdx, iml (by omega) hdx, iml (by omega) hdy, iml (by omega) hdy⟩
 have u1 := up cx cy s1 s2
 have u2 := up ex ey t1 t2
 have main : ∀ N D : Int, 0 <= N -> N <= D -> 0 < D -> (D * (X0 - ax) <= N * (bx - ax) /\ N * (bx - ax) <= D * (X1 - ax)) -> (D * (Y0 - ay) <= N * (b2 - ay) /\ N * (b2 - ay) <= D * (Y1 - ay)) -> Meet ax ay bx b2 X0 Y0 X1 Y1 := fun N D h1 h2 h3 h4 h5 => by
  have e1 : (D - N) * ax + N * bx = D * ax + N * (bx - ax) := by grind
  have e2 : (D - N) * ay + N * b2 = D * ay + N * (b2 - ay) := by grind
  rw [Int.mul_sub D, Int.mul_sub D] at h4 h5
  exact ⟨N, D, h1, h2, h3, by rw [e1]; omega, by rw [e2]; omega⟩
 by_cases a1 : ax < X0
 ·by_cases a2 : (bx - ax) * (Y0 - ay) <= (X0 - ax) * (b2 - ay)
  ·have hD : 0 < bx - ax := by omega
   have c1 : (b2 - ay) * (X0 - ax) = (X0 - ax) * (b2 - ay) := Int.mul_comm ..
   refine main (X0 - ax) (bx - ax) (by omega) (by omega) hD ⟨by rw [Int.mul_comm]; exact Int.le_refl _, ?_⟩ ⟨a2, by omega⟩
   rw [Int.mul_comm]; exact iml (by omega) hdx
  ·have a3 : ay < Y0 := by
    apply Classical.byContradiction; intro hn
    have k1 := imn hdx (show 0 <= ay - Y0 by omega)
    have k2 := imn (show 0 <= X0 - ax by omega) hdy
    have e : (bx - ax) * (ay - Y0) = -((bx - ax) * (Y0 - ay)) := by grind
    omega
   have hD : 0 < b2 - ay := by omega
   have c1 : (b2 - ay) * (X0 - ax) = (X0 - ax) * (b2 - ay) := Int.mul_comm ..
   have c2 : (bx - ax) * (Y0 - ay) = (Y0 - ay) * (bx - ax) := Int.mul_comm ..
   refine main (Y0 - ay) (b2 - ay) (by omega) (by omega) hD ⟨by omega, by omega⟩ ⟨by rw [Int.mul_comm]; exact Int.le_refl _, ?_⟩
   rw [Int.mul_comm]; exact iml (by omega) hdy
 ·by_cases a3 : ay < Y0
  ·have hD : 0 < b2 - ay := by omega
   have c2 : (bx - ax) * (Y0 - ay) = (Y0 - ay) * (bx - ax) := Int.mul_comm ..
   refine main (Y0 - ay) (b2 - ay) (by omega) (by omega) hD ⟨?_, by omega⟩ ⟨by rw [Int.mul_comm]; exact Int.le_refl _, ?_⟩
   ·have k1 := imn hdy (show 0 <= ax - X0 by omega)
    have k2 := imn (show 0 <= Y0 - ay by omega) hdx
    have e : (b2 - ay) * (ax - X0) = -((b2 - ay) * (X0 - ax)) := by grind
    omega
   ·rw [Int.mul_comm]; exact iml (by omega) hdy
  ·exact ⟨0, 1, by omega, by omega, by omega, by omega, by omega⟩
theorem bx_rx (h : Bx ax ay bx b2 X0 Y0 X1 Y1) : Bx (-ax) ay (-bx) b2 (-X1) Y0 (-X0) Y1 := by unfold Bx at *; omega
theorem bx_ry (h : Bx ax ay bx b2 X0 Y0 X1 Y1) : Bx ax (-ay) bx (-b2) X0 (-Y1) X1 (-Y0) := by unfold Bx at *; omega
theorem sat_meet (hX : X0 <= X1) (hY : Y0 <= Y1) (hB : Bx ax ay bx b2 X0 Y0 X1 Y1) (hS : Sides ax ay bx b2 X0 Y0 X1 Y1) : Meet ax ay bx b2 X0 Y0 X1 Y1 := by
 rcases Int.le_total ax bx with h1 | h1 <;> rcases Int.le_total ay b2 with h2 | h2
 ·exact sat0 hX hY hB hS h1 h2
 ·exact Meet.ry (sat0 hX (by omega) (bx_ry hB) hS.ry h1 (by omega))
 ·exact Meet.rx (sat0 (by omega) hY (bx_rx hB) hS.rx (by omega) h2)
 ·exact Meet.rx (Meet.ry (sat0 (by omega) (by omega) (bx_ry (bx_rx hB)) hS.rx.ry (by omega) (by omega)))
def Hit (ax ay bx b2 X0 Y0 X1 Y1 r : Int) : Prop := ∃ px py k, 0 < k /\ (k * X0 <= px /\ px <= k * X1) /\ (k * Y0 <= py /\ py <= k * Y1) /\ Nq ax ay bx b2 px py k r
theorem hit_res (hr : 0 <= r) (hX : X0 <= X1) (hY : Y0 <= Y1) : Hit ax ay bx b2 X0 Y0 X1 Y1 r ↔ Res ax ay bx b2 X0 Y0 X1 Y1 r := by
 constructor
 ·rintro ⟨px, py, k, hk, ⟨h1, h2⟩, ⟨h3, h4⟩, h⟩
  exact near_rect hr hk hX hY h1 h2 h3 h4 h
 ·rintro (⟨cx, cy, h1, h2, h3⟩ | h | h | ⟨n, m, h1, h2, h3, h4, h5⟩)
  ·exact ⟨cx, cy, 1, by omega, by omega, by omega, h3⟩
  ·refine ⟨max X0 (min ax X1), max Y0 (min ay Y1), 1, by omega, by omega, by omega, 0, 1, by omega, by omega, by omega, ?_⟩
   unfold Endn at h
   have ex : 1 * max X0 (min ax X1) - 1 * ((1 - 0) * ax + 0 * bx) = max X0 (min ax X1) - ax := by omega
   have ey : 1 * max Y0 (min ay Y1) - 1 * ((1 - 0) * ay + 0 * b2) = max Y0 (min ay Y1) - ay := by omega
   rw [ex, ey, show 1 * 1 * r = r by omega]
   refine Int.le_trans ?_ h
   unfold q2
   have k1 : (max X0 (min ax X1) - ax) * (max X0 (min ax X1) - ax) <= max (max (X0 - ax) 0) (ax - X1) * max (max (X0 - ax) 0) (ax - X1) := by
    rcases Int.le_total 0 (max X0 (min ax X1) - ax) with h0 | h0
    ·exact sq_abs h0 (.inl (by omega))
    ·have := sq_abs (a := -(max X0 (min ax X1) - ax)) (b := max (max (X0 - ax) 0) (ax - X1)) (by omega) (.inl (by omega))
     rwa [Int.neg_mul_neg] at this
   have k2 : (max Y0 (min ay Y1) - ay) * (max Y0 (min ay Y1) - ay) <= max (max (Y0 - ay) 0) (ay - Y1) * max (max (Y0 - ay) 0) (ay - Y1) := by
    rcases Int.le_total 0 (max Y0 (min ay Y1) - ay) with h0 | h0
    ·exact sq_abs h0 (.inl (by omega))
    ·have := sq_abs (a := -(max Y0 (min ay Y1) - ay)) (b := max (max (Y0 - ay) 0) (ay - Y1)) (by omega) (.inl (by omega))
     rwa [Int.neg_mul_neg] at this
   omega
  ·refine ⟨max X0 (min bx X1), max Y0 (min b2 Y1), 1, by omega, by omega, by omega, 1, 1, by omega, by omega, by omega, ?_⟩
   unfold Endn at h
   have ex : 1 * max X0 (min bx X1) - 1 * ((1 - 1) * ax + 1 * bx) = max X0 (min bx X1) - bx := by omega
   have ey : 1 * max Y0 (min b2 Y1) - 1 * ((1 - 1) * ay + 1 * b2) = max Y0 (min b2 Y1) - b2 := by omega
   rw [ex, ey, show 1 * 1 * r = r by omega]
   refine Int.le_trans ?_ h
   unfold q2
   have k1 : (max X0 (min bx X1) - bx) * (max X0 (min bx X1) - bx) <= max (max (X0 - bx) 0) (bx - X1) * max (max (X0 - bx) 0) (bx - X1) := by
    rcases Int.le_total 0 (max X0 (min bx X1) - bx) with h0 | h0
    ·exact sq_abs h0 (.inl (by omega))
    ·have := sq_abs (a := -(max X0 (min bx X1) - bx)) (b := max (max (X0 - bx) 0) (bx - X1)) (by omega) (.inl (by omega))
     rwa [Int.neg_mul_neg] at this
   have k2 : (max Y0 (min b2 Y1) - b2) * (max Y0 (min b2 Y1) - b2) <= max (max (Y0 - b2) 0) (b2 - Y1) * max (max (Y0 - b2) 0) (b2 - Y1) := by
    rcases Int.le_total 0 (max Y0 (min b2 Y1) - b2) with h0 | h0
    ·exact sq_abs h0 (.inl (by omega))
    ·have := sq_abs (a := -(max Y0 (min b2 Y1) - b2)) (b := max (max (Y0 - b2) 0) (b2 - Y1)) (by omega) (.inl (by omega))
     rwa [Int.neg_mul_neg] at this
   omega
  ·refine ⟨(m - n) * ax + n * bx, (m - n) * ay + n * b2, m, h3, h4, h5, n, m, h1, h2, h3, ?_⟩
   rw [Int.sub_self, Int.sub_self]
   have := sq0 (m * m * r)
   unfold q2; omega
end
end
abbrev P2 := Int × Int
def sdp (a b p : P2) : Int := sd a.1 a.2 b.1 b.2 p.1 p.2
def ltP (a b : P2) : Prop := a.1 < b.1 ∨ (a.1 = b.1 /\ a.2 < b.2)
def leP (a b : P2) : Prop := a.1 < b.1 ∨ (a.1 = b.1 /\ a.2 <= b.2)
def Pv (x y : Int) : Prop := 0 < x ∨ (x = 0 /\ 0 < y)
theorem pos_cancel {k a : Int} (hk : 0 < k) (h : 0 < k * a) : 0 < a := by
 apply Classical.byContradiction; intro hn
 have := imn (Int.le_of_lt hk) (show 0 <= -a by omega)
 rw [Int.mul_neg] at this; omega
section
variable {ux uy vx vy wx wy : Int}
theorem crT (hu : Pv ux uy) (hv : Pv vx vy) (hw : Pv wx wy) (h1 : 0 <= ux * vy - uy * vx) (h2 : 0 <= vx * wy - vy * wx) : 0 <= ux * wy - uy * wx := by
 unfold Pv at *
 rcases hv with hv | ⟨rfl, hv⟩
 ·have e : vx * (ux * wy - uy * wx) = wx * (ux * vy - uy * vx) + ux * (vx * wy - vy * wx) := by grind
  have k1 := imn (show 0 <= wx by omega) h1
  have k2 := imn (show 0 <= ux by omega) h2
  exact cancel hv (by rw [Int.mul_zero]; omega)
 ·have k3 : 0 <= vy * wx := imn (by omega) (by omega)
  have : wx = 0 := by
   rcases Int.mul_eq_zero.1 (show vy * wx = 0 by omega) with h | h <;> omega
  subst this
  have := imn (show 0 <= ux by omega) (show 0 <= wy by omega)
  omega
theorem crS (hu : Pv ux uy) (hv : Pv vx vy) (hw : Pv wx wy) (h1 : 0 < ux * vy - uy * vx) (h2 : 0 < vx * wy - vy * wx) : 0 < ux * wy - uy * wx := by
 unfold Pv at *
 rcases hv with hv | ⟨rfl, hv⟩
 ·have e : vx * (ux * wy - uy * wx) = wx * (ux * vy - uy * vx) + ux * (vx * wy - vy * wx) := by grind
  have k1 := imn (show 0 <= wx by omega) (Int.le_of_lt h1)
  have k2 := imn (show 0 <= ux by omega) (Int.le_of_lt h2)
  by_cases hz : wx = 0 /\ ux = 0
  ·obtain ⟨rfl, rfl⟩ := hz
   have := imn (show 0 <= uy by omega) (Int.le_of_lt hv)
   omega
  ·refine pos_cancel hv ?_
   rcases (show 0 < wx ∨ 0 < ux by omega) with h | h
   ·have := Int.mul_pos h h1; omega
   ·have := Int.mul_pos h h2; omega
 ·have k3 : 0 <= vy * wx := imn (by omega) (by omega)
  omega
end
section
variable {a b c p q t a' : P2}
theorem pv_of (h : ltP a b) : Pv (b.1 - a.1) (b.2 - a.2) := by unfold ltP at h; unfold Pv; omega
theorem ltP_trans (h1 : ltP a b) (h2 : ltP b c) : ltP a c := by unfold ltP at *; omega
theorem ltP_le (h1 : ltP a b) (h2 : leP b c) : ltP a c := by unfold ltP leP at *; omega
theorem leP_lt (h1 : leP a b) (h2 : ltP b c) : ltP a c := by unfold ltP leP at *; omega
theorem leP_of (h1 : ltP a b) : leP a b := by unfold ltP leP at *; omega
theorem leP_refl (a : P2) : leP a a := by unfold leP; omega
theorem ltP_irr (a : P2) : ¬ ltP a a := by unfold ltP; omega
theorem ltP_tri (a b : P2) : ltP a b ∨ a = b ∨ ltP b a := by
 by_cases h : a.1 = b.1 /\ a.2 = b.2
 ·exact .inr (.inl (Prod.ext h.1 h.2))
 ·unfold ltP; omega
theorem leP_eq (h1 : leP a b) (h2 : leP b a) : a = b := by
 unfold leP at *; exact Prod.ext (by omega) (by omega)
theorem sdp_0 (a b : P2) : sdp a b a = 0 := by unfold sdp sd; grind
theorem sdp_1 (a b : P2) : sdp a b b = 0 := by unfold sdp sd; grind
theorem sdp_neg (a b p : P2) : sdp b a p = -sdp a b p := by unfold sdp sd; grind
theorem t_above (h1 : ltP a t) (h2 : ltP a q) (h3 : ltP a p) (h4 : 0 <= sdp a t q) (h5 : sdp a t p <= 0) : 0 <= sdp a p q := by
 have k := crT (pv_of h3) (pv_of h1) (pv_of h2) (by unfold sdp sd at h5; grind) (by unfold sdp sd at h4; grind)
 unfold sdp sd; exact k
theorem t_below (h1 : ltP a b) (h2 : ltP q b) (h3 : ltP b p) (h4 : 0 <= sdp a b q) (h5 : 0 < sdp a b p) : 0 <= sdp b p q := by
 have e4 : sdp a b q = (b.1 - q.1) * (b.2 - a.2) - (b.2 - q.2) * (b.1 - a.1) := by unfold sdp sd; grind
 have e5 : sdp a b p = (b.1 - a.1) * (p.2 - b.2) - (b.2 - a.2) * (p.1 - b.1) := by unfold sdp sd; grind
 have e6 : sdp b p q = (b.1 - q.1) * (p.2 - b.2) - (b.2 - q.2) * (p.1 - b.1) := by unfold sdp sd; grind
 rw [e4] at h4; rw [e5] at h5; rw [e6]
 exact crT (pv_of h2) (pv_of h1) (pv_of h3) h4 (Int.le_of_lt h5)
theorem t_ext (h1 : ltP a' a) (h2 : ltP a b) (h3 : ltP b p) (h4 : 0 < sdp a' a b) (h5 : 0 < sdp a b p) : 0 < sdp a' a p := by
 have e4 : sdp a' a b = (a.1 - a'.1) * (b.2 - a.2) - (a.2 - a'.2) * (b.1 - a.1) := by unfold sdp sd; grind
 have e5 : sdp a b p = (b.1 - a.1) * (p.2 - b.2) - (b.2 - a.2) * (p.1 - b.1) := by unfold sdp sd; grind
 have e6 : sdp a' a p = sdp a' a b + ((a.1 - a'.1) * (p.2 - b.2) - (a.2 - a'.2) * (p.1 - b.1)) := by unfold sdp sd; grind
 rw [e6]
 have := crS (pv_of h1) (pv_of h2) (pv_of h3) (by rw [← e4]; exact h4) (by rw [← e5]; exact h5)
 omega
end
def popS (p : P2) : List P2 -> List P2
 | b :: a :: l => bif decide (sdp a b p <= 0) then popS p (a :: l) else b :: a :: l
 | l => l
def chainS : List P2 -> List P2 -> List P2
 | st, [] => st
 | st, p :: l => chainS (p :: popS p st) l
def Ch (D : P2 -> Prop) : List P2 -> Prop
 | [] => False
 | [s] => D s /\ ∀ q, D q -> leP s q
 | b :: a :: l => ltP a b /\ D b /\ (∀ q, D q -> 0 <= sdp a b q) /\ (∀ c, l.head? = some c -> 0 < sdp c a b) /\ Ch D (a :: l)
theorem Ch.cong {D D' : P2 -> Prop} (h : ∀ q, D q ↔ D' q) {l : List P2} (hc : Ch D l) : Ch D' l := by
 rwa [show D' = D from funext fun q => propext (h q).symm]
theorem ch_ext {D : P2 -> Prop} {p : P2} (hp : ∀ q, D q -> ltP q p) : ∀ (l : List P2) (a b : P2), Ch D (b :: a :: l) -> 0 < sdp a b p -> Ch (fun q => D q ∨ q = p) (b :: a :: l)
 | [], a, b, h, h2 => by
   obtain ⟨h3, h4, h5, h6, h7, h8⟩ := h
   refine ⟨h3, .inl h4, ?_, h6, .inl h7, ?_⟩
   ·rintro q (hq | rfl)
    ·exact h5 q hq
    ·exact Int.le_of_lt h2
   ·rintro q (hq | rfl)
    ·exact h8 q hq
    ·exact leP_of (hp _ h7)
 | c :: l, a, b, h, h2 => by
   obtain ⟨h3, h4, h5, h6, h7⟩ := h
   refine ⟨h3, .inl h4, ?_, h6, ?_⟩
   ·rintro q (hq | rfl)
    ·exact h5 q hq
    ·exact Int.le_of_lt h2
   ·exact ch_ext hp l c a h7 (t_ext h7.1 h3 (hp _ h4) (h6 c rfl) h2)
theorem ch_pop {D : P2 -> Prop} {p : P2} (hp : ∀ q, D q -> ltP q p) : ∀ (l : List P2) (t : P2), Ch D (t :: l) -> (∀ q, D q -> ltP t q -> 0 <= sdp t p q) -> Ch (fun q => D q ∨ q = p) (p :: popS p (t :: l))
 | [], t, h, h2 => by
   obtain ⟨h3, h4⟩ := h
   refine ⟨hp _ h3, .inr rfl, ?_, (fun c hc => by cases hc), .inl h3, ?_⟩
   ·rintro q (hq | rfl)
    ·rcases ltP_tri t q with k | rfl | k
     ·exact h2 q hq k
     ·rw [sdp_0]; omega
     ·exact (ltP_irr _ (leP_lt (h4 q hq) k)).elim
    ·rw [sdp_1]; omega
   ·rintro q (hq | rfl)
    ·exact h4 q hq
    ·exact leP_of (hp _ h3)
 | a :: l, t, h, h2 => by
   have h' := h
   obtain ⟨h3, h4, h5, h6, h7⟩ := h
   have ha : D a := by cases l with
    | nil => exact h7.1
    | cons c l => exact h7.2.1
   unfold popS
   by_cases hs : sdp a t p <= 0
   ·rw [dqt hs, cond_true]
    exact ch_pop hp l a h7 fun q hq hlt => t_above h3 hlt (hp _ ha) (h5 q hq) hs
   ·rw [dqf hs, cond_false]
    refine ⟨hp _ h4, .inr rfl, ?_, ?_, ch_ext hp l a t h' (by omega)⟩
    ·rintro q (hq | rfl)
     ·rcases ltP_tri t q with k | rfl | k
      ·exact h2 q hq k
      ·rw [sdp_0]; omega
      ·exact t_below h3 k (hp _ h4) (h5 q hq) (by omega)
     ·rw [sdp_1]; omega
    ·intro c hc
     simp only [List.head?_cons, Option.some.injEq] at hc
     subst hc; omega
theorem ch_chain : ∀ (l : List P2) (D : P2 -> Prop) (t : P2) (st : List P2), Ch D (t :: st) -> (∀ q, D q -> leP q t) -> (∀ p ∈ l, ltP t p) -> l.Pairwise ltP ->
 ∃ z r, chainS (t :: st) l = z :: r /\ Ch (fun q => D q ∨ q ∈ l) (z :: r) /\ ∀ q, (D q ∨ q ∈ l) -> leP q z
 | [], D, t, st, h1, h2, _, _ => ⟨t, st, rfl, h1.cong (by simp), by simpa using h2⟩
 | p :: l, D, t, st, h1, h2, h3, h4 => by
   have hp : ∀ q, D q -> ltP q p := fun q hq => leP_lt (h2 q hq) (h3 p (by simp))
   have k := ch_pop hp st t h1 fun q hq hlt => (ltP_irr _ (leP_lt (h2 q hq) hlt)).elim
   rw [List.pairwise_cons] at h4
   obtain ⟨z, r, e, hc, hz⟩ := ch_chain l _ p _ k (fun q hq => by
    rcases hq with hq | rfl
    ·exact leP_of (hp q hq)
    ·exact leP_refl _) h4.1 h4.2
   refine ⟨z, r, e, hc.cong fun q => ?_, fun q hq => hz q ?_⟩
   ·simp only [List.mem_cons]; constructor
    ·rintro ((h | h) | h)
     ·exact .inl h
     ·exact .inr (.inl h)
     ·exact .inr (.inr h)
    ·rintro (h | h | h)
     ·exact .inl (.inl h)
     ·exact .inl (.inr h)
     ·exact .inr h
   ·simp only [List.mem_cons] at hq
    rcases hq with h | h | h
    ·exact .inl (.inl h)
    ·exact .inl (.inr h)
    ·exact .inr h
theorem ch_all {m : P2} {l : List P2} (h : (m :: l).Pairwise ltP) : ∃ z r, chainS [] (m :: l) = z :: r /\ Ch (fun q => q ∈ m :: l) (z :: r) /\ ∀ q, q ∈ m :: l -> leP q z := by
 rw [List.pairwise_cons] at h
 obtain ⟨z, r, e, hc, hz⟩ := ch_chain l (fun q => q = m) m [] ⟨rfl, fun q hq => by rw [hq]; exact leP_refl _⟩ (fun q hq => by rw [hq]; exact leP_refl _) h.1 h.2
 exact ⟨z, r, e, hc.cong (by simp), fun q hq => hz q (by simpa using hq)⟩
def Adj : List P2 -> P2 -> P2 -> Prop
 | b :: a :: l, x, y => (x = a /\ y = b) ∨ Adj (a :: l) x y
 | _, _, _ => False
def botS : List P2 -> P2
 | [] => (0, 0)
 | [s] => s
 | _ :: a :: l => botS (a :: l)
section
variable {D : P2 -> Prop}
theorem ch_mem : ∀ {st : List P2}, Ch D st -> ∀ q ∈ st, D q
 | [s], h, q, hq => by simp at hq; subst hq; exact h.1
 | b :: a :: l, h, q, hq => by
   rcases List.mem_cons.1 hq with rfl | hq
   ·exact h.2.1
   ·exact ch_mem h.2.2.2.2 q hq
theorem adj_mem : ∀ {st : List P2} {x y : P2}, Adj st x y -> x ∈ st /\ y ∈ st
 | b :: a :: l, x, y, h => by
   rcases h with ⟨rfl, rfl⟩ | h
   ·simp
   ·have := adj_mem h
    exact ⟨List.mem_cons_of_mem _ this.1, List.mem_cons_of_mem _ this.2⟩
theorem adj_edge : ∀ {st : List P2} {x y : P2}, Ch D st -> Adj st x y -> ltP x y /\ ∀ q, D q -> 0 <= sdp x y q
 | b :: a :: l, x, y, h, ha => by
   rcases ha with ⟨rfl, rfl⟩ | ha
   ·exact ⟨h.1, h.2.2.1⟩
   ·exact adj_edge h.2.2.2.2 ha
theorem adj_lt : ∀ {st : List P2} {t x y : P2}, Ch D (t :: st) -> Adj (t :: st) x y -> leP y t
 | a :: l, t, x, y, h, ha => by
   rcases ha with ⟨rfl, rfl⟩ | ha
   ·exact leP_refl _
   ·have := adj_lt h.2.2.2.2 ha
    exact leP_of (leP_lt this h.1)
theorem adj_next : ∀ {st : List P2} {t x y : P2}, Ch D (t :: st) -> Adj (t :: st) x y -> y = t ∨ ∃ c, Adj (t :: st) y c /\ 0 < sdp x y c
 | [], t, x, y, h, ha => ha.elim
 | a :: l, t, x, y, h, ha => by
   rcases ha with ⟨rfl, rfl⟩ | ha
   ·exact .inl rfl
   ·right
    rcases adj_next h.2.2.2.2 ha with rfl | ⟨c, h1, h2⟩
    ·refine ⟨t, .inl ⟨rfl, rfl⟩, ?_⟩
     cases l with
     | nil => exact ha.elim
     | cons c l =>
       rcases ha with ⟨rfl, _⟩ | ha
       ·exact h.2.2.2.1 _ rfl
       ·-- y is the top of this chain, and so it is the first pair
        have := adj_lt h.2.2.2.2.2.2.2.2 ha
        exact (ltP_irr _ (ltP_le h.2.2.2.2.1 this)).elim
    ·exact ⟨c, .inr h1, h2⟩
theorem adj_prev : ∀ {st : List P2} {x y : P2}, Ch D st -> Adj st x y -> x = botS st ∨ ∃ c, Adj st c x /\ 0 < sdp c x y
 | [b, a], x, y, h, ha => by
   rcases ha with ⟨rfl, rfl⟩ | ha
   ·exact .inl rfl
   ·exact ha.elim
 | b :: a :: c :: l, x, y, h, ha => by
   rcases ha with ⟨rfl, rfl⟩ | ha
   ·exact .inr ⟨c, .inr (.inl ⟨rfl, rfl⟩), h.2.2.2.1 _ rfl⟩
   ·rcases adj_prev h.2.2.2.2 ha with e | ⟨d, h1, h2⟩
    ·exact .inl e
    ·exact .inr ⟨d, .inr h1, h2⟩
theorem adj_bot : ∀ {st : List P2}, 2 <= st.length -> ∃ b, Adj st (botS st) b
 | [b, a], _ => ⟨b, .inl ⟨rfl, rfl⟩⟩
 | b :: a :: c :: l, _ => let ⟨d, h⟩ := adj_bot (st := a :: c :: l) (by simp); ⟨d, .inr h⟩
theorem adj_top {a b : P2} {l : List P2} : Adj (b :: a :: l) a b := .inl ⟨rfl, rfl⟩
theorem bot_le : ∀ {st : List P2}, Ch D st -> D (botS st) /\ ∀ q, D q -> leP (botS st) q
 | [s], h => h
 | b :: a :: l, h => bot_le (st := a :: l) h.2.2.2.2
end
def ngP (p : P2) : P2 := (-p.1, -p.2)
theorem sdp_ng (a b p : P2) : sdp (ngP a) (ngP b) (ngP p) = sdp a b p := by unfold sdp sd ngP; grind
theorem ng_ng (p : P2) : ngP (ngP p) = p := by unfold ngP; simp
theorem ltP_ng {a b : P2} (h : ltP a b) : ltP (ngP b) (ngP a) := by unfold ltP ngP at *; simp only; omega
theorem popS_ng (p : P2) : ∀ st : List P2, popS (ngP p) (st.map ngP) = (popS p st).map ngP
 | [] => rfl
 | [_] => rfl
 | b :: a :: l => by
   have ih := popS_ng p (a :: l)
   simp only [List.map_cons] at ih
   simp only [List.map_cons, popS, sdp_ng]
   cases decide (sdp a b p <= 0)
   ·rfl
   ·exact ih
theorem chainS_ng : ∀ (l st : List P2), chainS (st.map ngP) (l.map ngP) = (chainS st l).map ngP
 | [], st => rfl
 | p :: l, st => by
   simp only [List.map_cons, chainS]
   rw [← chainS_ng l]
   simp only [List.map_cons, popS_ng]
theorem adj_ng : ∀ {st : List P2} {x y : P2}, Adj (st.map ngP) x y ↔ Adj st (ngP x) (ngP y)
 | [], x, y => Iff.rfl
 | [_], x, y => Iff.rfl
 | b :: a :: l, x, y => by
   have ih := adj_ng (st := a :: l) (x := x) (y := y)
   simp only [List.map_cons] at ih
   simp only [List.map_cons, Adj, ih]
   have e : ∀ u v : P2, u = ngP v ↔ ngP u = v := fun u v => ⟨fun h => by rw [h, ng_ng], fun h => by rw [← h, ng_ng]⟩
   rw [e, e]
section
variable {a b c p q z m x y w d : P2} {D : P2 -> Prop}
theorem joint0 (ha : ltP a z) (hc : ltP c z) (h0 : sdp a z c = 0) (hq : leP q z) (h1 : 0 <= sdp a z q) (h2 : 0 <= sdp z c q) : sdp a z q = 0 := by
 rcases ltP_tri q z with k | rfl | k
 ·have e1 : sdp a z q = -((z.1 - a.1) * (z.2 - q.2) - (z.2 - a.2) * (z.1 - q.1)) := by unfold sdp sd; grind
  have e2 : sdp z c q = (z.1 - c.1) * (z.2 - q.2) - (z.2 - c.2) * (z.1 - q.1) := by unfold sdp sd; grind
  have e3 : sdp a z c = -((z.1 - a.1) * (z.2 - c.2) - (z.2 - a.2) * (z.1 - c.1)) := by unfold sdp sd; grind
  rw [e3] at h0; rw [e2] at h2; rw [e1] at h1
  have := crT (pv_of ha) (pv_of hc) (pv_of k) (by omega) h2
  rw [e1]; omega
 ·exact sdp_1 _ _
 ·exact (ltP_irr _ (leP_lt hq k)).elim
theorem ltP_ne (h : ltP a z) : ¬ (z.1 - a.1 = 0 /\ z.2 - a.2 = 0) := by unfold ltP at h; omega
theorem flat3 (h : ltP a z) (hx : sdp a z x = 0) (hy : sdp a z y = 0) (hw : sdp a z w = 0) : sdp x y w = 0 := by
 have k1 : (z.1 - a.1) * sdp x y w = (w.1 - x.1) * (sdp a z x - sdp a z y) + (y.1 - x.1) * (sdp a z w - sdp a z x) := by unfold sdp sd; grind
 have k2 : (z.2 - a.2) * sdp x y w = (w.2 - x.2) * (sdp a z x - sdp a z y) + (y.2 - x.2) * (sdp a z w - sdp a z x) := by unfold sdp sd; grind
 rw [hx, hy, hw] at k1 k2
 simp only [Int.sub_self, Int.mul_zero, Int.add_zero] at k1 k2
 have hn := ltP_ne h
 rcases Int.mul_eq_zero.1 k1 with e | e
 ·rcases Int.mul_eq_zero.1 k2 with e' | e'
  ·exact (hn ⟨e, e'⟩).elim
  ·exact e'
 ·exact e
end
structure Hull (D : P2 -> Prop) (A B : List P2) (z m : P2) : Prop where
 cA : Ch D A
 cB : Ch (fun q => D (ngP q)) (B.map ngP)
 tA : ∃ r, A = z :: r
 tB : ∃ r, B = m :: r
 bA : botS A = m
 bB : botS B = z
 zm : ltP m z
 hz : ∀ q, D q -> leP q z
 hm : ∀ q, D q -> leP m q
theorem bot_ng : ∀ {st : List P2}, st ≠ [] -> botS (st.map ngP) = ngP (botS st)
 | [s], _ => rfl
 | b :: a :: l, _ => bot_ng (st := a :: l) (by simp)
theorem leP_ng {a b : P2} (h : leP a b) : leP (ngP b) (ngP a) := by unfold leP ngP at *; simp only; omega
theorem pw_ng {l : List P2} (h : l.Pairwise ltP) : (l.reverse.map ngP).Pairwise ltP := by
 rw [List.pairwise_map, List.pairwise_reverse]
 exact h.imp fun h => ltP_ng h
theorem hull_of {m : P2} {l : List P2} (hs : (m :: l).Pairwise ltP) (h2 : l ≠ []) : ∃ z, Hull (fun q => q ∈ m :: l) (chainS [] (m :: l)) (chainS [] (m :: l).reverse) z m := by
 obtain ⟨z, r, e, hc, hz⟩ := ch_all hs
 have hb := bot_le hc
 have hmm : ∀ q ∈ m :: l, leP m q := by
  intro q hq
  rcases List.mem_cons.1 hq with rfl | hq
  ·exact leP_refl _
  ·exact leP_of ((List.pairwise_cons.1 hs).1 q hq)
 have hbm : botS (z :: r) = m := leP_eq (hb.2 m (by simp)) (hmm _ hb.1)
 have hs2 := pw_ng hs
 have hD : ∀ q, q ∈ ((m :: l).reverse.map ngP) ↔ ngP q ∈ m :: l := fun q => by
  rw [List.mem_map]
  constructor
  ·rintro ⟨p, hp, rfl⟩; rw [ng_ng]; exact List.mem_reverse.1 hp
  ·intro hq; exact ⟨ngP q, List.mem_reverse.2 hq, ng_ng q⟩
 have k : ∃ x t, (m :: l).reverse.map ngP = x :: t := by
  cases hr : (m :: l).reverse.map ngP with
  | nil => simp at hr
  | cons x t => exact ⟨x, t, rfl⟩
 obtain ⟨x, t, ex⟩ := k
 have hs3 := hs2
 rw [ex] at hs3
 obtain ⟨z', r', e', hc', hz'⟩ := ch_all hs3
 rw [← ex] at e' hc' hz'
 have en := chainS_ng (m :: l).reverse []
 simp only [List.map_nil] at en
 rw [en] at e'
 have hc2 := hc'.cong hD
 rw [← e'] at hc2
 have hB : ∃ rB, chainS [] (m :: l).reverse = m :: rB := by
  cases hB : chainS [] (m :: l).reverse with
  | nil => rw [hB] at e'; simp at e'
  | cons b rB =>
    rw [hB] at e'
    simp only [List.map_cons, List.cons.injEq] at e'
    have k1 := hz' (ngP m) ((hD _).2 (by rw [ng_ng]; simp))
    have k2 : ngP z' ∈ m :: l := by
     have : z' ∈ (m :: l).reverse.map ngP := ch_mem hc' z' (by simp)
     exact (hD _).1 this
    have k3 := leP_ng k1
    rw [ng_ng, ← e'.1, ng_ng] at k3
    rw [← e'.1, ng_ng] at k2
    exact ⟨rB, by rw [leP_eq k3 (hmm _ k2)]⟩
 refine ⟨z, ⟨by rw [e]; exact hc, hc2, ⟨r, e⟩, hB, by rw [e]; exact hbm, ?_, ?_, hz, hmm⟩⟩
 ·obtain ⟨rB, eB⟩ := hB
  have hb2 := bot_le hc2
  rw [bot_ng (by rw [eB]; simp)] at hb2
  have k1 := hb2.2 (ngP z) (by show ngP (ngP z) ∈ _; rw [ng_ng]; exact ch_mem hc z (by simp))
  have k2 := leP_ng k1
  rw [ng_ng, ng_ng] at k2
  have k3 := hb2.1
  rw [show (ngP (ngP (botS (chainS [] (m :: l).reverse)))) = _ from ng_ng _] at k3
  exact leP_eq (hz _ k3) k2
 ·cases l with
  | nil => exact (h2 rfl).elim
  | cons y l =>
    have := (List.pairwise_cons.1 hs).1 y (by simp)
    exact ltP_le this (hz y (by simp))
section
variable {D : P2 -> Prop} {A B : List P2} {z m x y q : P2}
def Ed (A B : List P2) (x y : P2) : Prop := Adj A x y ∨ Adj B x y
theorem Hull.adjB (h : Hull D A B z m) (ha : Adj B x y) : Adj (B.map ngP) (ngP x) (ngP y) := adj_ng.2 (by rw [ng_ng, ng_ng]; exact ha)
theorem Hull.e1 (h : Hull D A B z m) (he : Ed A B x y) : x ≠ y /\ D x /\ D y /\ ∀ q, D q -> 0 <= sdp x y q := by
 rcases he with ha | ha
 ·have k := adj_edge h.cA ha
  have hm := adj_mem ha
  exact ⟨(fun e => by rw [e] at k; exact ltP_irr _ k.1), ch_mem h.cA _ hm.1, ch_mem h.cA _ hm.2, k.2⟩
 ·have ha' := h.adjB ha
  have k := adj_edge h.cB ha'
  have hm := adj_mem ha'
  have k1 := ch_mem h.cB _ hm.1
  have k2 := ch_mem h.cB _ hm.2
  simp only [ng_ng] at k1 k2
  refine ⟨(fun e => by rw [e] at k; exact ltP_irr _ k.1), k1, k2, fun q hq => ?_⟩
  have := k.2 (ngP q) (by rw [ng_ng]; exact hq)
  rwa [sdp_ng] at this
theorem Hull.lenA (h : Hull D A B z m) : 2 <= A.length := by
 obtain ⟨r, e⟩ := h.tA
 cases r with
 | nil =>
   have := h.bA
   rw [e] at this
   simp only [botS] at this
   have k := h.zm; rw [this] at k
   exact (ltP_irr _ k).elim
 | cons a r => rw [e]; simp
theorem Hull.lenB (h : Hull D A B z m) : 2 <= B.length := by
 obtain ⟨r, e⟩ := h.tB
 cases r with
 | nil =>
   have := h.bB
   rw [e] at this
   simp only [botS] at this
   have k := h.zm; rw [this] at k
   exact (ltP_irr _ k).elim
 | cons a r => rw [e]; simp
def NotFlat (D : P2 -> Prop) : Prop := ∃ x y w, D x /\ D y /\ D w /\ sdp x y w ≠ 0
theorem Hull.bend (h : Hull D A B z m) (h3 : 3 <= A.length ∨ 3 <= B.length) : NotFlat D := by
 rcases h3 with h3 | h3
 ·match A, h.cA, h3 with
  | b :: a :: c :: l, hc, _ =>
    have k := hc.2.2.2.1 c rfl
    exact ⟨c, a, b, ch_mem hc c (by simp), ch_mem hc a (by simp), ch_mem hc b (by simp), by omega⟩
 ·match B, h.cB, h3 with
  | b :: a :: c :: l, hc, _ =>
    have k := hc.2.2.2.1 (ngP c) rfl
    rw [sdp_ng] at k
    have k1 := ch_mem hc (ngP c) (by simp)
    have k2 := ch_mem hc (ngP a) (by simp)
    have k3 := ch_mem hc (ngP b) (by simp)
    simp only [ng_ng] at k1 k2 k3
    exact ⟨c, a, b, k1, k2, k3, by omega⟩
theorem notflat_no {a z : P2} (hn : NotFlat D) (hl : ltP a z) (h : ∀ q, D q -> sdp a z q = 0) : False := by
 obtain ⟨x, y, w, hx, hy, hw, hne⟩ := hn
 exact hne (flat3 hl (h x hx) (h y hy) (h w hw))
theorem Hull.jz (h : Hull D A B z m) (hn : NotFlat D) {a c : P2} (ha : Adj A a z) (hc : Adj B z c) : 0 < sdp a z c := by
 have e1 := h.e1 (.inl ha)
 have e2 := h.e1 (.inr hc)
 have l1 := (adj_edge h.cA ha).1
 have l2 := (adj_edge h.cB (h.adjB hc)).1
 have l3 := ltP_ng l2
 rw [ng_ng, ng_ng] at l3
 have k := e1.2.2.2 c e2.2.2.1
 by_cases h0 : sdp a z c = 0
 ·exact (notflat_no hn l1 fun q hq => joint0 l1 l3 h0 (h.hz q hq) (e1.2.2.2 q hq) (e2.2.2.2 q hq)).elim
 ·omega
theorem Hull.jm (h : Hull D A B z m) (hn : NotFlat D) {a c : P2} (ha : Adj B a m) (hc : Adj A m c) : 0 < sdp a m c := by
 have e1 := h.e1 (.inr ha)
 have e2 := h.e1 (.inl hc)
 have l1 := (adj_edge h.cA hc).1
 have l2 := (adj_edge h.cB (h.adjB ha)).1
 have k := e1.2.2.2 c e2.2.2.1
 by_cases h0 : sdp a m c = 0
 ·refine (notflat_no hn (a := m) (z := a) (by have := ltP_ng l2; rwa [ng_ng, ng_ng] at this) fun q hq => ?_).elim
  have := joint0 (a := ngP a) (z := ngP m) (c := ngP c) (q := ngP q) l2 (ltP_ng l1) (by rw [sdp_ng]; exact h0) (leP_ng (h.hm q hq)) (by rw [sdp_ng]; exact e1.2.2.2 q hq) (by rw [sdp_ng]; exact e2.2.2.2 q hq)
  rw [sdp_ng] at this
  rw [sdp_neg]; omega
 ·omega
theorem Hull.next (h : Hull D A B z m) (hn : NotFlat D) (he : Ed A B x y) : ∃ c, Ed A B y c /\ 0 < sdp x y c := by
 rcases he with ha | ha
 ·obtain ⟨r, e⟩ := h.tA
  have hc := h.cA
  rw [e] at hc ha
  rcases adj_next hc ha with rfl | ⟨c, h1, h2⟩
  ·obtain ⟨c, hc⟩ := adj_bot h.lenB
   rw [h.bB] at hc
   exact ⟨c, .inr hc, h.jz hn (by rw [e]; exact ha) hc⟩
  ·exact ⟨c, .inl (by rw [e]; exact h1), h2⟩
 ·obtain ⟨r, e⟩ := h.tB
  have hc := h.cB
  have ha' := h.adjB ha
  rw [e, List.map_cons] at hc ha'
  rcases adj_next hc ha' with e2 | ⟨c, h1, h2⟩
  ·have ey : y = m := by rw [← ng_ng y, e2, ng_ng]
   subst ey
   obtain ⟨c, hc⟩ := adj_bot h.lenA
   rw [h.bA] at hc
   exact ⟨c, .inl hc, h.jm hn ha hc⟩
  ·refine ⟨ngP c, .inr ?_, ?_⟩
   ·rw [← List.map_cons, ← e, adj_ng, ng_ng] at h1; exact h1
   ·rw [← sdp_ng, ng_ng]; exact h2
theorem Hull.prev (h : Hull D A B z m) (hn : NotFlat D) (he : Ed A B x y) : ∃ c, Ed A B c x /\ 0 < sdp c x y := by
 rcases he with ha | ha
 ·rcases adj_prev h.cA ha with e2 | ⟨c, h1, h2⟩
  ·rw [h.bA] at e2; subst e2
   obtain ⟨r, e⟩ := h.tB
   have hl := h.lenB
   match B, e, hl with
   | _ :: a :: l, e, _ =>
     cases e
     exact ⟨a, .inr adj_top, h.jm hn adj_top ha⟩
  ·exact ⟨c, .inl h1, h2⟩
 ·rcases adj_prev h.cB (h.adjB ha) with e2 | ⟨c, h1, h2⟩
  ·obtain ⟨r, e⟩ := h.tB
   rw [bot_ng (by rw [e]; simp), h.bB] at e2
   have ex : x = z := by rw [← ng_ng x, e2, ng_ng]
   subst ex
   obtain ⟨r, e⟩ := h.tA
   have hl := h.lenA
   match A, e, hl with
   | _ :: a :: l, e, _ =>
     cases e
     exact ⟨a, .inl adj_top, h.jz hn adj_top ha⟩
  ·refine ⟨ngP c, .inr ?_, ?_⟩
   ·rw [adj_ng, ng_ng] at h1; exact h1
   ·rw [← sdp_ng, ng_ng]; exact h2
theorem Hull.flat (h : Hull D A B z m) (ha : A.length < 3) (hb : B.length < 3) : A = [z, m] /\ B = [m, z] /\ ∀ q, D q -> sdp m z q = 0 := by
 obtain ⟨r, e⟩ := h.tA
 obtain ⟨s, e'⟩ := h.tB
 have la := h.lenA
 have lb := h.lenB
 have e1 := h.bA
 have e2 := h.bB
 have eA : A = [z, m] := by
  match A, e, la, ha, e1 with
  | [a, b], e, _, _, e1 => cases e; cases e1; rfl
 have eB : B = [m, z] := by
  match B, e', lb, hb, e2 with
  | [a, b], e, _, _, e2 => cases e; cases e2; rfl
 refine ⟨eA, eB, fun q hq => ?_⟩
 have k1 := (h.e1 (x := m) (y := z) (.inl (by rw [eA]; exact adj_top))).2.2.2 q hq
 have k2 := (h.e1 (x := z) (y := m) (.inr (by rw [eB]; exact adj_top))).2.2.2 q hq
 rw [sdp_neg] at k2
 omega
end
def skp (a b : P2) (x y k : Int) : Int := (b.1 - a.1) * (y - k * a.2) - (b.2 - a.2) * (x - k * a.1)
def InH (D : P2 -> Prop) (x y k : Int) : Prop := ∀ A B C : Int, (∀ q, D q -> 0 <= A * q.1 + B * q.2 + C) -> 0 <= A * x + B * y + C * k
def CvN (D : P2 -> Prop) (mx my r : Int) : Prop := ∃ x y k, 0 < k /\ InH D x y k /\ q2 (k * mx - x) (k * my - y) <= (k * r) * (k * r)
theorem inH_sk {D : P2 -> Prop} {x y k : Int} {a b : P2} (h : InH D x y k) (hs : ∀ q, D q -> 0 <= sdp a b q) : 0 <= skp a b x y k := by
 have := h (-(b.2 - a.2)) (b.1 - a.1) (-(b.1 - a.1) * a.2 + (b.2 - a.2) * a.1) fun q hq => by
  have e : -(b.2 - a.2) * q.1 + (b.1 - a.1) * q.2 + (-(b.1 - a.1) * a.2 + (b.2 - a.2) * a.1) = sdp a b q := by unfold sdp sd; grind
  rw [e]; exact hs q hq
 have e : -(b.2 - a.2) * x + (b.1 - a.1) * y + (-(b.1 - a.1) * a.2 + (b.2 - a.2) * a.1) * k = skp a b x y k := by unfold skp; grind
 rwa [e] at this
def prs : List P2 -> List (P2 × P2)
 | b :: a :: l => (a, b) :: prs (a :: l)
 | _ => []
theorem prs_adj : ∀ {st : List P2} {x y : P2}, (x, y) ∈ prs st ↔ Adj st x y
 | [], x, y => by simp [prs, Adj]
 | [_], x, y => by simp [prs, Adj]
 | b :: a :: l, x, y => by simp only [prs, Adj, List.mem_cons, Prod.mk.injEq, prs_adj (st := a :: l)]
theorem exit {mx my x y k : Int} (hk : 0 < k) : ∀ (es : List (P2 × P2)), (∀ e ∈ es, 0 <= skp e.1 e.2 x y k) ->
 ∃ j l, 0 <= j /\ j <= l /\ 0 < l /\ (∀ e ∈ es, 0 <= (l - j) * skp e.1 e.2 x y k + j * (k * sdp e.1 e.2 (mx, my))) /\ (j = l ∨ ∃ e ∈ es, (l - j) * skp e.1 e.2 x y k + j * (k * sdp e.1 e.2 (mx, my)) = 0)
 | [], _ => ⟨1, 1, by omega, by omega, by omega, (fun e he => by cases he), .inl rfl⟩
 | e :: es, h => by
   obtain ⟨j, l, h1, h2, h3, h4, h5⟩ := exit hk es fun f hf => h f (List.mem_cons_of_mem _ hf)
   have hX := h e (by simp)
   by_cases hy : 0 <= (l - j) * skp e.1 e.2 x y k + j * (k * sdp e.1 e.2 (mx, my))
   ·refine ⟨j, l, h1, h2, h3, fun f hf => ?_, ?_⟩
    ·rcases List.mem_cons.1 hf with rfl | hf
     ·exact hy
     ·exact h4 f hf
    ·rcases h5 with h5 | ⟨f, hf, h6⟩
     ·exact .inl h5
     ·exact .inr ⟨f, List.mem_cons_of_mem _ hf, h6⟩
   ·generalize hM : k * sdp e.1 e.2 (mx, my) = M at hy
    generalize hX' : skp e.1 e.2 x y k = X at hX hy
    have hM0 : M < 0 := by
     apply Classical.byContradiction; intro hn
     have k1 := imn h1 (show 0 <= M by omega)
     have k2 := imn (show 0 <= l - j by omega) hX
     omega
    refine ⟨X, X - M, hX, by omega, by omega, fun f hf => ?_, .inr ⟨e, by simp, ?_⟩⟩
    ·rcases List.mem_cons.1 hf with rfl | hf
     ·rw [hX', hM]
      have e : (X - M - X) * X + X * M = 0 := by grind
      omega
     ·have hf4 := h4 f hf
      have hfX := h f (List.mem_cons_of_mem _ hf)
      generalize k * sdp f.1 f.2 (mx, my) = M' at hf4 ⊢
      generalize skp f.1 f.2 x y k = X2 at hf4 hfX ⊢
      by_cases hM2 : 0 <= M'
      ·have k1 := imn (show 0 <= X - M - X by omega) hfX
       have k2 := imn hX hM2
       omega
      ·refine cancel h3 ?_
       rw [Int.mul_zero]
       -- l X <= j (X - M)
       have o : 0 <= j * (X - M) - l * X := by
        have e : j * (X - M) - l * X = -((l - j) * X + j * M) := by grind
        omega
       have k1 := imn o (show 0 <= X2 - M' by omega)
       have k2 := imn (show 0 <= X - M by omega) hf4
       have e : l * ((X - M - X) * X2 + X * M') = (j * (X - M) - l * X) * (X2 - M') + (X - M) * ((l - j) * X2 + j * M') := by grind
       omega
    ·rw [hX', hM]; grind
theorem sq_pos' {x : Int} (h : x ≠ 0) : 0 < x * x := by
 have := sq0 x
 by_cases e : x * x = 0
 ·rcases Int.mul_eq_zero.1 e with e | e <;> exact (h e).elim
 ·omega
theorem on_seg {a b c d : P2} {mx my r x y k : Int} (hk : 0 < k) (h0 : skp a b x y k = 0) (h1 : 0 <= skp d a x y k) (h2 : 0 < sdp d a b) (h3 : 0 <= skp b c x y k) (h4 : 0 < sdp a b c)
 (hq : q2 (k * mx - x) (k * my - y) <= (k * r) * (k * r)) : Nq a.1 a.2 b.1 b.2 mx my 1 r := by
 unfold sdp sd at h2 h4
 unfold skp at h0 h1 h3
 obtain ⟨a1, a2⟩ := a
 obtain ⟨b1, b2⟩ := b
 obtain ⟨c1, c2⟩ := c
 obtain ⟨d1, d2⟩ := d
 simp only at *
 have hdd : 0 < (b1 - a1) * (b1 - a1) + (b2 - a2) * (b2 - a2) := by
  by_cases e : b1 - a1 = 0
  ·by_cases e' : b2 - a2 = 0
   ·rw [show b1 = a1 by omega, show b2 = a2 by omega] at h2
    have : (a1 - d1) * (a2 - d2) - (a2 - d2) * (a1 - d1) = 0 := by grind
    omega
   ·have := sq_pos' e'; have := sq0 (b1 - a1); omega
  ·have := sq_pos' e; have := sq0 (b2 - a2); omega
 have ex : ((b1 - a1) * (b1 - a1) + (b2 - a2) * (b2 - a2)) * (x - k * a1) = ((b1 - a1) * (x - k * a1) + (b2 - a2) * (y - k * a2)) * (b1 - a1) - (b2 - a2) * ((b1 - a1) * (y - k * a2) - (b2 - a2) * (x - k * a1)) := by grind
 have ey : ((b1 - a1) * (b1 - a1) + (b2 - a2) * (b2 - a2)) * (y - k * a2) = ((b1 - a1) * (x - k * a1) + (b2 - a2) * (y - k * a2)) * (b2 - a2) + (b1 - a1) * ((b1 - a1) * (y - k * a2) - (b2 - a2) * (x - k * a1)) := by grind
 rw [h0, Int.mul_zero] at ex ey
 have eT : ((b1 - a1) * (b1 - a1) + (b2 - a2) * (b2 - a2)) * ((a1 - d1) * (y - k * d2) - (a2 - d2) * (x - k * d1)) = (a1 - d1) * (((b1 - a1) * (b1 - a1) + (b2 - a2) * (b2 - a2)) * (y - k * a2)) - (a2 - d2) * (((b1 - a1) * (b1 - a1) + (b2 - a2) * (b2 - a2)) * (x - k * a1)) := by grind
 have eU : ((b1 - a1) * (b1 - a1) + (b2 - a2) * (b2 - a2)) * ((c1 - b1) * (y - k * b2) - (c2 - b2) * (x - k * b1)) = (c1 - b1) * (((b1 - a1) * (b1 - a1) + (b2 - a2) * (b2 - a2)) * (y - k * a2) - k * ((b1 - a1) * (b1 - a1) + (b2 - a2) * (b2 - a2)) * (b2 - a2)) - (c2 - b2) * (((b1 - a1) * (b1 - a1) + (b2 - a2) * (b2 - a2)) * (x - k * a1) - k * ((b1 - a1) * (b1 - a1) + (b2 - a2) * (b2 - a2)) * (b1 - a1)) := by grind
 rw [ex, ey] at eT eU
 have k1 := imn (Int.le_of_lt hdd) h1
 have k2 := imn (Int.le_of_lt hdd) h3
 rw [eT] at k1
 rw [eU] at k2
 generalize hT : (b1 - a1) * (x - k * a1) + (b2 - a2) * (y - k * a2) = T at *
 generalize hd : (b1 - a1) * (b1 - a1) + (b2 - a2) * (b2 - a2) = dd at *
 have t1 : 0 <= T := by
  have e : (a1 - d1) * (T * (b2 - a2) + 0) - (a2 - d2) * (T * (b1 - a1) - 0) = ((a1 - d1) * (b2 - d2) - (a2 - d2) * (b1 - d1)) * T := by grind
  rw [e] at k1
  exact cancel h2 (by rw [Int.mul_zero]; exact k1)
 have t2 : T <= k * dd := by
  have e : (c1 - b1) * (T * (b2 - a2) + 0 - k * dd * (b2 - a2)) - (c2 - b2) * (T * (b1 - a1) - 0 - k * dd * (b1 - a1)) = ((b1 - a1) * (c2 - a2) - (b2 - a2) * (c1 - a1)) * (k * dd - T) := by grind
  rw [e] at k2
  have := cancel h4 (a := 0) (b := k * dd - T) (by rw [Int.mul_zero]; exact k2)
  omega
 refine ⟨T, k * dd, t1, t2, Int.mul_pos hk hdd, ?_⟩
 have f1 : k * dd * mx - 1 * ((k * dd - T) * a1 + T * b1) = dd * (k * mx - x) := by
  have : dd * (k * mx - x) = k * dd * mx - (dd * (x - k * a1) + k * dd * a1) := by grind
  rw [this, ex]; grind
 have f2 : k * dd * my - 1 * ((k * dd - T) * a2 + T * b2) = dd * (k * my - y) := by
  have : dd * (k * my - y) = k * dd * my - (dd * (y - k * a2) + k * dd * a2) := by grind
  rw [this, ey]; grind
 rw [f1, f2, q2_mul]
 have := iml hq (sq0 dd)
 have e : k * dd * 1 * r * (k * dd * 1 * r) = dd * dd * (k * r * (k * r)) := by grind
 omega
theorem Hull.near {D : P2 -> Prop} {A B : List P2} {z m : P2} (h : Hull D A B z m) (hn : NotFlat D) {mx my r : Int} (hr : 0 <= r) (hc : CvN D mx my r) {e0 : P2 × P2} (h0 : Ed A B e0.1 e0.2) (hs : sdp e0.1 e0.2 (mx, my) <= 0) :
 ∃ a b, Ed A B a b /\ Nq a.1 a.2 b.1 b.2 mx my 1 r := by
 obtain ⟨x, y, k, hk, hI, hq⟩ := hc
 have hes : ∀ e : P2 × P2, e ∈ prs A ++ prs B ↔ Ed A B e.1 e.2 := fun e => by
  rw [List.mem_append, ← prs_adj.symm.trans Iff.rfl]
  unfold Ed
  rw [← prs_adj, ← prs_adj]
 obtain ⟨j, l, h1, h2, h3, h4, h5⟩ := exit (mx := mx) (my := my) hk (prs A ++ prs B) fun e he => inH_sk hI (h.e1 ((hes e).1 he)).2.2.2
 have sk : ∀ a b : P2, (l - j) * skp a b x y k + j * (k * sdp a b (mx, my)) = skp a b ((l - j) * x + j * k * mx) ((l - j) * y + j * k * my) (k * l) := fun a b => by unfold skp sdp sd; grind
 simp only [sk] at h4 h5
 have key : ∃ e : P2 × P2, Ed A B e.1 e.2 /\ skp e.1 e.2 ((l - j) * x + j * k * mx) ((l - j) * y + j * k * my) (k * l) = 0 := by
  rcases h5 with rfl | ⟨e, he, h6⟩
  ·refine ⟨e0, h0, ?_⟩
   have k1 := h4 e0 ((hes e0).2 h0)
   rw [← sk] at k1 ⊢
   have k2 := imn h1 (imn (Int.le_of_lt hk) (show 0 <= -sdp e0.1 e0.2 (mx, my) by omega))
   have e : j * (k * -sdp e0.1 e0.2 (mx, my)) = -(j * (k * sdp e0.1 e0.2 (mx, my))) := by grind
   have e2 : (j - j) * skp e0.1 e0.2 x y k = 0 := by grind
   omega
  ·exact ⟨e, (hes e).1 he, h6⟩
 obtain ⟨⟨a, b⟩, he, hz⟩ := key
 obtain ⟨c, hc1, hc2⟩ := h.next hn he
 obtain ⟨d, hd1, hd2⟩ := h.prev hn he
 refine ⟨a, b, he, on_seg (Int.mul_pos hk h3) hz (h4 (d, a) ((hes _).2 hd1)) hd2 (h4 (b, c) ((hes _).2 hc1)) hc2 ?_⟩
 have f1 : k * l * mx - ((l - j) * x + j * k * mx) = (l - j) * (k * mx - x) := by grind
 have f2 : k * l * my - ((l - j) * y + j * k * my) = (l - j) * (k * my - y) := by grind
 rw [f1, f2, q2_mul]
 have k1 := iml hq (sq0 (l - j))
 have k2 : (l - j) * (l - j) <= l * l := Int.mul_le_mul (by omega) (by omega) (by omega) (by omega)
 have k3 := Int.mul_le_mul_of_nonneg_right k2 (sq0 (k * r))
 have e : k * l * r * (k * l * r) = l * l * (k * r * (k * r)) := by grind
 omega
theorem pv_dot {vx vy dx dy : Int} (hv : Pv vx vy) (hd : Pv dx dy) (h : dx * vy - dy * vx = 0) : 0 <= dx * vx + dy * vy := by
 unfold Pv at *
 rcases hd with hd | ⟨rfl, hd⟩
 ·refine cancel hd ?_
  rw [Int.mul_zero]
  have e : dx * (dx * vx + dy * vy) = (dx * dx + dy * dy) * vx + dy * (dx * vy - dy * vx) := by grind
  rw [e, h, Int.mul_zero, Int.add_zero]
  exact imn (by have := sq0 dx; have := sq0 dy; omega) (by omega)
 ·have : vx = 0 := by
   rcases Int.mul_eq_zero.1 (show dy * vx = 0 by omega) with e | e <;> omega
  subst this
  have := imn (Int.le_of_lt hd) (show 0 <= vy by omega)
  omega
theorem flat_near {D : P2 -> Prop} {z m : P2} (zm : ltP m z) (hz : ∀ q, D q -> leP q z) (hm : ∀ q, D q -> leP m q) (hf : ∀ q, D q -> sdp m z q = 0) {mx my r : Int} (hr : 0 <= r) (hc : CvN D mx my r) : Nq m.1 m.2 z.1 z.2 mx my 1 r := by
 obtain ⟨x, y, k, hk, hI, hq⟩ := hc
 have s1 := inH_sk (a := m) (b := z) hI fun q hq => by rw [hf q hq]; omega
 have s2 := inH_sk (a := z) (b := m) hI fun q hq => by rw [sdp_neg, hf q hq]; omega
 have hd := pv_of zm
 -- from m on
 have d1 := hI (z.1 - m.1) (z.2 - m.2) (-((z.1 - m.1) * m.1 + (z.2 - m.2) * m.2)) fun q hq => by
  have e : (z.1 - m.1) * q.1 + (z.2 - m.2) * q.2 + -((z.1 - m.1) * m.1 + (z.2 - m.2) * m.2) = (z.1 - m.1) * (q.1 - m.1) + (z.2 - m.2) * (q.2 - m.2) := by grind
  rw [e]
  rcases ltP_tri m q with h | rfl | h
  ·exact pv_dot (pv_of h) hd (by have := hf q hq; unfold sdp sd at this; exact this)
  ·simp
  ·exact (ltP_irr _ (leP_lt (hm q hq) h)).elim
 have d2 := hI (-(z.1 - m.1)) (-(z.2 - m.2)) ((z.1 - m.1) * z.1 + (z.2 - m.2) * z.2) fun q hq => by
  have e : -(z.1 - m.1) * q.1 + -(z.2 - m.2) * q.2 + ((z.1 - m.1) * z.1 + (z.2 - m.2) * z.2) = (z.1 - m.1) * (z.1 - q.1) + (z.2 - m.2) * (z.2 - q.2) := by grind
  rw [e]
  rcases ltP_tri q z with h | rfl | h
  ·refine pv_dot (pv_of h) hd ?_
   have := hf q hq
   unfold sdp sd at this
   have e : (z.1 - m.1) * (z.2 - q.2) - (z.2 - m.2) * (z.1 - q.1) = -((z.1 - m.1) * (q.2 - m.2) - (z.2 - m.2) * (q.1 - m.1)) := by grind
   omega
  ·simp
  ·exact (ltP_irr _ (leP_lt (hz q hq) h)).elim
 unfold skp at s1 s2
 unfold ltP at zm
 obtain ⟨a1, a2⟩ := m
 obtain ⟨b1, b2⟩ := z
 simp only at *
 have h0 : (b1 - a1) * (y - k * a2) - (b2 - a2) * (x - k * a1) = 0 := by
  have e : (a1 - b1) * (y - k * b2) - (a2 - b2) * (x - k * b1) = -((b1 - a1) * (y - k * a2) - (b2 - a2) * (x - k * a1)) := by grind
  omega
 have hdd : 0 < (b1 - a1) * (b1 - a1) + (b2 - a2) * (b2 - a2) := by
  by_cases e : b1 - a1 = 0
  ·have := sq_pos' (x := b2 - a2) (by omega); have := sq0 (b1 - a1); omega
  ·have := sq_pos' e; have := sq0 (b2 - a2); omega
 have ex : ((b1 - a1) * (b1 - a1) + (b2 - a2) * (b2 - a2)) * (x - k * a1) = ((b1 - a1) * (x - k * a1) + (b2 - a2) * (y - k * a2)) * (b1 - a1) - (b2 - a2) * ((b1 - a1) * (y - k * a2) - (b2 - a2) * (x - k * a1)) := by grind
 have ey : ((b1 - a1) * (b1 - a1) + (b2 - a2) * (b2 - a2)) * (y - k * a2) = ((b1 - a1) * (x - k * a1) + (b2 - a2) * (y - k * a2)) * (b2 - a2) + (b1 - a1) * ((b1 - a1) * (y - k * a2) - (b2 - a2) * (x - k * a1)) := by grind
 rw [h0, Int.mul_zero] at ex ey
 have t1 : 0 <= (b1 - a1) * (x - k * a1) + (b2 - a2) * (y - k * a2) := by
  have e : (b1 - a1) * x + (b2 - a2) * y + -((b1 - a1) * a1 + (b2 - a2) * a2) * k = (b1 - a1) * (x - k * a1) + (b2 - a2) * (y - k * a2) := by grind
  omega
 have t2 : (b1 - a1) * (x - k * a1) + (b2 - a2) * (y - k * a2) <= k * ((b1 - a1) * (b1 - a1) + (b2 - a2) * (b2 - a2)) := by
  have e : -(b1 - a1) * x + -(b2 - a2) * y + ((b1 - a1) * b1 + (b2 - a2) * b2) * k = k * ((b1 - a1) * (b1 - a1) + (b2 - a2) * (b2 - a2)) - ((b1 - a1) * (x - k * a1) + (b2 - a2) * (y - k * a2)) := by grind
  omega
 generalize hT : (b1 - a1) * (x - k * a1) + (b2 - a2) * (y - k * a2) = T at *
 generalize hd' : (b1 - a1) * (b1 - a1) + (b2 - a2) * (b2 - a2) = dd at *
 refine ⟨T, k * dd, t1, t2, Int.mul_pos hk hdd, ?_⟩
 have f1 : k * dd * mx - 1 * ((k * dd - T) * a1 + T * b1) = dd * (k * mx - x) := by
  have : dd * (k * mx - x) = k * dd * mx - (dd * (x - k * a1) + k * dd * a1) := by grind
  rw [this, ex]; grind
 have f2 : k * dd * my - 1 * ((k * dd - T) * a2 + T * b2) = dd * (k * my - y) := by
  have : dd * (k * my - y) = k * dd * my - (dd * (y - k * a2) + k * dd * a2) := by grind
  rw [this, ey]; grind
 rw [f1, f2, q2_mul]
 have := iml hq (sq0 dd)
 have e : k * dd * 1 * r * (k * dd * 1 * r) = dd * dd * (k * r * (k * r)) := by grind
 omega
def hullL : List P2 -> List P2
 | [] => []
 | [a] => [a]
 | a :: b :: l => (chainS [] (a :: b :: l)).tail.reverse ++ (chainS [] (a :: b :: l).reverse).tail.reverse
def pAt (l : List P2) (i : Nat) : P2 := l.getD i (0, 0)
def nrp (a b m : P2) (r : Int) : Bool := nr a.1 a.2 b.1 b.2 m.1 m.2 r
def TP (H : List P2) (m : P2) (r : Int) : Prop := (∃ i, i < H.length /\ nrp (pAt H i) (pAt H ((i + 1) % H.length)) m r = true) ∨ (2 < H.length /\ ∀ i, i < H.length -> 0 < sdp (pAt H i) (pAt H ((i + 1) % H.length)) m)
def Wn (m a b c : P2) : Prop := sdp a b c ≠ 0 /\ ((0 <= sdp a b m /\ 0 <= sdp b c m /\ 0 <= sdp c a m) ∨ (sdp a b m <= 0 /\ sdp b c m <= 0 /\ sdp c a m <= 0))
def RefT (D : P2 -> Prop) (m : P2) (r : Int) : Prop := (∃ a b, D a /\ D b /\ nrp a b m r = true) ∨ ∃ a b c, D a /\ D b /\ D c /\ Wn m a b c
theorem adj_ix : ∀ {st : List P2} {x y : P2}, Adj st x y ↔ ∃ i, st.reverse[i]? = some x /\ st.reverse[i + 1]? = some y
 | [], x, y => by simp [Adj]
 | [s], x, y => by
   simp only [Adj, false_iff]
   rintro ⟨i, h1, h2⟩
   simp at h2
 | b :: a :: l, x, y => by
   have ih := adj_ix (st := a :: l) (x := x) (y := y)
   have hl : (a :: l).reverse.length = l.length + 1 := by simp
   have ha : (a :: l).reverse[l.length]? = some a := by
    rw [List.reverse_cons, List.getElem?_append_right (by simp)]; simp
   simp only [Adj, ih]
   rw [List.reverse_cons (a := b)]
   constructor
   ·rintro (⟨rfl, rfl⟩ | ⟨i, h1, h2⟩)
    ·refine ⟨l.length, ?_, ?_⟩
     ·rw [List.getElem?_append_left (by omega)]; exact ha
     ·rw [List.getElem?_append_right (by omega), hl]; simp
    ·have k : i + 1 < (a :: l).reverse.length := by
      apply Classical.byContradiction; intro hn
      rw [List.getElem?_eq_none (by omega)] at h2; cases h2
     exact ⟨i, by rw [List.getElem?_append_left (by omega)]; exact h1, by rw [List.getElem?_append_left k]; exact h2⟩
   ·rintro ⟨i, h1, h2⟩
    by_cases k : i + 1 < (a :: l).reverse.length
    ·rw [List.getElem?_append_left k] at h2
     rw [List.getElem?_append_left (by omega)] at h1
     exact .inr ⟨i, h1, h2⟩
    ·rw [List.getElem?_append_right (by omega), hl] at h2
     have e : i = l.length := by
      apply Classical.byContradiction; intro hn
      rw [List.getElem?_eq_none (by simp; omega)] at h2; cases h2
     subst e
     rw [List.getElem?_append_left (by omega), ha] at h1
     rw [Nat.sub_self] at h2
     simp only [List.getElem?_cons_zero, Option.some.injEq] at h1 h2
     exact .inl ⟨h1.symm, h2.symm⟩
theorem bot_ix : ∀ {st : List P2}, st ≠ [] -> st.reverse[0]? = some (botS st)
 | [s], _ => rfl
 | b :: a :: l, _ => by
   rw [List.reverse_cons (a := b), List.getElem?_append_left (by simp)]
   exact bot_ix (st := a :: l) (by simp)
section
variable {D : P2 -> Prop} {A B : List P2} {z m : P2}
theorem ix_aux {rA rB : List P2} {z m : P2} (bA : rA.reverse[0]? = some m) (bB : rB.reverse[0]? = some z) (i : Nat) (hi : i < rA.length + rB.length) :
 (rA.reverse ++ rB.reverse)[i]? = (if i < rA.length then (rA.reverse ++ [z])[i]? else (rB.reverse ++ [m])[i - rA.length]?) /\ (rA.reverse ++ rB.reverse)[(i + 1) % (rA.length + rB.length)]? = (if i < rA.length then (rA.reverse ++ [z])[i + 1]? else (rB.reverse ++ [m])[i - rA.length + 1]?) := by
 have nA : rA.reverse.length = rA.length := List.length_reverse
 have nB : rB.reverse.length = rB.length := List.length_reverse
 by_cases h1 : i < rA.length
 ·rw [if_pos h1, if_pos h1, Nat.mod_eq_of_lt (by
   have : 0 < rB.reverse.length := by
    apply Classical.byContradiction; intro hn
    rw [List.getElem?_eq_none (by omega)] at bB; cases bB
   omega)]
  refine ⟨by rw [List.getElem?_append_left (by omega), List.getElem?_append_left (by omega)], ?_⟩
  by_cases h2 : i + 1 < rA.length
  ·rw [List.getElem?_append_left (by omega), List.getElem?_append_left (by omega)]
  ·have e : i + 1 = rA.length := by omega
   rw [e, List.getElem?_append_right (by omega), List.getElem?_append_right (by omega), nA, Nat.sub_self, bB]; rfl
 ·rw [if_neg h1, if_neg h1]
  refine ⟨by rw [List.getElem?_append_right (by omega), List.getElem?_append_left (l₁ := rB.reverse) (by omega), nA], ?_⟩
  by_cases h2 : i - rA.length + 1 < rB.length
  ·rw [Nat.mod_eq_of_lt (by omega), List.getElem?_append_right (by omega), List.getElem?_append_left (l₁ := rB.reverse) (by omega), nA]
   congr 1; omega
  ·have e : i + 1 = rA.length + rB.length := by omega
   have e2 : i - rA.length + 1 = rB.length := by omega
   rw [e, Nat.mod_self, e2, List.getElem?_append_left (by
    apply Classical.byContradiction; intro hn
    rw [List.getElem?_eq_none (by omega)] at bA; cases bA), List.getElem?_append_right (by omega), nB, Nat.sub_self, bA]; rfl
theorem Hull.ix (h : Hull D A B z m) (i : Nat) (hi : i < (A.tail.reverse ++ B.tail.reverse).length) :
 (A.tail.reverse ++ B.tail.reverse)[i]? = (if i < A.tail.length then A.reverse[i]? else B.reverse[i - A.tail.length]?) /\ (A.tail.reverse ++ B.tail.reverse)[(i + 1) % (A.tail.reverse ++ B.tail.reverse).length]? = (if i < A.tail.length then A.reverse[i + 1]? else B.reverse[i - A.tail.length + 1]?) := by
 obtain ⟨rA, eA⟩ := h.tA
 obtain ⟨rB, eB⟩ := h.tB
 have la := h.lenA
 have lb := h.lenB
 have bA := bot_ix (st := A) (by rw [eA]; simp)
 have bB := bot_ix (st := B) (by rw [eB]; simp)
 rw [h.bA] at bA
 rw [h.bB] at bB
 rw [eA] at la bA hi ⊢
 rw [eB] at lb bB hi ⊢
 simp only [List.length_cons] at la lb
 rw [List.reverse_cons, List.getElem?_append_left (by simp; omega)] at bA bB
 have hi' : i < rA.length + rB.length := by
  have : (rA.reverse ++ rB.reverse).length = rA.length + rB.length := by simp
  have h2 : i < (rA.reverse ++ rB.reverse).length := hi
  omega
 have k := ix_aux bA bB i hi'
 have eL : (rA.reverse ++ rB.reverse).length = rA.length + rB.length := by simp
 rw [← eL] at k
 rw [← List.reverse_cons, ← List.reverse_cons] at k
 exact k
theorem pAt_some {l : List P2} {i : Nat} (h : i < l.length) : l[i]? = some (pAt l i) := by
 unfold pAt; rw [List.getElem?_eq_getElem h]; simp [List.getD, List.getElem?_eq_getElem h]
theorem Hull.cyc (h : Hull D A B z m) {x y : P2} : (∃ i, i < (A.tail.reverse ++ B.tail.reverse).length /\ pAt (A.tail.reverse ++ B.tail.reverse) i = x /\ pAt (A.tail.reverse ++ B.tail.reverse) ((i + 1) % (A.tail.reverse ++ B.tail.reverse).length) = y) ↔ Ed A B x y := by
 unfold Ed
 rw [adj_ix, adj_ix]
 have nA : A.reverse.length = A.tail.length + 1 := by have := h.lenA; simp; omega
 have nB : B.reverse.length = B.tail.length + 1 := by have := h.lenB; simp; omega
 have nH : (A.tail.reverse ++ B.tail.reverse).length = A.tail.length + B.tail.length := by simp
 have gt : ∀ {l : List P2} {i : Nat} {x : P2}, l[i]? = some x -> i < l.length := fun {l i x} hx => by
  apply Classical.byContradiction; intro hn
  rw [List.getElem?_eq_none (by omega)] at hx; cases hx
 constructor
 ·rintro ⟨i, hi, rfl, rfl⟩
  have k := h.ix i hi
  rw [pAt_some hi, pAt_some (Nat.mod_lt _ (by omega))] at k
  by_cases hl : i < A.tail.length
  ·rw [if_pos hl, if_pos hl] at k
   exact .inl ⟨i, k.1.symm, k.2.symm⟩
  ·rw [if_neg hl, if_neg hl] at k
   exact .inr ⟨_, k.1.symm, k.2.symm⟩
 ·rintro (⟨i, h1, h2⟩ | ⟨i, h1, h2⟩)
  ·have g := gt h2
   have hi : i < (A.tail.reverse ++ B.tail.reverse).length := by omega
   have k := h.ix i hi
   rw [if_pos (by omega), if_pos (by omega), h1, h2, pAt_some hi, pAt_some (Nat.mod_lt _ (by omega))] at k
   simp only [Option.some.injEq] at k
   exact ⟨i, hi, k.1, k.2⟩
  ·have g := gt h2
   have hi : i + A.tail.length < (A.tail.reverse ++ B.tail.reverse).length := by omega
   have k := h.ix (i + A.tail.length) hi
   rw [if_neg (by omega), if_neg (by omega), Nat.add_sub_cancel, h1, h2, pAt_some hi, pAt_some (Nat.mod_lt _ (by omega))] at k
   simp only [Option.some.injEq] at k
   exact ⟨_, hi, k.1, k.2⟩
end
theorem fan {v : Nat -> P2} {n : Nat} {m : P2} (h3 : 2 < n) (h : ∀ i, i < n -> 0 < sdp (v i) (v ((i + 1) % n)) m) : ∃ k, k + 1 < n /\ Wn m (v 0) (v k) (v (k + 1)) := by
 have key : ∀ k, 1 <= k -> k < n -> (∃ k, k + 1 < n /\ 0 < sdp (v 0) (v k) m /\ sdp (v 0) (v (k + 1)) m <= 0) ∨ 0 < sdp (v 0) (v k) m := by
  intro k
  induction k with
  | zero => intro h; omega
  | succ k ih =>
    intro _ hk
    by_cases e : k = 0
    ·subst e
     have := h 0 (by omega)
     rw [Nat.mod_eq_of_lt (by omega)] at this
     exact .inr this
    ·rcases ih (by omega) (by omega) with k1 | k1
     ·exact .inl k1
     ·by_cases h0 : sdp (v 0) (v (k + 1)) m <= 0
      ·exact .inl ⟨k, hk, k1, h0⟩
      ·exact .inr (by omega)
 have last := h (n - 1) (by omega)
 rw [Nat.sub_add_cancel (by omega), Nat.mod_self, sdp_neg] at last
 rcases key (n - 1) (by omega) (by omega) with ⟨k, hk, k1, k2⟩ | k1
 ·refine ⟨k, hk, ?_⟩
  have k3 := h k (by omega)
  rw [Nat.mod_eq_of_lt hk] at k3
  have e : sdp (v 0) (v k) (v (k + 1)) = sdp (v 0) (v k) m + sdp (v k) (v (k + 1)) m - sdp (v 0) (v (k + 1)) m := by unfold sdp sd; grind
  refine ⟨by omega, .inl ⟨by omega, by omega, ?_⟩⟩
  rw [sdp_neg]; omega
 ·omega
theorem nrp_iff {a b m : P2} {r : Int} (hr : 0 <= r) : nrp a b m r = true ↔ Nq a.1 a.2 b.1 b.2 m.1 m.2 1 r := nr_iff hr
section
variable {D : P2 -> Prop} {m : P2} {r : Int}
theorem ref_cv (hr : 0 <= r) (h : RefT D m r) : CvN D m.1 m.2 r := by
 rcases h with ⟨a, b, ha, hb, h⟩ | ⟨a, b, c, ha, hb, hc, h1, h2⟩
 ·obtain ⟨n, k, h1, h2, h3, h4⟩ := (nrp_iff hr).1 h
  rw [Int.mul_one] at h4
  refine ⟨(k - n) * a.1 + n * b.1, (k - n) * a.2 + n * b.2, k, h3, fun A B C hq => ?_, ?_⟩
  ·have k1 := imn (show 0 <= k - n by omega) (hq a ha)
   have k2 := imn h1 (hq b hb)
   have e : A * ((k - n) * a.1 + n * b.1) + B * ((k - n) * a.2 + n * b.2) + C * k = (k - n) * (A * a.1 + B * a.2 + C) + n * (A * b.1 + B * b.2 + C) := by grind
   omega
  ·rw [Int.one_mul, Int.one_mul] at h4
   exact h4
 ·refine ⟨m.1, m.2, 1, by omega, fun A B C hq => ?_, ?_⟩
  ·have fa := hq a ha
   have fb := hq b hb
   have fc := hq c hc
   have e : sdp a b c * (A * m.1 + B * m.2 + C * 1) = sdp b c m * (A * a.1 + B * a.2 + C) + sdp c a m * (A * b.1 + B * b.2 + C) + sdp a b m * (A * c.1 + B * c.2 + C) := by unfold sdp sd; grind
   have es : sdp a b c = sdp b c m + sdp c a m + sdp a b m := by unfold sdp sd; grind
   rcases h2 with ⟨g1, g2, g3⟩ | ⟨g1, g2, g3⟩
   ·have k1 := imn g2 fa
    have k2 := imn g3 fb
    have k3 := imn g1 fc
    exact cancel (k := sdp a b c) (by omega) (by rw [Int.mul_zero]; omega)
   ·have k1 := imn (show 0 <= -sdp b c m by omega) fa
    have k2 := imn (show 0 <= -sdp c a m by omega) fb
    have k3 := imn (show 0 <= -sdp a b m by omega) fc
    rw [Int.neg_mul] at k1 k2 k3
    exact cancel (k := -sdp a b c) (by omega) (by rw [Int.mul_zero, Int.neg_mul]; omega)
  ·rw [Int.one_mul, Int.one_mul, Int.sub_self, Int.sub_self, Int.one_mul]
   have := sq0 r
   unfold q2; omega
theorem nq_pt {a : P2} (h : q2 (m.1 - a.1) (m.2 - a.2) <= r * r) (b : P2) : Nq a.1 a.2 b.1 b.2 m.1 m.2 1 r := by
 refine ⟨0, 1, by omega, by omega, by omega, ?_⟩
 rw [show 1 * m.1 - 1 * ((1 - 0) * a.1 + 0 * b.1) = m.1 - a.1 by omega, show 1 * m.2 - 1 * ((1 - 0) * a.2 + 0 * b.2) = m.2 - a.2 by omega, show 1 * 1 * r = r by omega]
 exact h
end
theorem tp_ref {c : List P2} (hs : c.Pairwise ltP) {m : P2} {r : Int} (h : TP (hullL c) m r) : RefT (fun q => q ∈ c) m r := by
 match c, hs with
 | [], _ =>
   rcases h with ⟨i, hi, _⟩ | ⟨h, _⟩
   ·exact absurd hi (by simp [hullL])
   ·exact absurd h (by simp [hullL])
 | [a], _ =>
   rcases h with ⟨i, hi, h⟩ | ⟨h, _⟩
   ·simp only [hullL, List.length_singleton] at hi h
    have e : i = 0 := by omega
    subst e
    exact .inl ⟨a, a, by simp, by simp, h⟩
   ·exact absurd h (by simp [hullL])
 | a :: b :: l, hs =>
   obtain ⟨z, H⟩ := hull_of hs (by simp)
   unfold hullL at h
   rcases h with ⟨i, hi, h⟩ | ⟨h3, h⟩
   ·have k := H.e1 (H.cyc.1 ⟨i, hi, rfl, rfl⟩)
    exact .inl ⟨_, _, k.2.1, k.2.2.1, h⟩
   ·have h3' : 2 < ((chainS [] (a :: b :: l)).tail.reverse ++ (chainS [] (a :: b :: l).reverse).tail.reverse).length := h3
    obtain ⟨k, hk, hw⟩ := fan (n := ((chainS [] (a :: b :: l)).tail.reverse ++ (chainS [] (a :: b :: l).reverse).tail.reverse).length) h3' h
    have mem : ∀ i, i < ((chainS [] (a :: b :: l)).tail.reverse ++ (chainS [] (a :: b :: l).reverse).tail.reverse).length -> pAt ((chainS [] (a :: b :: l)).tail.reverse ++ (chainS [] (a :: b :: l).reverse).tail.reverse) i ∈ a :: b :: l := fun i hi => (H.e1 (H.cyc.1 ⟨i, hi, rfl, rfl⟩)).2.1
    exact .inr ⟨_, _, _, mem 0 (by omega), mem k (by omega), mem (k + 1) hk, hw⟩
theorem cv_tp {c : List P2} (hs : c.Pairwise ltP) (h0 : c ≠ []) {m : P2} {r : Int} (hr : 0 <= r) (h : CvN (fun q => q ∈ c) m.1 m.2 r) : TP (hullL c) m r := by
 match c, hs, h0 with
 | [a], _, _ =>
   obtain ⟨x, y, k, hk, hI, hq⟩ := h
   have i1 := hI 1 0 (-a.1) fun q hq => by simp only [List.mem_singleton] at hq; subst hq; omega
   have i2 := hI (-1) 0 a.1 fun q hq => by simp only [List.mem_singleton] at hq; subst hq; omega
   have i3 := hI 0 1 (-a.2) fun q hq => by simp only [List.mem_singleton] at hq; subst hq; omega
   have i4 := hI 0 (-1) a.2 fun q hq => by simp only [List.mem_singleton] at hq; subst hq; omega
   rw [Int.neg_mul] at i1 i3
   have ex : x = k * a.1 := by rw [Int.mul_comm]; omega
   have ey : y = k * a.2 := by rw [Int.mul_comm]; omega
   refine .inl ⟨0, by simp [hullL], (nrp_iff hr).2 (nq_pt ?_ _)⟩
   show q2 (m.1 - a.1) (m.2 - a.2) <= r * r
   rw [ex, ey, ← Int.mul_sub, ← Int.mul_sub, q2_mul] at hq
   refine cancel2 hk ?_
   have e : k * r * (k * r) = k * k * (r * r) := by grind
   omega
 | a :: b :: l, hs, _ =>
   obtain ⟨z, H⟩ := hull_of hs (by simp)
   unfold hullL
   have la := H.lenA
   have lb := H.lenB
   by_cases hf : (chainS [] (a :: b :: l)).length < 3 /\ (chainS [] (a :: b :: l).reverse).length < 3
   ·obtain ⟨eA, eB, hflat⟩ := H.flat hf.1 hf.2
    have k := flat_near H.zm H.hz H.hm hflat hr h
    have e : Ed (chainS [] (a :: b :: l)) (chainS [] (a :: b :: l).reverse) a z := .inl (by rw [eA]; exact adj_top)
    obtain ⟨i, hi, h1, h2⟩ := H.cyc.2 e
    exact .inl ⟨i, hi, by rw [h1, h2]; exact (nrp_iff hr).2 k⟩
   ·have hn : NotFlat (fun q => q ∈ a :: b :: l) := H.bend (by omega)
    by_cases hx : ∃ i, i < ((chainS [] (a :: b :: l)).tail.reverse ++ (chainS [] (a :: b :: l).reverse).tail.reverse).length /\ sdp (pAt ((chainS [] (a :: b :: l)).tail.reverse ++ (chainS [] (a :: b :: l).reverse).tail.reverse) i) (pAt ((chainS [] (a :: b :: l)).tail.reverse ++ (chainS [] (a :: b :: l).reverse).tail.reverse) ((i + 1) % ((chainS [] (a :: b :: l)).tail.reverse ++ (chainS [] (a :: b :: l).reverse).tail.reverse).length)) m <= 0
    ·obtain ⟨i, hi, hx⟩ := hx
     obtain ⟨p, q, he, hk⟩ := H.near hn hr h (e0 := (_, _)) (H.cyc.1 ⟨i, hi, rfl, rfl⟩) hx
     obtain ⟨j, hj, h1, h2⟩ := H.cyc.2 he
     exact .inl ⟨j, hj, by rw [h1, h2]; exact (nrp_iff hr).2 hk⟩
    ·refine .inr ⟨by simp only [List.length_append, List.length_reverse, List.length_tail]; omega, fun i hi => ?_⟩
     apply Classical.byContradiction; intro hn
     exact hx ⟨i, hi, Int.not_lt.1 hn⟩
theorem tp_iff {c : List P2} (hs : c.Pairwise ltP) (h0 : c ≠ []) {m : P2} {r : Int} (hr : 0 <= r) : TP (hullL c) m r ↔ RefT (fun q => q ∈ c) m r := ⟨tp_ref hs, fun h => cv_tp hs h0 hr (ref_cv hr h)⟩
end Go.Dx
namespace Go.Dx
open Go.IntKind (i64 u64 u8)
open Go.Sx
abbrev ty4 : List Ty := tp4
def v4 (a b c d : Int) : List V := [V.int .i64 a, V.int .i64 b, V.int .i64 c, V.int .i64 d]
def LR (g : Int -> Int -> List V) (n : Nat) (f : Nat -> List V) (acc : List (Int × Int)) : Prop := n = acc.length /\ ∀ k p, acc[k]? = some p -> views ty4 (f k) = g p.1 p.2
theorem LR.nil (g : Int -> Int -> List V) (f : Nat -> List V) : LR g 0 f [] := ⟨rfl, fun k p h => by simp at h⟩
theorem LR.view {g : Int -> Int -> List V} {n : Nat} {f : Nat -> List V} {acc : List (Int × Int)} (h : LR g n f acc) : LR g n (elV ty4 f) acc := ⟨h.1, fun k p hk => by show views ty4 (views ty4 (f k)) = _; rw [views_idem]; exact h.2 k p hk⟩
end Go.Dx
namespace Go.Dx
open Go.Sx
abbrev ty2 : List Ty := [Ty.int IntKind.i64, Ty.int IntKind.i64]
def pq (f : Nat -> List V) (i : Nat) : P2 := (jv0 (f i), jv1 (f i))
def pv2 (p : P2) : List V := [V.int .i64 p.1, V.int .i64 p.2]
theorem pq_el (f : Nat -> List V) (i : Nat) : pq (elV ty2 f) i = pq f i := rfl
def ptL (n : Nat) (f : Nat -> List V) : List P2 := (List.range n).map (pq f)
theorem ptL_len (n : Nat) (f : Nat -> List V) : (ptL n f).length = n := by simp [ptL]
theorem ptL_at {n : Nat} {f : Nat -> List V} {k : Nat} (h : k < n) : (ptL n f)[k]? = some (pq f k) := by simp [ptL, h]
theorem ptL_el (n : Nat) (f : Nat -> List V) : ptL n (elV ty2 f) = ptL n f := rfl
theorem ptL_mem {n : Nat} {f : Nat -> List V} {q : P2} : q ∈ ptL n f ↔ ∃ k, k < n /\ pq f k = q := by simp [ptL]
theorem ptL_snoc (n : Nat) (f : Nat -> List V) (p : P2) : ptL (n + 1) (joinF n (elV ty2 f) fun _ => pv2 p) = ptL n f ++ [p] := by
 unfold ptL
 rw [List.range_succ, List.map_append]
 congr 1
 ·refine List.map_congr_left fun k hk => ?_
  have hk := List.mem_range.1 hk
  unfold pq joinF
  rw [show Nat.blt k n = true from Nat.ble_eq_true_of_le hk]; rfl
 ·simp only [List.map_cons, List.map_nil, List.cons.injEq, and_true]
  unfold pq joinF
  have : Nat.blt n n = false := by
   cases hb : Nat.blt n n with
   | false => rfl
   | true => have := Nat.le_of_ble_eq_true hb; omega
  rw [this]; rfl
theorem ptL_take {n m : Nat} {f : Nat -> List V} (h : m <= n) : ptL m f = (ptL n f).take m := by
 unfold ptL
 rw [← List.map_take, List.take_range, Nat.min_eq_left h]
theorem pq_set {f : Nat -> List V} {j k : Nat} {l : List V} : pq (fun i => bif Nat.beq i j then l else f i) k = if k = j then (jv0 l, jv1 l) else pq f k := by
 unfold pq
 dsimp only
 by_cases h : k = j
 ·subst h; rw [if_pos rfl, Nat.beq_refl]; rfl
 ·rw [if_neg h]
  have : Nat.beq k j = false := by
   cases hb : Nat.beq k j with
   | false => rfl
   | true => exact (h (Nat.eq_of_beq_eq_true hb)).elim
  rw [this]; rfl
theorem leP_trans {a b c : P2} (h1 : leP a b) (h2 : leP b c) : leP a c := by unfold leP at *; omega
theorem not_lt_le {a b : P2} (h : ¬ ltP a b) : leP b a := by unfold ltP leP at *; omega
theorem le_ne_lt {a b : P2} (h : leP a b) (hn : ¬ (b.1 = a.1 /\ b.2 = a.2)) : ltP a b := by unfold ltP leP at *; omega
def swF (f : Nat -> List V) (i j : Nat) : Nat -> List V := fun i' => bif Nat.beq i' j then pv2 (pq f i) else bif Nat.beq i' i then pv2 (pq f j) else elV ty2 f i'
theorem pq_sw (f : Nat -> List V) (i j k : Nat) : pq (swF f i j) k = if k = j then pq f i else if k = i then pq f j else pq f k := by
 unfold swF
 rw [pq_set]
 by_cases h : k = j
 ·rw [if_pos h, if_pos h]; rfl
 ·rw [if_neg h, if_neg h]
  have := pq_set (f := elV ty2 f) (j := i) (k := k) (l := pv2 (pq f j))
  rw [this]; rfl
section
variable {N : Nat} {D : P2 -> Prop}
def MemN (N : Nat) (D : P2 -> Prop) (f : Nat -> List V) : Prop := ∀ q, D q ↔ ∃ k, k < N /\ pq f k = q
def Srt (i : Nat) (f : Nat -> List V) : Prop := ∀ a b, a < b -> b < i -> leP (pq f a) (pq f b)
def SSr (i : Nat) (f : Nat -> List V) : Prop := ∀ a b, a < b -> b < i -> ltP (pq f a) (pq f b)
theorem mem_sw {f : Nat -> List V} {i j : Nat} (hi : i < N) (hj : j < N) (h : MemN N D f) : MemN N D (swF f i j) := fun q => by
 rw [h q]
 constructor
 ·rintro ⟨k, hk, e⟩
  by_cases h1 : k = i
  ·exact ⟨j, hj, by rw [pq_sw, if_pos rfl, ← h1]; exact e⟩
  ·by_cases h2 : k = j
   ·refine ⟨i, hi, ?_⟩
    rw [pq_sw]
    by_cases h3 : i = j
    ·rw [if_pos h3]; rw [h3, ← h2]; exact e
    ·rw [if_neg h3, if_pos rfl, ← h2]; exact e
   ·exact ⟨k, hk, by rw [pq_sw, if_neg h2, if_neg h1]; exact e⟩
 ·rintro ⟨k, hk, e⟩
  rw [pq_sw] at e
  by_cases h2 : k = j
  ·rw [if_pos h2] at e; exact ⟨i, hi, e⟩
  ·rw [if_neg h2] at e
   by_cases h1 : k = i
   ·rw [if_pos h1] at e; exact ⟨j, hj, e⟩
   ·rw [if_neg h1] at e; exact ⟨k, hk, e⟩
theorem sort_ind {P0 : Nat -> (Nat -> List V) -> Prop} {P1 : Nat -> Nat -> (Nat -> List V) -> Prop}
 (s0 : ∀ i f, 1 <= i -> i < N -> P1 i i (elV ty2 f) -> P0 i f)
 (s0e : ∀ f, Srt N f -> MemN N D f -> P0 N f)
 (s1a : ∀ j i f, 0 < j -> j <= i -> i < N -> MemN N D f -> ltP (pq f j) (pq f (j - 1)) -> P1 (j - 1) i (swF f j (j - 1)) -> P1 j i f)
 (s1b : ∀ j i f, j <= i -> i < N -> MemN N D f -> (0 < j -> ¬ ltP (pq f j) (pq f (j - 1))) -> P0 (i + 1) (elV ty2 f) -> P1 j i f) :
 ∀ m i f, i + m = N -> 1 <= i -> Srt i f -> MemN N D f -> P0 i f
 | 0, i, f, h1, _, h2, h3 => by
   rw [show i = N by omega] at h2 ⊢; exact s0e f h2 h3
 | m + 1, i, f, h1, hi, h2, h3 => by
   refine s0 i f hi (by omega) ?_
   have key : ∀ j f, j <= i -> (∀ a b, a < b -> b <= i -> b ≠ j -> leP (pq f a) (pq f b)) -> MemN N D f -> P1 j i f := by
    intro j
    induction j with
    | zero =>
      intro f hj hins hm
      refine s1b 0 i f hj (by omega) hm (fun h => by omega) (sort_ind s0 s0e s1a s1b m (i + 1) _ (by omega) (by omega) (fun a b hab hb => ?_) hm)
      exact hins a b hab (by omega) (by omega)
    | succ j ih =>
      intro f hj hins hm
      by_cases hlt : ltP (pq f (j + 1)) (pq f j)
      ·refine s1a (j + 1) i f (by omega) hj (by omega) hm hlt (ih _ (by omega) (fun a b hab hb hbj => ?_) (mem_sw (by omega) (by omega) hm))
       simp only [Nat.add_sub_cancel] at *
       rw [pq_sw, pq_sw]
       by_cases b1 : b = j + 1
       ·subst b1
        rw [if_neg (by omega : ¬ j + 1 = j), if_pos rfl]
        by_cases a1 : a = j
        ·rw [if_pos a1]; exact leP_of hlt
        ·rw [if_neg a1, if_neg (by omega)]
         exact hins a j (by omega) (by omega) (by omega)
       ·rw [if_neg hbj, if_neg b1]
        by_cases a1 : a = j
        ·rw [if_pos a1]; exact hins (j + 1) b (by omega) hb (by omega)
        ·rw [if_neg a1]
         by_cases a2 : a = j + 1
         ·rw [if_pos a2]; exact hins j b (by omega) hb (by omega)
         ·rw [if_neg a2]; exact hins a b hab hb (by omega)
      ·refine s1b (j + 1) i f hj (by omega) hm (fun _ => hlt) (sort_ind s0 s0e s1a s1b m (i + 1) _ (by omega) (by omega) (fun a b hab hb => ?_) hm)
       rw [pq_el, pq_el]
       by_cases b1 : b = j + 1
       ·subst b1
        have k := not_lt_le hlt
        by_cases a1 : a = j
        ·subst a1; exact k
        ·exact leP_trans (hins a j (by omega) (by omega) (by omega)) k
       ·exact hins a b hab (by omega) b1
   exact key i _ (Nat.le_refl _) (fun a b hab hb hbi => h2 a b hab (by omega)) h3
theorem comp_ind {P2' : Nat -> (Nat -> List V) -> Prop} {P3 : Nat -> Nat -> Nat -> (Nat -> List V) -> Prop}
 (ce : ∀ f, SSr N f -> MemN N D f -> P2' N f)
 (cn : ∀ i f, 1 <= i -> i < N -> ¬ ((pq f i).1 = (pq f (i - 1)).1 /\ (pq f i).2 = (pq f (i - 1)).2) -> P2' (i + 1) (elV ty2 f) -> P2' i f)
 (cd : ∀ i f, 1 <= i -> i < N -> ((pq f i).1 = (pq f (i - 1)).1 /\ (pq f i).2 = (pq f (i - 1)).2) -> P3 1 i i (elV ty2 f) -> P2' i f)
 (ds : ∀ k off m f, 1 <= k -> off + k < N -> 1 <= m -> m <= off + k - 1 -> ¬ ((pq f (off + k)).1 = (pq f (off + (k - 1))).1 /\ (pq f (off + k)).2 = (pq f (off + (k - 1))).2) ->
   P3 (k + 1) off (m + 1) (fun i' => bif Nat.beq i' m then pv2 (pq f (off + k)) else elV ty2 f i') -> P3 k off m f)
 (dn : ∀ k off m f, 1 <= k -> off + k < N -> 1 <= m -> m <= off + k - 1 -> ((pq f (off + k)).1 = (pq f (off + (k - 1))).1 /\ (pq f (off + k)).2 = (pq f (off + (k - 1))).2) -> P3 (k + 1) off m (elV ty2 f) -> P3 k off m f)
 (de : ∀ off m f, off < N -> 1 <= m -> m < N -> SSr m f -> MemN m D f -> P3 (N - off) off m f) :
 ∀ m i f, i + m = N -> 1 <= i -> Srt N f -> SSr i f -> MemN N D f -> P2' i f
 | 0, i, f, h1, _, _, h2, h3 => by
   rw [show i = N by omega] at h2 ⊢; exact ce f h2 h3
 | m + 1, i, f, h1, hi, hS, h2, h3 => by
   by_cases he : (pq f i).1 = (pq f (i - 1)).1 /\ (pq f i).2 = (pq f (i - 1)).2
   ·refine cd i f hi (by omega) he ?_
    have key : ∀ r k m g, k + r = N - i -> 1 <= k -> i <= m -> m <= i + k - 1 -> (∀ t, i + k - 1 <= t -> t < N -> pq g t = pq f t) -> SSr m g -> (∀ q, (∃ a, a < m /\ pq g a = q) ↔ ∃ a, a < i + k /\ pq f a = q) -> pq g (m - 1) = pq f (i + k - 1) -> P3 k i m g := by
     intro r
     induction r with
     | zero =>
       intro k m g hk hk1 him hm hu hss hmem hl
       rw [show k = N - i by omega] at *
       refine de i m g (by omega) (by omega) (by omega) hss fun q => ?_
       rw [h3 q, hmem q, show i + (N - i) = N by omega]
     | succ r ih =>
       intro k m g hk hk1 him hm hu hss hmem hl
       have u1 := hu (i + k) (by omega) (by omega)
       have u2 := hu (i + (k - 1)) (by omega) (by omega)
       rw [show i + k - 1 = i + (k - 1) by omega] at hl
       by_cases hd : (pq g (i + k)).1 = (pq g (i + (k - 1))).1 /\ (pq g (i + k)).2 = (pq g (i + (k - 1))).2
       ·refine dn k i m g hk1 (by omega) (by omega) hm hd (ih (k + 1) m _ (by omega) (by omega) him (by omega) (fun t ht => hu t (by omega)) hss (fun q => ?_) ?_)
        ·have := hmem q
         simp only [pq_el]
         rw [this]
         constructor
         ·rintro ⟨a, ha, e⟩; exact ⟨a, by omega, e⟩
         ·rintro ⟨a, ha, e⟩
          by_cases ea : a = i + k
          ·subst ea
           refine ⟨i + (k - 1), by omega, ?_⟩
           rw [← e, ← u1, ← u2]; exact (Prod.ext hd.1 hd.2).symm
          ·exact ⟨a, by omega, e⟩
        ·rw [pq_el, hl, show i + (k + 1) - 1 = i + k by omega, ← u1, ← u2]; exact (Prod.ext hd.1 hd.2).symm
       ·have hlt : ltP (pq g (m - 1)) (pq g (i + k)) := by
         refine le_ne_lt ?_ ?_
         ·rw [hl, u1]; exact hS _ _ (by omega) (by omega)
         ·rw [hl, ← u2]; exact hd
        have hs : ∀ t, pq (fun i' => bif Nat.beq i' m then pv2 (pq g (i + k)) else elV ty2 g i') t = if t = m then pq g (i + k) else pq g t := fun t => by rw [pq_set]; rfl
        refine ds k i m g hk1 (by omega) (by omega) hm hd (ih (k + 1) (m + 1) _ (by omega) (by omega) (by omega) (by omega) (fun t ht htN => ?_) (fun a b hab hb => ?_) (fun q => ?_) ?_)
        ·rw [hs, if_neg (by omega)]; exact hu t (by omega) htN
        ·rw [hs, hs]
         by_cases b1 : b = m
         ·rw [if_neg (by omega), if_pos b1]
          by_cases a1 : a = m - 1
          ·rw [a1]; exact hlt
          ·exact ltP_trans (hss a (m - 1) (by omega) (by omega)) hlt
         ·rw [if_neg (by omega), if_neg b1]; exact hss a b hab (by omega)
        ·constructor
         ·rintro ⟨a, ha, e⟩
          rw [hs] at e
          by_cases a1 : a = m
          ·rw [if_pos a1] at e; exact ⟨i + k, by omega, by rw [← u1]; exact e⟩
          ·rw [if_neg a1] at e
           obtain ⟨c, hc, e'⟩ := (hmem q).1 ⟨a, by omega, e⟩
           exact ⟨c, by omega, e'⟩
         ·rintro ⟨a, ha, e⟩
          by_cases a1 : a = i + k
          ·exact ⟨m, by omega, by rw [hs, if_pos rfl, u1, ← a1]; exact e⟩
          ·obtain ⟨c, hc, e'⟩ := (hmem q).2 ⟨a, by omega, e⟩
           exact ⟨c, by omega, by rw [hs, if_neg (by omega)]; exact e'⟩
        ·rw [hs, Nat.add_sub_cancel, if_pos rfl, show i + (k + 1) - 1 = i + k by omega, u1]
    refine key (N - i - 1) 1 i _ (by omega) (Nat.le_refl _) (Nat.le_refl _) (by omega) (fun t _ _ => pq_el f t) h2 (fun q => ?_) ?_
    ·simp only [pq_el]
     constructor
     ·rintro ⟨a, ha, e⟩; exact ⟨a, by omega, e⟩
     ·rintro ⟨a, ha, e⟩
      by_cases ea : a = i
      ·subst ea; exact ⟨a - 1, by omega, by rw [← e]; exact (Prod.ext he.1 he.2).symm⟩
      ·exact ⟨a, by omega, e⟩
    ·rw [pq_el, show i + 1 - 1 = i by omega]; exact (Prod.ext he.1 he.2).symm
   ·refine cn i f hi (by omega) he (comp_ind ce cn cd ds dn de m (i + 1) _ (by omega) (by omega) hS (fun a b hab hb => ?_) h3)
    rw [pq_el, pq_el]
    by_cases b1 : b = i
    ·subst b1
     have hlt : ltP (pq f (b - 1)) (pq f b) := le_ne_lt (hS _ _ (by omega) (by omega)) he
     by_cases a1 : a = b - 1
     ·rw [a1]; exact hlt
     ·exact ltP_trans (h2 a (b - 1) (by omega) (by omega)) hlt
    ·exact h2 a b hab (by omega)
end
theorem rev_ind {N : Nat} {g : Nat -> P2} {P : Nat -> Nat -> (Nat -> List V) -> Prop} (r1 : ∀ i j f, i < j -> j < N -> P (i + 1) (j - 1) (swF f i j) -> P i j f)
 (r2 : ∀ i j f, ¬ i < j -> (∀ k, k < N -> pq f k = g (N - 1 - k)) -> P i j f) :
 ∀ m i j f, j - i <= m -> i + j + 1 = N -> (∀ k, k < N -> pq f k = if k < i ∨ j < k then g (N - 1 - k) else g k) -> P i j f
 | m, i, j, f, hm, hN, h => by
   by_cases hij : i < j
   ·match m, hm with
    | 0, hm => omega
    | m + 1, hm =>
      refine r1 i j f hij (by omega) (rev_ind r1 r2 m (i + 1) (j - 1) _ (by omega) (by omega) fun k hk => ?_)
      rw [pq_sw]
      by_cases k1 : k = j
      ·rw [if_pos k1, if_pos (by omega), h i (by omega), if_neg (by omega), show N - 1 - k = i by omega]
      ·rw [if_neg k1]
       by_cases k2 : k = i
       ·rw [if_pos k2, if_pos (by omega), h j (by omega), if_neg (by omega), show N - 1 - k = j by omega]
       ·rw [if_neg k2, h k hk]
        by_cases k3 : k < i ∨ j < k
        ·rw [if_pos k3, if_pos (by omega)]
        ·rw [if_neg k3, if_neg (by omega)]
   ·refine r2 i j f hij fun k hk => ?_
    rw [h k hk]
    by_cases k3 : k < i ∨ j < k
    ·rw [if_pos k3]
    ·rw [if_neg k3, show N - 1 - k = k by omega]
theorem chain_ind {base c : List P2} {PO : Nat -> Nat -> (Nat -> List V) -> Prop} {PI : Nat -> Nat -> Nat -> (Nat -> List V) -> Prop} {M : Nat} (hM : base.length + c.length <= M)
 (hO : ∀ i n fo, i < c.length -> n <= M -> PI i n n (elV ty2 fo) -> PO i n fo)
 (hpop : ∀ i n cap fo, i < c.length -> base.length + 1 < n -> n <= cap -> cap <= M -> (∀ k, k < n -> pq fo k ∈ base ∨ pq fo k ∈ c) -> sdp (pq fo (n - 2)) (pq fo (n - 1)) (pAt c i) <= 0 -> PI i (n - 1) cap (elV ty2 fo) -> PI i n cap fo)
 (happ : ∀ i n cap fo, i < c.length -> base.length <= n -> (∀ k, k < n -> pq fo k ∈ base ∨ pq fo k ∈ c) -> (base.length + 1 < n -> 0 < sdp (pq fo (n - 2)) (pq fo (n - 1)) (pAt c i)) -> n <= cap -> cap <= M -> PO (i + 1) (n + 1) (joinF n (elV ty2 fo) fun _ => pv2 (pAt c i)) -> PI i n cap fo)
 (hE : ∀ n fo, ptL n fo = base ++ (chainS [] c).reverse -> PO c.length n fo) :
 ∀ (l done st : List P2) (n : Nat) (fo : Nat -> List V), c = done ++ l -> chainS st l = chainS [] c -> ptL n fo = base ++ st.reverse -> st.length <= done.length -> (∀ q ∈ st, q ∈ c) -> PO done.length n fo
 | [], done, st, n, fo, h1, h2, h3, _, _ => by
   rw [List.append_nil] at h1
   rw [← h1]
   simp only [chainS] at h2
   exact hE n fo (by rw [h3, h2])
 | p :: l, done, st, n, fo, h1, h2, h3, h4, h5 => by
   have hlen : done.length < c.length := by rw [h1]; simp
   have hp : pAt c done.length = p := by
    have := pAt_some (l := c) hlen
    rw [h1, List.getElem?_append_right (Nat.le_refl _), Nat.sub_self] at this
    simp only [List.getElem?_cons_zero, Option.some.injEq] at this
    rw [h1]; exact this.symm
   have hnn : ∀ {st : List P2} {n fo}, ptL n fo = base ++ st.reverse -> n = base.length + st.length := fun {st n fo} h => by
    have := congrArg List.length h
    rwa [ptL_len, List.length_append, List.length_reverse] at this
   have hn := hnn h3
   have hpc : p ∈ c := by rw [h1]; simp
   have hel : ∀ {st : List P2} {n fo}, (∀ q ∈ st, q ∈ c) -> ptL n fo = base ++ st.reverse -> ∀ k, k < n -> pq fo k ∈ base ∨ pq fo k ∈ c := fun {st n fo} hs h k hk => by
    have : pq fo k ∈ base ++ st.reverse := by rw [← h]; exact ptL_mem.2 ⟨k, hk, rfl⟩
    rcases List.mem_append.1 this with h | h
    ·exact .inl h
    ·exact .inr (hs _ (List.mem_reverse.1 h))
   refine hO done.length n fo hlen (by omega) ?_
   have fin : ∀ (st' : List P2) (n : Nat) (fo : Nat -> List V), popS p st' = st' -> st'.length <= done.length -> (∀ q ∈ st', q ∈ c) -> popS p st' = popS p st -> ptL n fo = base ++ st'.reverse -> PO (done.length + 1) (n + 1) (joinF n (elV ty2 fo) fun _ => pv2 (pAt c done.length)) := fun st' n fo e0 hl' hs' e hl => by
    have := chain_ind hM hO hpop happ hE l (done ++ [p]) (p :: st') (n + 1) (joinF n (elV ty2 fo) fun _ => pv2 (pAt c done.length)) (by rw [h1]; simp) (by rw [← h2]; simp only [chainS]; rw [← e, e0]) (by rw [ptL_snoc, hl, hp]; simp) (by simp; omega) (fun q hq => by
     rcases List.mem_cons.1 hq with rfl | hq
     ·exact hpc
     ·exact hs' q hq)
    rwa [List.length_append, List.length_singleton] at this
   have key : ∀ (st' : List P2) (n : Nat) (fo : Nat -> List V), st'.length <= done.length -> (∀ q ∈ st', q ∈ c) -> popS p st' = popS p st -> ptL n fo = base ++ st'.reverse -> ∀ cap, n <= cap -> cap <= M -> PI done.length n cap fo := by
    intro st'
    induction st' with
    | nil =>
      intro n fo hsl hss hpop' hl cap hc hcM
      have hn' := hnn hl
      simp only [List.length_nil] at hn'
      refine happ done.length n cap fo hlen (by omega) (hel hss hl) (fun h => by omega) hc hcM (fin [] n fo rfl hsl hss hpop' hl)
    | cons b st' ih =>
      intro n fo hsl hss hpop' hl cap hc hcM
      cases st' with
      | nil =>
        have hn' := hnn hl
        simp only [List.length_cons, List.length_nil] at hn'
        exact happ done.length n cap fo hlen (by omega) (hel hss hl) (fun h => by omega) hc hcM (fin [b] n fo rfl hsl hss hpop' hl)
      | cons a l' =>
        have hn' := hnn hl
        simp only [List.length_cons] at hn'
        have e1 : pq fo (n - 1) = b := by
         have := ptL_at (f := fo) (n := n) (k := n - 1) (by omega)
         rw [hl, List.getElem?_append_right (by omega), List.reverse_cons, List.reverse_cons, List.getElem?_append_right (by simp; omega)] at this
         have e : n - 1 - base.length - (l'.reverse ++ [a]).length = 0 := by simp; omega
         rw [e] at this
         simp only [List.getElem?_cons_zero, Option.some.injEq] at this
         exact this.symm
        have e2 : pq fo (n - 2) = a := by
         have := ptL_at (f := fo) (n := n) (k := n - 2) (by omega)
         rw [hl, List.getElem?_append_right (by omega), List.reverse_cons, List.reverse_cons, List.getElem?_append_left (by simp; omega), List.getElem?_append_right (by simp; omega)] at this
         have e : n - 2 - base.length - l'.reverse.length = 0 := by simp; omega
         rw [e] at this
         simp only [List.getElem?_cons_zero, Option.some.injEq] at this
         exact this.symm
        by_cases hs : sdp a b p <= 0
        ·refine hpop done.length n cap fo hlen (by omega) hc hcM (hel hss hl) (by rw [e1, e2, hp]; exact hs) (ih (n - 1) _ (by simp only [List.length_cons] at hsl ⊢; omega) (fun q hq => hss q (List.mem_cons_of_mem _ hq)) ?_ ?_ cap (by omega) hcM)
         ·rw [← hpop']
          simp only [popS]
          rw [dqt hs]; rfl
         ·rw [ptL_el, ptL_take (n := n) (by omega), hl]
          rw [List.reverse_cons (a := b), ← List.append_assoc, List.take_append_of_le_length (by simp; omega), List.take_of_length_le (by simp; omega)]
        ·refine happ done.length n cap fo hlen (by omega) (hel hss hl) (fun _ => by rw [e1, e2, hp]; omega) hc hcM (fin (b :: a :: l') n fo ?_ hsl hss hpop' hl)
         simp only [popS]
         rw [dqf hs]; rfl
   exact key st n (elV ty2 fo) h4 h5 rfl h3 n (Nat.le_refl _) (by omega)
noncomputable section
def SmP (p : P2) : Prop := sm p.1 /\ sm p.2
theorem cmpT {a b : P2} (ha : SmP a) (hb : SmP b) : decide (F140_0 a.1 a.2 b.1 b.2 < 0) = true ↔ ltP a b := by
 unfold SmP sm at ha hb
 unfold F140_0 ltP
 rw [decide_eq_true_eq]
 by_cases h : a.1 = b.1
 ·have : (a.1 != b.1) = false := by simp [h]
  rw [this, cond_false, wrapI (by omega) (by omega)]; omega
 ·have : (a.1 != b.1) = true := by simp [h]
  rw [this, cond_true, wrapI (by omega) (by omega)]; omega
theorem sdT {a b p : P2} (ha : SmP a) (hb : SmP b) (hp : SmP p) : F78_0 a.1 a.2 b.1 b.2 p.1 p.2 = sdp a b p := by
 unfold F78_0; exact (sd_p ha.1 ha.2 hb.1 hb.2 hp.1 hp.2).1
theorem nrT {a b p : P2} {r : Int} (ha : SmP a) (hb : SmP b) (hp : SmP p) (h7 : 0 <= r) (h8 : r <= 1073741824) : F103_0 a.1 a.2 b.1 b.2 p.1 p.2 r = nrp a b p r := near_p ha.1 ha.2 hb.1 hb.2 hp.1 hp.2 h7 h8
theorem eqB (a b c d : Int) : (a == b && (c == d && true)) = decide (a = b /\ c = d) := by
 by_cases h1 : a = b <;> by_cases h2 : c = d <;> simp [h1, h2]
theorem wm1 {j : Nat} (h : 0 < j) (hj : j <= 1000) : IntKind.i64.wrap ((j : Int) - 1) = ((j - 1 : Nat) : Int) := by rw [wrapI (by omega) (by omega)]; omega
theorem wm2 {j : Nat} (h : 1 < j) (hj : j <= 1000) : IntKind.i64.wrap ((j : Int) - 2) = ((j - 2 : Nat) : Int) := by rw [wrapI (by omega) (by omega)]; omega
theorem wp1 {j : Nat} (hj : j <= 1000) : IntKind.i64.wrap ((j : Int) + 1) = ((j + 1 : Nat) : Int) := by rw [wrapI (by omega) (by omega)]; omega
theorem inStep {S : Type} {Nx : S -> V -> Prop} {r : V} {C b1 b2 b3 b4 s : Bool} {X Y Z : RT S} (hb : C = true -> b1 = true /\ b2 = true /\ b3 = true /\ b4 = true) (hX : C = true -> s = true -> evR Nx X r) (hY : C = true -> s = false -> evR Nx Y r) (hZ : C = false -> evR Nx Z r) :
 evR Nx (.obi (.obi (.obi (.obi (.obj C b1 (.obi (.obj C b2 (.obi (.obi (.obi (.obi (.obj C b3 (.obi (.obj C b4 (.obi (.obi (.br C (.ob C (.ob C (.obc (.obt (.br s X Y))))) Z))))))))))))))))) r :=
 evObi (evObi (evObi (evObi (evObj (fun h => (hb h).1) (evObi (evObj (fun h => (hb h).2.1) (evObi (evObi (evObi (evObi (evObj (fun h => (hb h).2.2.1) (evObi (evObj (fun h => (hb h).2.2.2) (evObi (evObi (evBr (fun h => evOb h (evOb h (evObc (evObt (evBr (hX h) (hY h)))))) hZ))))))))))))))))
def tpB (H : List P2) (m : P2) (r : Int) : Bool := @decide (TP H m r) (Classical.propDecidable _)
theorem tpB_t {H : List P2} {m : P2} {r : Int} (h : TP H m r) : tpB H m r = true := @dqt _ (Classical.propDecidable _) h
theorem tpB_f {H : List P2} {m : P2} {r : Int} (h : ¬ TP H m r) : tpB H m r = false := @dqf _ (Classical.propDecidable _) h
theorem app_ok {n cap : Nat} (h : n <= cap) (hc : cap <= 1000) : (decide (n <= cap /\ (n + 1) * 16 <= 140737488355328) && !Nat.beq 16 0) = true := by
 rw [Bool.and_eq_true]; exact ⟨dqt ⟨h, by omega⟩, rfl⟩
theorem ptL_pAt {n : Nat} {f : Nat -> List V} {k : Nat} (h : k < n) : pAt (ptL n f) k = pq f k := by
 have h1 := pAt_some (l := ptL n f) (i := k) (by rw [ptL_len]; exact h)
 rw [ptL_at h] at h1
 exact (Option.some.inj h1).symm
theorem hullL_eq {c : List P2} (h : 2 <= c.length) : hullL c = (chainS [] c).tail.reverse ++ (chainS [] c.reverse).tail.reverse := by
 match c, h with
 | a :: b :: l, _ => rfl
theorem SSr.cong {m : Nat} {f g : Nat -> List V} (h : SSr m f) (e : ∀ k, k < m -> pq g k = pq f k) : SSr m g := fun a b h1 h2 => by rw [e a (by omega), e b h2]; exact h a b h1 h2
theorem MemN.cong {m : Nat} {D : P2 -> Prop} {f g : Nat -> List V} (h : MemN m D f) (e : ∀ k, k < m -> pq g k = pq f k) : MemN m D g := fun q => by
 rw [h q]
 exact ⟨fun ⟨k, hk, h⟩ => ⟨k, hk, by rw [e k hk]; exact h⟩, fun ⟨k, hk, h⟩ => ⟨k, hk, by rw [← e k hk]; exact h⟩⟩
theorem pq_clr {f : Nat -> List V} {l : List V} {m n k : Nat} (h : k < m) : pq (fun i => bif Nat.ble m i && Nat.ble i.succ n then l else elV ty2 f i) k = pq f k := by
 unfold pq
 dsimp only
 have : Nat.ble m k = false := by
  cases hb : Nat.ble m k with
  | false => rfl
  | true => have := Nat.le_of_ble_eq_true hb; omega
 rw [this]; rfl
theorem ptL_pw {m : Nat} {f : Nat -> List V} (h : SSr m f) : (ptL m f).Pairwise ltP := by
 unfold ptL
 rw [List.pairwise_map]
 refine List.Pairwise.imp_of_mem ?_ (List.pairwise_lt_range (n := m))
 intro a b ha hb hab
 exact h a b hab (List.mem_range.1 hb)
theorem ptL_rev {m : Nat} {f g : Nat -> List V} (h : ∀ k, k < m -> pq g k = pq f (m - 1 - k)) : ptL m g = (ptL m f).reverse := by
 apply List.ext_getElem?
 intro k
 by_cases hk : k < m
 ·rw [ptL_at hk, List.getElem?_reverse (by rw [ptL_len]; exact hk), ptL_len, ptL_at (by omega), h k hk]
 ·rw [List.getElem?_eq_none (by rw [ptL_len]; omega), List.getElem?_eq_none (by rw [List.length_reverse, ptL_len]; omega)]
theorem ptL_cong {m : Nat} {f g : Nat -> List V} (h : ∀ k, k < m -> pq g k = pq f k) : ptL m g = ptL m f := by
 unfold ptL; exact List.map_congr_left fun k hk => h k (List.mem_range.1 hk)
theorem ptL_last {n : Nat} {f : Nat -> List V} {base st : List P2} (h : ptL n f = base ++ st.reverse) (hs : st ≠ []) : 0 < n /\ ptL (n - 1) f = base ++ st.tail.reverse /\ n = base.length + st.length /\ 0 < st.length := by
 have hl := congrArg List.length h
 rw [ptL_len, List.length_append, List.length_reverse] at hl
 match st, hs with
 | s :: l, _ =>
   simp only [List.length_cons] at hl
   refine ⟨by omega, ?_, by simp only [List.length_cons]; omega, by simp⟩
   rw [ptL_take (n := n) (by omega), h, List.reverse_cons, ← List.append_assoc, List.take_append_of_le_length (by simp; omega), List.take_of_length_le (by simp; omega)]; rfl
theorem popS_sub {p q : P2} : ∀ {st : List P2}, q ∈ popS p st -> q ∈ st
 | [], h => h
 | [s], h => h
 | b :: a :: l, h => by
   simp only [popS] at h
   cases hd : decide (sdp a b p <= 0) with
   | true => rw [hd] at h; exact List.mem_cons_of_mem _ (popS_sub h)
   | false => rw [hd] at h; exact h
theorem chainS_sub {q : P2} : ∀ {l st : List P2}, q ∈ chainS st l -> q ∈ st ∨ q ∈ l
 | [], st, h => .inl h
 | p :: l, st, h => by
   simp only [chainS] at h
   rcases chainS_sub h with h | h
   ·rcases List.mem_cons.1 h with rfl | h
    ·exact .inr (by simp)
    ·exact .inl (popS_sub h)
   ·exact .inr (List.mem_cons_of_mem _ h)
theorem chainS_ne : ∀ {l st : List P2}, st ≠ [] ∨ l ≠ [] -> chainS st l ≠ []
 | [], st, h => by
   rcases h with h | h
   ·exact h
   ·exact (h rfl).elim
 | p :: l, st, _ => chainS_ne (l := l) (.inl (by simp))
theorem popS_len {p : P2} : ∀ {st : List P2}, (popS p st).length <= st.length
 | [] => Nat.le_refl _
 | [_] => Nat.le_refl _
 | b :: a :: l => by
   simp only [popS]
   cases decide (sdp a b p <= 0) with
   | true => have := popS_len (p := p) (st := a :: l); simp only [List.length_cons, cond_true] at *; omega
   | false => exact Nat.le_refl _
theorem chainS_len : ∀ {l st : List P2}, (chainS st l).length <= st.length + l.length
 | [], st => Nat.le_refl _
 | p :: l, st => by
   simp only [chainS]
   have := chainS_len (l := l) (st := p :: popS p st)
   have := popS_len (p := p) (st := st)
   simp only [List.length_cons] at *; omega
theorem hullL_sub {q : P2} {c : List P2} (h : q ∈ hullL c) : q ∈ c := by
 match c, h with
 | [a], h => exact h
 | a :: b :: l, h =>
   rcases List.mem_append.1 h with h | h
   ·rcases chainS_sub (List.mem_of_mem_tail (List.mem_reverse.1 h)) with h | h
    ·cases h
    ·exact h
   ·rcases chainS_sub (List.mem_of_mem_tail (List.mem_reverse.1 h)) with h | h
    ·cases h
    ·exact List.mem_reverse.1 h
theorem hull2 {c : List P2} (h : c.length < 3) : hullL c = c := by
 match c, h with
 | [], _ => rfl
 | [a], _ => rfl
 | [a, b], _ => rfl
theorem hullL_pos {c : List P2} (hs : c.Pairwise ltP) (h : c ≠ []) : 0 < (hullL c).length := by
 match c, hs, h with
 | [a], _, _ => simp [hullL]
 | a :: b :: l, hs, _ =>
   obtain ⟨z, H⟩ := hull_of hs (by simp)
   have := H.lenA
   simp only [hullL, List.length_append, List.length_reverse, List.length_tail]; omega
def refB (L : List P2) (m : P2) (r : Int) : Bool := @decide (RefT (fun q => q ∈ L) m r) (Classical.propDecidable _)
theorem tp_refB {c L : List P2} (hs : c.Pairwise ltP) (h0 : c ≠ []) (hm : ∀ q, q ∈ L ↔ q ∈ c) {m : P2} {r : Int} (hr : 0 <= r) : tpB (hullL c) m r = refB L m r := by
 unfold tpB refB
 have : RefT (fun q => q ∈ L) m r ↔ TP (hullL c) m r := by
  rw [tp_iff hs h0 hr, show (fun q => q ∈ L) = fun q => q ∈ c from funext fun q => propext (hm q)]
 by_cases h : TP (hullL c) m r
 ·rw [@dqt _ (Classical.propDecidable _) h, @dqt _ (Classical.propDecidable _) (this.2 h)]
 ·rw [@dqf _ (Classical.propDecidable _) h, @dqf _ (Classical.propDecidable _) fun g => h (this.1 g)]
end
end Go.Dx
