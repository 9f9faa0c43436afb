/- Part 5 of a proof. No conditions. -/
import Derived.Test.YtkdokmjehblpoaaGreatDoorRk4
import Derived.WideMake
import Derived.Maps.RangeRun
import Derived.Deep.WholeRow
set_option maxRecDepth 100000
set_option linter.unusedVariables false
set_option linter.unusedSimpArgs false
namespace Go.Dx
open Go.IntKind (i64 u64 u8)
open Go.Sx Go.Proofs
noncomputable section
def nt : bc := (145, .con xY) :: rM
theorem lN : aX Tryz.prog eqs its nt := .con sS (tM)
def D3 (x0 x1 x2 x3 x4 x5 x6 x7 x8 : Int) : RT Empty := .obc (.obt (.brt (.obt (.obc (.obt (.br (bt x0 x1 x2 x3 x4 x5 x6) (.brt (.obt (.obc (.obt (.br (bt x0 x1 x2 x3 x4 x7 x6) (.brt (.obt (.obc (.obt (.br (bt x0 x1 x2 x3 x4 x7 x8) (.brt (.obt (.obc (.obt (.br (bt x0 x1 x2 x3 x4 x5 x8) (.brf (.brt (.ret (vi 2)))) (.brf (.brf (.brt (.ret (vi 1)))))))))) (.brt (.obt (.obc (.obt (.br (bt x0 x1 x2 x3 x4 x5 x8) (.brf (.brf (.brt (.ret (vi 1))))) (.brf (.brf (.brt (.ret (vi 1))))))))))))))) (.brt (.obt (.obc (.obt (.br (bt x0 x1 x2 x3 x4 x7 x8) (.brt (.obt (.obc (.obt (.br (bt x0 x1 x2 x3 x4 x5 x8) (.brf (.brf (.brt (.ret (vi 1))))) (.brf (.brf (.brt (.ret (vi 1)))))))))) (.brt (.obt (.obc (.obt (.br (bt x0 x1 x2 x3 x4 x5 x8) (.brf (.brf (.brt (.ret (vi 1))))) (.brf (.brf (.brt (.ret (vi 1)))))))))))))))))))) (.brt (.obt (.obc (.obt (.br (bt x0 x1 x2 x3 x4 x7 x6) (.brt (.obt (.obc (.obt (.br (bt x0 x1 x2 x3 x4 x7 x8) (.brt (.obt (.obc (.obt (.br (bt x0 x1 x2 x3 x4 x5 x8) (.brf (.brf (.brt (.ret (vi 1))))) (.brf (.brf (.brt (.ret (vi 1)))))))))) (.brt (.obt (.obc (.obt (.br (bt x0 x1 x2 x3 x4 x5 x8) (.brf (.brf (.brt (.ret (vi 1))))) (.brf (.brf (.brt (.ret (vi 1))))))))))))))) (.brt (.obt (.obc (.obt (.br (bt x0 x1 x2 x3 x4 x7 x8) (.brt (.obt (.obc (.obt (.br (bt x0 x1 x2 x3 x4 x5 x8) (.brf (.brf (.brt (.ret (vi 1))))) (.brf (.brf (.brt (.ret (vi 1)))))))))) (.brt (.obt (.obc (.obt (.br (bt x0 x1 x2 x3 x4 x5 x8) (.brf (.brf (.brt (.ret (vi 1))))) (.brf (.brf (.brf (.brt (.obt (.obc (.obt (.br (decide (dn (max (max (i64.wrap (i64.wrap (2 * x5) - x0)) 0) (i64.wrap (x0 - i64.wrap (2 * x7)))) (max (max (i64.wrap (i64.wrap (2 * x6) - x1)) 0) (i64.wrap (x1 - i64.wrap (2 * x8)))) (max (max (i64.wrap (i64.wrap (2 * x5) - x0)) 0) (i64.wrap (x0 - i64.wrap (2 * x7)))) (max (max (i64.wrap (i64.wrap (2 * x6) - x1)) 0) (i64.wrap (x1 - i64.wrap (2 * x8)))) <= i64.wrap (x4 * x4))) (.ret (vi 1)) (.brt (.obt (.obc (.obt (.br (decide (dn (max (max (i64.wrap (i64.wrap (2 * x5) - x2)) 0) (i64.wrap (x2 - i64.wrap (2 * x7)))) (max (max (i64.wrap (i64.wrap (2 * x6) - x3)) 0) (i64.wrap (x3 - i64.wrap (2 * x8)))) (max (max (i64.wrap (i64.wrap (2 * x5) - x2)) 0) (i64.wrap (x2 - i64.wrap (2 * x7)))) (max (max (i64.wrap (i64.wrap (2 * x6) - x3)) 0) (i64.wrap (x3 - i64.wrap (2 * x8)))) <= i64.wrap (x4 * x4))) (.ret (vi 1)) (.brf (.obc (.obt (.br (mO x0 x1 x2 x3 x5 x6 x7 x8) (.ret (vi 1)) (.ret (vi 0))))))))))))))))))))))))))))))))))))))))
theorem CA (x0 x1 x2 x3 x4 x5 x6 x7 x8 : Int) : Fit noD (aY JJ nt u5 Hd [V.agg [vi x0, vi x1, vi x2, vi x3, vi x4], V.agg [vi x5, vi x6, vi x7, vi x8]]) (D3 x0 x1 x2 x3 x4 x5 x6 x7 x8) := ⟨by kernel_rfl, by kernel_rfl⟩
def bS (x0 x1 x2 x3 x4 x5 x6 x7 x8 : Int) : Int := bif bt x0 x1 x2 x3 x4 x5 x6 then bif bt x0 x1 x2 x3 x4 x7 x6 then bif bt x0 x1 x2 x3 x4 x7 x8 then bif bt x0 x1 x2 x3 x4 x5 x8 then 2 else 1 else 1 else 1 else bif bt x0 x1 x2 x3 x4 x7 x6 then 1 else bif bt x0 x1 x2 x3 x4 x7 x8 then 1 else bif bt x0 x1 x2 x3 x4 x5 x8 then 1 else bif decide (dn (max (max (i64.wrap (i64.wrap (2 * x5) - x0)) 0) (i64.wrap (x0 - i64.wrap (2 * x7)))) (max (max (i64.wrap (i64.wrap (2 * x6) - x1)) 0) (i64.wrap (x1 - i64.wrap (2 * x8)))) (max (max (i64.wrap (i64.wrap (2 * x5) - x0)) 0) (i64.wrap (x0 - i64.wrap (2 * x7)))) (max (max (i64.wrap (i64.wrap (2 * x6) - x1)) 0) (i64.wrap (x1 - i64.wrap (2 * x8)))) <= i64.wrap (x4 * x4)) then 1 else bif decide (dn (max (max (i64.wrap (i64.wrap (2 * x5) - x2)) 0) (i64.wrap (x2 - i64.wrap (2 * x7)))) (max (max (i64.wrap (i64.wrap (2 * x6) - x3)) 0) (i64.wrap (x3 - i64.wrap (2 * x8)))) (max (max (i64.wrap (i64.wrap (2 * x5) - x2)) 0) (i64.wrap (x2 - i64.wrap (2 * x7)))) (max (max (i64.wrap (i64.wrap (2 * x6) - x3)) 0) (i64.wrap (x3 - i64.wrap (2 * x8)))) <= i64.wrap (x4 * x4)) then 1 else bif mO x0 x1 x2 x3 x5 x6 x7 x8 then 1 else 0
def fw (x0 x1 x2 x3 x4 x5 x6 x7 x8 : Int) : V := .int i64 (bS x0 x1 x2 x3 x4 x5 x6 x7 x8)
theorem EJ (x0 x1 x2 x3 x4 x5 x6 x7 x8 : Int) : evR noE (D3 x0 x1 x2 x3 x4 x5 x6 x7 x8) (fw x0 x1 x2 x3 x4 x5 x6 x7 x8) := ao (evObt (bp (evObt (ao (evObt (aL (fun h0 => bp (evObt (ao (evObt (aL (fun h1 => bp (evObt (ao (evObt (aL (fun h2 => bp (evObt (ao (evObt (aL (fun h3 => bz (bp (evRet (by unfold fw bS; try rw [h0]; try rw [h1]; try rw [h2]; try rw [h3]; rfl)))) (fun h3 => bz (bz (bp (evRet (by unfold fw bS; try rw [h0]; try rw [h1]; try rw [h2]; try rw [h3]; rfl)))))))))) (fun h2 => bp (evObt (ao (evObt (aL (fun h3 => bz (bz (bp (evRet (by unfold fw bS; try rw [h0]; try rw [h1]; try rw [h2]; try rw [h3]; rfl))))) (fun h3 => bz (bz (bp (evRet (by unfold fw bS; try rw [h0]; try rw [h1]; try rw [h2]; try rw [h3]; rfl))))))))))))))) (fun h1 => bp (evObt (ao (evObt (aL (fun h2 => bp (evObt (ao (evObt (aL (fun h3 => bz (bz (bp (evRet (by unfold fw bS; try rw [h0]; try rw [h1]; try rw [h2]; try rw [h3]; rfl))))) (fun h3 => bz (bz (bp (evRet (by unfold fw bS; try rw [h0]; try rw [h1]; try rw [h2]; try rw [h3]; rfl)))))))))) (fun h2 => bp (evObt (ao (evObt (aL (fun h3 => bz (bz (bp (evRet (by unfold fw bS; try rw [h0]; try rw [h1]; try rw [h2]; try rw [h3]; rfl))))) (fun h3 => bz (bz (bp (evRet (by unfold fw bS; try rw [h0]; try rw [h1]; try rw [h2]; try rw [h3]; rfl)))))))))))))))))))) (fun h0 => bp (evObt (ao (evObt (aL (fun h1 => bp (evObt (ao (evObt (aL (fun h2 => bp (evObt (ao (evObt (aL (fun h3 => bz (bz (bp (evRet (by unfold fw bS; try rw [h0]; try rw [h1]; try rw [h2]; try rw [h3]; rfl))))) (fun h3 => bz (bz (bp (evRet (by unfold fw bS; try rw [h0]; try rw [h1]; try rw [h2]; try rw [h3]; rfl)))))))))) (fun h2 => bp (evObt (ao (evObt (aL (fun h3 => bz (bz (bp (evRet (by unfold fw bS; try rw [h0]; try rw [h1]; try rw [h2]; try rw [h3]; rfl))))) (fun h3 => bz (bz (bp (evRet (by unfold fw bS; try rw [h0]; try rw [h1]; try rw [h2]; try rw [h3]; rfl))))))))))))))) (fun h1 => bp (evObt (ao (evObt (aL (fun h2 => bp (evObt (ao (evObt (aL (fun h3 => bz (bz (bp (evRet (by unfold fw bS; try rw [h0]; try rw [h1]; try rw [h2]; try rw [h3]; rfl))))) (fun h3 => bz (bz (bp (evRet (by unfold fw bS; try rw [h0]; try rw [h1]; try rw [h2]; try rw [h3]; rfl)))))))))) (fun h2 => bp (evObt (ao (evObt (aL (fun h3 => bz (bz (bp (evRet (by unfold fw bS; try rw [h0]; try rw [h1]; try rw [h2]; try rw [h3]; rfl))))) (fun h3 => bz (bz (bz (bp (evObt (ao (evObt (aL (fun h4 => evRet (by unfold fw bS; try rw [h0]; try rw [h1]; try rw [h2]; try rw [h3]; try rw [h4]; rfl)) (fun h4 => bp (evObt (ao (evObt (aL (fun h5 => evRet (by unfold fw bS; try rw [h0]; try rw [h1]; try rw [h2]; try rw [h3]; try rw [h4]; try rw [h5]; rfl)) (fun h5 => bz (ao (evObt (aL (fun h6 => evRet (by unfold fw bS; try rw [h0]; try rw [h1]; try rw [h2]; try rw [h3]; try rw [h4]; try rw [h5]; try rw [h6]; rfl)) (fun h6 => evRet (by unfold fw bS; try rw [h0]; try rw [h1]; try rw [h2]; try rw [h3]; try rw [h4]; try rw [h5]; try rw [h6]; rfl))))))))))))))))))))))))))))))))))))))))
def wH : aI := mkC [.agg tyT, .agg tp4] (fun _ => True) fun
 | [.agg [.int _ x0, .int _ x1, .int _ x2, .int _ x3, .int _ x4], .agg [.int _ x5, .int _ x6, .int _ x7, .int _ x8]] => fw x0 x1 x2 x3 x4 x5 x6 x7 x8
 | _ => .any
theorem tJ : (vP wH).Ok Tryz.prog 111 := mkE lN Tryz.func111 (by kernel_rfl) fun ds hp => rf0 (CA ..) (EJ _ _ _ _ _ _ _ _ _)
def m56 (x0 x1 x2 x3 x4 x5 x6 x7 x8 x9 : Int) (b10 : Bool) : RT Empty := .obc (.obt (.ret (V.bool !l4 x2 x3 x4 x5 x6 x7 x8 x9 b10 x0 x1)))
theorem Eo (x0 x1 x2 x3 x4 x5 x6 x7 x8 x9 : Int) (b10 : Bool) : Fit noD (aY JJ nt u0 s56 [V.agg [vi x0, vi x1], V.pd [vi x2, vi x3, vi x4, vi x5, vi x6, vi x7, vi x8, vi x9, V.bool b10]]) (m56 x0 x1 x2 x3 x4 x5 x6 x7 x8 x9 b10) := ⟨by kernel_rfl, by kernel_rfl⟩
def tW (x0 x1 x2 x3 x4 x5 x6 x7 x8 x9 : Int) (b10 : Bool) : Bool := !l4 x2 x3 x4 x5 x6 x7 x8 x9 b10 x0 x1
def R56 (x0 x1 x2 x3 x4 x5 x6 x7 x8 x9 : Int) (b10 : Bool) : V := .bool (tW x0 x1 x2 x3 x4 x5 x6 x7 x8 x9 b10)
theorem HE (x0 x1 x2 x3 x4 x5 x6 x7 x8 x9 : Int) (b10 : Bool) : evR noE (m56 x0 x1 x2 x3 x4 x5 x6 x7 x8 x9 b10) (R56 x0 x1 x2 x3 x4 x5 x6 x7 x8 x9 b10) := ao (evObt (evRet (by unfold R56 tW; rfl)))
def C56 : aI := mkC [.agg tp2, .pd [.int .i64, .int .i64, .int .i64, .int .i64, .int .i64, .int .i64, .int .i64, .int .i64, .bool]] (fun _ => True) fun
 | [.agg [.int _ x0, .int _ x1], .pd [.int _ x2, .int _ x3, .int _ x4, .int _ x5, .int _ x6, .int _ x7, .int _ x8, .int _ x9, .bool b10]] => R56 x0 x1 x2 x3 x4 x5 x6 x7 x8 x9 b10
 | _ => .any
theorem y5 : (vP C56).Ok Tryz.prog 56 := mkE lN Tryz.func56 (by kernel_rfl) fun ds hp => rf0 (Eo ..) (HE _ _ _ _ _ _ _ _ _ _ _)
def m47 (x0 x1 x2 x3 x4 : Int) (n5 : Nat) (f5 : FnV) (n7 : Nat) (f7 : FnV) (n9 : Nat) (f9 : FnV) (n11 : Nat) (f11 : FnV) (x13 x14 x15 : Int) : RT Empty := .ob (decide (0 <= x13 /\ x13 < (↑n11 : Int))) (.obc (.obt (.obc (.obt (.ret (V.bool (l4 (jv1 (f11 x13.toNat)) (jv2 (f11 x13.toNat)) (jv3 (f11 x13.toNat)) (tN (jv3 (f11 x13.toNat)) x4) (tw (jv3 (f11 x13.toNat)) x3) (tI (jv3 (f11 x13.toNat)) x0) (sY (jv3 (f11 x13.toNat)) x1) (sG (jv3 (f11 x13.toNat)) x2) (sX (jv3 (f11 x13.toNat)) x3) x14 x15)))))))
theorem FC (x0 x1 x2 x3 x4 : Int) (n5 : Nat) (f5 : FnV) (n7 : Nat) (f7 : FnV) (n9 : Nat) (f9 : FnV) (n11 : Nat) (f11 : FnV) (x13 x14 x15 : Int) : Fit noD (aY JJ nt u0 s47 [V.agg [vi x0, vi x1, vi x2, vi x3, vi x4], V.pd [V.sl n5 (elV tyR f5), V.sl n7 (elV tyT f7), V.sl n9 (elV tyF f9), V.sl n11 (elV tyC f11)], V.pd [vi x13], V.pd [vi x14], V.pd [vi x15]]) (m47 x0 x1 x2 x3 x4 n5 f5 n7 f7 n9 f9 n11 f11 x13 x14 x15) := ⟨by kernel_rfl, by kernel_rfl⟩
def sB (x0 x1 x2 x3 x4 : Int) (f11 : FnV) (x13 x14 x15 : Int) : Bool := l4 (jv1 (f11 x13.toNat)) (jv2 (f11 x13.toNat)) (jv3 (f11 x13.toNat)) (tN (jv3 (f11 x13.toNat)) x4) (tw (jv3 (f11 x13.toNat)) x3) (tI (jv3 (f11 x13.toNat)) x0) (sY (jv3 (f11 x13.toNat)) x1) (sG (jv3 (f11 x13.toNat)) x2) (sX (jv3 (f11 x13.toNat)) x3) x14 x15
def R47 (x0 x1 x2 x3 x4 : Int) (n5 : Nat) (f5 : FnV) (n7 : Nat) (f7 : FnV) (n9 : Nat) (f9 : FnV) (n11 : Nat) (f11 : FnV) (x13 x14 x15 : Int) : V := .bool (sB x0 x1 x2 x3 x4 f11 x13 x14 x15)
theorem Ia (x0 x1 x2 x3 x4 : Int) (n5 : Nat) (f5 : FnV) (n7 : Nat) (f7 : FnV) (n9 : Nat) (f9 : FnV) (n11 : Nat) (f11 : FnV) (x13 x14 x15 : Int) (hp : 0 <= x13 /\ x13 < (n11 : Int)) : evR noE (m47 x0 x1 x2 x3 x4 n5 f5 n7 f7 n9 f9 n11 f11 x13 x14 x15) (R47 x0 x1 x2 x3 x4 n5 f5 n7 f7 n9 f9 n11 f11 x13 x14 x15) := aD (by first | assumption | (exact dqt hp)) (ao (evObt (ao (evObt (evRet (by unfold R47 sB; rfl))))))
def C47 : aI := mkC [.agg tyT, .pd [.sl tyR, .sl tyT, .sl tyF, .sl tyC], .pd tp1, .pd tp1, .pd tp1] (fun
 | [.agg [.int _ x0, .int _ x1, .int _ x2, .int _ x3, .int _ x4], .pd [.sl n5 f5, .sl n7 f7, .sl n9 f9, .sl n11 f11], .pd [.int _ x13], .pd [.int _ x14], .pd [.int _ x15]] => 0 <= x13 /\ x13 < (n11 : Int)
 | _ => False) fun
 | [.agg [.int _ x0, .int _ x1, .int _ x2, .int _ x3, .int _ x4], .pd [.sl n5 f5, .sl n7 f7, .sl n9 f9, .sl n11 f11], .pd [.int _ x13], .pd [.int _ x14], .pd [.int _ x15]] => R47 x0 x1 x2 x3 x4 n5 f5 n7 f7 n9 f9 n11 f11 x13 x14 x15
 | _ => .any
theorem Ab : (vP C47).Ok Tryz.prog 47 := mkE lN Tryz.func47 (by kernel_rfl) fun ds hp => rf0 (FC ..) (Ia _ _ _ _ _ _ _ _ _ _ _ _ _ _ _ _ hp)
end
end Go.Dx
namespace Go.Dx
open Go.IntKind (i64 u64 u8)
open Go.Sx
section
variable {S : Type} {step : S -> RT S}
theorem yO {L : Int -> S} {n : Nat} {p : Nat -> Bool} {Q : Nat -> Prop} {ρ : Rho} (W : Nat -> RT S -> RT S) (hW : ∀ i x r, Q i -> evR (Ev step) x r -> evR (Ev step) (W i x) r) (hWn : ∀ i x, bR (W i x) = bR x) (hn : n <= 9223372036854775807) (hQ : ∀ i, i < n -> Q i)
 (hst : ∀ i : Nat, step (L i) = .br (decide ((i : Int) < (n : Int))) (.ob (decide (0 <= (i : Int) /\ (i : Int) < (n : Int))) (W i (.br (p i) (.ret (.int .i64 i)) (.next ρ (L (i64.wrap ((i : Int) + 1))) [])))) (.ret (.int .i64 (-1)))) :
 Ev step (L 0) (.int .i64 (idx n p)) :=
 ER hn p (P := fun i => Ev step (L i) (.int .i64 (idx n p))) (fun i hlt hj next => Ev.of (by rw [hst]; simp only [bR, hWn, Bool.and_self]) (by
  rw [hst]
  refine xT hlt (xi hlt (hW i _ _ (hQ i hlt) (aL (fun hb => evRet ?_) (fun hb => cv (next hb)))))
  rw [mt hb hlt hj])) (fun hj => Ev.of (by rw [hst]; simp only [bR, hWn, Bool.and_self]) (by
  rw [hst]
  refine kq (evRet ?_)
  rw [mN hj]))
end
end Go.Dx
namespace Go.Dx
open Go.IntKind (i64 u64 u8)
open Go.Sx
def qR (p : Nat -> Int) : Nat -> Int
 | 0 => 0
 | k + 1 => max (qR p k) (p k)
section
variable {S : Type} {step : S -> RT S}
theorem uO {L : Int -> Nat -> Int -> S} {n : Nat} {p : Nat -> Int} {ρ : Rho} {l : Nat} (hn : n <= 9223372036854775807)
 (hst : ∀ (i : Nat) (a : Int), i64.wrap ((i : Int) + 1) = ((i + 1 : Nat) : Int) -> step (L i l a) = .br (decide ((i : Int) < i64.wrap ((n : Int) - 1))) (.ob (decide (0 <= (i : Int) /\ (i : Int) < (n : Int))) (.ob (decide (0 <= i64.wrap ((i : Int) + 1) /\ i64.wrap ((i : Int) + 1) < (n : Int))) (.obt (.obt (.obt (.obt (.obc (.obt (.next ρ (L (i64.wrap ((i : Int) + 1)) l (max a (p i))) [])))))))) ) (.ret (.int .i64 a))) :
 Ev step (L 0 l 0) (.int .i64 (qR p (n - 1))) := by
 have w0 : i64.wrap ((n : Int) - 1) = (n : Int) - 1 := bW (by omega) (by omega)
 have key := dH (n := n - 1) (P := fun i => Ev step (L i l (qR p i)) (.int .i64 (qR p (n - 1)))) fun i hi ih => by
  have w1 : i64.wrap ((i : Int) + 1) = ((i + 1 : Nat) : Int) := by rw [bW (by omega) (by omega)]; omega
  refine Ev.of (by rw [hst i _ w1]; rfl) ?_
  rw [hst i _ w1]
  by_cases hlt : i < n - 1
  ·refine mH (decide_eq_true (by rw [w0]; omega)) (aD (decide_eq_true (by omega)) (aD (decide_eq_true (by rw [w1]; omega)) (evObt (evObt (evObt (evObt (ao (evObt (cv ?_)))))))))
   rw [w1]; exact ih hlt
  ·refine pY (decide_eq_false (by rw [w0]; omega)) (evRet ?_)
   have : i = n - 1 := by omega
   subst this; rfl
 exact key 0 (Nat.zero_le _)
theorem vb {L : Int -> Nat -> S} {n : Nat} {p : Nat -> Bool} {ρ : Rho} {l : Nat} (hn : n <= 9223372036854775807)
 (hst : ∀ i : Nat, i64.wrap ((i : Int) + 1) = ((i + 1 : Nat) : Int) -> step (L i l) = .br (decide ((i : Int) < i64.wrap ((n : Int) - 1))) (.ob (decide (0 <= (i : Int) /\ (i : Int) < (n : Int))) (.ob (decide (0 <= i64.wrap ((i : Int) + 1) /\ i64.wrap ((i : Int) + 1) < (n : Int))) (.obt (.obt (.obt (.obt (.obc (.obt (.br (p i) (.ret (.kb true)) (.next ρ (L (i64.wrap ((i : Int) + 1)) l) []))))))))) ) (.ret (.kb false))) :
 Ev step (L 0 l) (.bool (exB (n - 1) p)) := by
 have w0 : i64.wrap ((n : Int) - 1) = (n : Int) - 1 := bW (by omega) (by omega)
 have key := dH (n := n - 1) (P := fun i => (∀ j, j < i -> p j = false) -> Ev step (L i l) (.bool (exB (n - 1) p))) fun i hi ih hj => by
  have w1 : i64.wrap ((i : Int) + 1) = ((i + 1 : Nat) : Int) := by rw [bW (by omega) (by omega)]; omega
  refine Ev.of (by rw [hst i w1]; rfl) ?_
  rw [hst i w1]
  by_cases hlt : i < n - 1
  ·refine mH (decide_eq_true (by rw [w0]; omega)) (aD (decide_eq_true (by omega)) (aD (decide_eq_true (by rw [w1]; omega)) (evObt (evObt (evObt (evObt (ao (evObt (aL (fun hb => evRet ?_) (fun hb => cv ?_))))))))))
   ·rw [eK i hlt hb]; rfl
   ·rw [w1]; exact ih hlt fun j h1 => by
     by_cases e : j = i
     ·subst e; exact hb
     ·exact hj j (by omega)
  ·refine pY (decide_eq_false (by rw [w0]; omega)) (evRet ?_)
   have : i = n - 1 := by omega
   subst this
   rw [eE hj]; rfl
 exact key 0 (Nat.zero_le _) fun j hj => by omega
end
end Go.Dx
namespace Go.Dx
open Go.IntKind (i64 u64 u8)
open Go.Sx
end Go.Dx
namespace Go.Dx
open Go.IntKind (i64 u64 u8)
end Go.Dx
namespace Go.Dx
open Go.IntKind (i64 u64 u8)
open Go.Sx Go.Proofs
noncomputable section
def m9 : bc := (111, .con wH) :: (56, .con C56) :: (47, .con C47) :: nt
theorem tz : aX Tryz.prog eqs its m9 := .con tJ (.con y5 (.con Ab (lN)))
inductive qX where
 | L0 (ia0 : Int)
def B1 (n0 : Nat) (f0 : FnV) (x2 x3 x4 x5 x6 x7 x8 x9 : Int) (b10 : Bool) : qX -> Env × List O × Option Ex
 | .L0 ia0 => ([(8, vi ia0), (7, vi (↑n0 : Int)), (6, V.sl n0 (elV tp2 f0)), (4, vi 0), (0, V.sl n0 (elV tp2 f0)), (1, V.fn 56 [] [V.pd [vi x2, vi x3, vi x4, vi x5, vi x6, vi x7, vi x8, vi x9, V.bool b10]])], [], none)
def Da : qX -> JJ
 | .L0 ia0 => (0, [])
def AL (n0 : Nat) (f0 : FnV) (x2 x3 x4 x5 x6 x7 x8 x9 : Int) (b10 : Bool) : T (bQ JJ) := aY JJ m9 u0 HF [V.sl n0 (elV tp2 f0), V.fn 56 [] [V.pd [vi x2, vi x3, vi x4, vi x5, vi x6, vi x7, vi x8, vi x9, V.bool b10]]]
def tj (n0 : Nat) (f0 : FnV) (x2 x3 x4 x5 x6 x7 x8 x9 : Int) (b10 : Bool) (cx : List Cx) : Lp JJ := lpT (atT (AL n0 f0 x2 x3 x4 x5 x6 x7 x8 x9 b10) [])
def Dr (n0 : Nat) (f0 : FnV) (x2 x3 x4 x5 x6 x7 x8 x9 : Int) (b10 : Bool) : JJ -> Lp JJ
 | (0, cx) => tj n0 f0 x2 x3 x4 x5 x6 x7 x8 x9 b10 cx
 | (_, cx) => tj n0 f0 x2 x3 x4 x5 x6 x7 x8 x9 b10 cx
def GL (n0 : Nat) (f0 : FnV) (x2 x3 x4 x5 x6 x7 x8 x9 : Int) (b10 : Bool) : LD JJ qX := ⟨Da, Dr n0 f0 x2 x3 x4 x5 x6 x7 x8 x9 b10, B1 n0 f0 x2 x3 x4 x5 x6 x7 x8 x9 b10⟩
def yh (n0 : Nat) (f0 : FnV) (x2 x3 x4 x5 x6 x7 x8 x9 : Int) (b10 : Bool) : qX -> RT qX
 | .L0 ia0 => .br (decide (ia0 < (↑n0 : Int))) (.ob (decide (0 <= ia0 /\ ia0 < (↑n0 : Int))) (.obc (.obt (.br (tW (jv0 (f0 ia0.toNat)) (jv1 (f0 ia0.toNat)) x2 x3 x4 x5 x6 x7 x8 x9 b10) (.ret (vi ia0)) (.next [] (qX.L0 (i64.wrap (ia0 + 1))) []))))) (.ret (vi (-1)))
def CS (n0 : Nat) (f0 : FnV) (x2 x3 x4 x5 x6 x7 x8 x9 : Int) (b10 : Bool) : RT qX := .asm (true = true -> n0 <= 9223372036854775807) (.enter [] (qX.L0 (0)) [])
theorem Bi (n0 : Nat) (f0 : FnV) (x2 x3 x4 x5 x6 x7 x8 x9 : Int) (b10 : Bool) : iC m9 u0 (GL n0 f0 x2 x3 x4 x5 x6 x7 x8 x9 b10) (AL n0 f0 x2 x3 x4 x5 x6 x7 x8 x9 b10) (CS n0 f0 x2 x3 x4 x5 x6 x7 x8 x9 b10) (yh n0 f0 x2 x3 x4 x5 x6 x7 x8 x9 b10) := ⟨⟨by kernel_rfl, by kernel_rfl⟩, fun s => by cases s <;> exact ⟨by kernel_rfl, by kernel_rfl⟩⟩
def yn (n0 : Nat) (f0 : FnV) (x2 x3 x4 x5 x6 x7 x8 x9 : Int) (b10 : Bool) : Int   := idx n0 fun ii => tW (jv0 (f0 ii)) (jv1 (f0 ii)) x2 x3 x4 x5 x6 x7 x8 x9 b10
theorem zH (n0 : Nat) (f0 : FnV) (x2 x3 x4 x5 x6 x7 x8 x9 : Int) (b10 : Bool) : evR (Ev (yh n0 f0 x2 x3 x4 x5 x6 x7 x8 x9 b10)) (CS n0 f0 x2 x3 x4 x5 x6 x7 x8 x9 b10) (.int .i64 (yn n0 f0 x2 x3 x4 x5 x6 x7 x8 x9 b10)) := da fun hn => bo (j6 hn fun i => rfl)
theorem Fj (n0 : Nat) (f0 : FnV) (x2 x3 x4 x5 x6 x7 x8 x9 : Int) (b10 : Bool) : evR (Ev (yh n0 f0 x2 x3 x4 x5 x6 x7 x8 x9 b10)) (CS n0 f0 x2 x3 x4 x5 x6 x7 x8 x9 b10) (.int .i64 (yn n0 (elV tp2 f0) x2 x3 x4 x5 x6 x7 x8 x9 b10)) := zH n0 f0 x2 x3 x4 x5 x6 x7 x8 x9 b10
def yS : aI := mkC [.sl tp2, .fn 56 [] [.pd [.int .i64, .int .i64, .int .i64, .int .i64, .int .i64, .int .i64, .int .i64, .int .i64, .bool]]] (fun _ => True) fun
 | [.sl n0 f0, .fn _ [] [.pd [.int _ x2, .int _ x3, .int _ x4, .int _ x5, .int _ x6, .int _ x7, .int _ x8, .int _ x9, .bool b10]]] => .int .i64 (yn n0 f0 x2 x3 x4 x5 x6 x7 x8 x9 b10)
 | _ => .any
theorem wE : (vP yS).Ok Tryz.prog 108 := mkE tz Tryz.func108 (by kernel_rfl) fun ds hp => rfs (Bi ..) (Fj _ _ _ _ _ _ _ _ _ _ _)
inductive S46 where
 | L0 (ia0 : Int)
def EX (n0 : Nat) (f0 : FnV) (n2 : Nat) (f2 : FnV) (n4 : Nat) (f4 : FnV) (n6 : Nat) (f6 : FnV) (n8 : Nat) (f8 : FnV) (x10 x11 x12 : Int) : S46 -> Env × List O × Option Ex
 | .L0 ia0 => ([(8, vi ia0), (7, vi (↑n0 : Int)), (6, V.sl n0 (elV tyT f0)), (4, vi 0), (0, V.sl n0 (elV tyT f0)), (1, V.fn 47 [] [V.pd [V.sl n2 (elV tyR f2), V.sl n4 (elV tyT f4), V.sl n6 (elV tyF f6), V.sl n8 (elV tyC f8)], V.pd [vi x10], V.pd [vi x11], V.pd [vi x12]])], [], none)
def GS : S46 -> JJ
 | .L0 ia0 => (0, [])
def FP (n0 : Nat) (f0 : FnV) (n2 : Nat) (f2 : FnV) (n4 : Nat) (f4 : FnV) (n6 : Nat) (f6 : FnV) (n8 : Nat) (f8 : FnV) (x10 x11 x12 : Int) : T (bQ JJ) := aY JJ m9 u0 s46 [V.sl n0 (elV tyT f0), V.fn 47 [] [V.pd [V.sl n2 (elV tyR f2), V.sl n4 (elV tyT f4), V.sl n6 (elV tyF f6), V.sl n8 (elV tyC f8)], V.pd [vi x10], V.pd [vi x11], V.pd [vi x12]]]
def vY (n0 : Nat) (f0 : FnV) (n2 : Nat) (f2 : FnV) (n4 : Nat) (f4 : FnV) (n6 : Nat) (f6 : FnV) (n8 : Nat) (f8 : FnV) (x10 x11 x12 : Int) (cx : List Cx) : Lp JJ := lpT (atT (FP n0 f0 n2 f2 n4 f4 n6 f6 n8 f8 x10 x11 x12) [])
def Hy (n0 : Nat) (f0 : FnV) (n2 : Nat) (f2 : FnV) (n4 : Nat) (f4 : FnV) (n6 : Nat) (f6 : FnV) (n8 : Nat) (f8 : FnV) (x10 x11 x12 : Int) : JJ -> Lp JJ
 | (0, cx) => vY n0 f0 n2 f2 n4 f4 n6 f6 n8 f8 x10 x11 x12 cx
 | (_, cx) => vY n0 f0 n2 f2 n4 f4 n6 f6 n8 f8 x10 x11 x12 cx
def D46 (n0 : Nat) (f0 : FnV) (n2 : Nat) (f2 : FnV) (n4 : Nat) (f4 : FnV) (n6 : Nat) (f6 : FnV) (n8 : Nat) (f8 : FnV) (x10 x11 x12 : Int) : LD JJ S46 := ⟨GS, Hy n0 f0 n2 f2 n4 f4 n6 f6 n8 f8 x10 x11 x12, EX n0 f0 n2 f2 n4 f4 n6 f6 n8 f8 x10 x11 x12⟩
def BG (n0 : Nat) (f0 : FnV) (n2 : Nat) (f2 : FnV) (n4 : Nat) (f4 : FnV) (n6 : Nat) (f6 : FnV) (n8 : Nat) (f8 : FnV) (x10 x11 x12 : Int) : S46 -> RT S46
 | .L0 ia0 => .br (decide (ia0 < (↑n0 : Int))) (.ob (decide (0 <= ia0 /\ ia0 < (↑n0 : Int))) (.obp ((0 : Int) <= x10 /\ x10 < (↑n8 : Int)) (.obt (.br (sB (jv0 (f0 ia0.toNat)) (jv1 (f0 ia0.toNat)) (jv2 (f0 ia0.toNat)) (jv3 (f0 ia0.toNat)) (jv4 (f0 ia0.toNat)) (elV tyC f8) x10 x11 x12) (.ret (vi ia0)) (.next [] (S46.L0 (i64.wrap (ia0 + 1))) []))))) (.ret (vi (-1)))
def m46 (n0 : Nat) (f0 : FnV) (n2 : Nat) (f2 : FnV) (n4 : Nat) (f4 : FnV) (n6 : Nat) (f6 : FnV) (n8 : Nat) (f8 : FnV) (x10 x11 x12 : Int) : RT S46 := .asm (true = true -> n0 <= 9223372036854775807) (.enter [] (S46.L0 (0)) [])
theorem F9 (n0 : Nat) (f0 : FnV) (n2 : Nat) (f2 : FnV) (n4 : Nat) (f4 : FnV) (n6 : Nat) (f6 : FnV) (n8 : Nat) (f8 : FnV) (x10 x11 x12 : Int) : iC m9 u0 (D46 n0 f0 n2 f2 n4 f4 n6 f6 n8 f8 x10 x11 x12) (FP n0 f0 n2 f2 n4 f4 n6 f6 n8 f8 x10 x11 x12) (m46 n0 f0 n2 f2 n4 f4 n6 f6 n8 f8 x10 x11 x12) (BG n0 f0 n2 f2 n4 f4 n6 f6 n8 f8 x10 x11 x12) := ⟨⟨by kernel_rfl, by kernel_rfl⟩, fun s => by cases s <;> exact ⟨by kernel_rfl, by kernel_rfl⟩⟩
def F46 (n0 : Nat) (f0 f8 : FnV) (x10 x11 x12 : Int) : Int   := idx n0 fun ii => sB (jv0 (f0 ii)) (jv1 (f0 ii)) (jv2 (f0 ii)) (jv3 (f0 ii)) (jv4 (f0 ii)) (elV tyC f8) x10 x11 x12
theorem B5 (n0 : Nat) (f0 : FnV) (n2 : Nat) (f2 : FnV) (n4 : Nat) (f4 : FnV) (n6 : Nat) (f6 : FnV) (n8 : Nat) (f8 : FnV) (x10 x11 x12 : Int) (hp : 0 <= x10 /\ x10 < (n8 : Int)) : evR (Ev (BG n0 f0 n2 f2 n4 f4 n6 f6 n8 f8 x10 x11 x12)) (m46 n0 f0 n2 f2 n4 f4 n6 f6 n8 f8 x10 x11 x12) (.int .i64 (F46 n0 f0 f8 x10 x11 x12)) := da fun hn => bo (yO (Q := fun ii => (0 : Int) <= x10 /\ x10 < (↑n8 : Int)) (fun ii x => .obp ((0 : Int) <= x10 /\ x10 < (↑n8 : Int)) (.obt x)) (fun i x r h hx => evObp h (evObt hx)) (fun _ _ => rfl) hn (fun _ _ => hp) fun i => rfl)
theorem Hn (n0 : Nat) (f0 : FnV) (n2 : Nat) (f2 : FnV) (n4 : Nat) (f4 : FnV) (n6 : Nat) (f6 : FnV) (n8 : Nat) (f8 : FnV) (x10 x11 x12 : Int) (hp : 0 <= x10 /\ x10 < (n8 : Int)) : evR (Ev (BG n0 f0 n2 f2 n4 f4 n6 f6 n8 f8 x10 x11 x12)) (m46 n0 f0 n2 f2 n4 f4 n6 f6 n8 f8 x10 x11 x12) (.int .i64 (F46 n0 (elV tyT f0) (elV tyC f8) x10 x11 x12)) := B5 n0 f0 n2 f2 n4 f4 n6 f6 n8 f8 x10 x11 x12 hp
def C46 : aI := mkC [.sl tyT, .fn 47 [] [.pd [.sl tyR, .sl tyT, .sl tyF, .sl tyC], .pd tp1, .pd tp1, .pd tp1]] (fun
 | [.sl n0 f0, .fn _ [] [.pd [.sl n2 f2, .sl n4 f4, .sl n6 f6, .sl n8 f8], .pd [.int _ x10], .pd [.int _ x11], .pd [.int _ x12]]] => 0 <= x10 /\ x10 < (n8 : Int)
 | _ => False) fun
 | [.sl n0 f0, .fn _ [] [.pd [.sl n2 f2, .sl n4 f4, .sl n6 f6, .sl n8 f8], .pd [.int _ x10], .pd [.int _ x11], .pd [.int _ x12]]] => .int .i64 (F46 n0 f0 f8 x10 x11 x12)
 | _ => .any
theorem Cb : (vP C46).Ok Tryz.prog 46 := mkE tz Tryz.func46 (by kernel_rfl) fun ds hp => rfs (F9 ..) (Hn _ _ _ _ _ _ _ _ _ _ _ _ _ hp)
end
noncomputable section
def i6 : bc := [(108, .con yS), (46, .con C46), (111, .con wH), (56, .con C56), (47, .con C47), (145, .con xY), (140, .con xK), (49, .con C49), (123, .con xI), (30, .con C30), (32, .con C32), (80, .con C80), (44, .con C44), (23, .con C23), (62, .con C62), (68, .con C68), (63, .con C63), (69, .con C69), (117, .inl zb u0), (116, .inl zq u0), (115, .con xn), (114, .con yz), (147, .con xH), (64, .con C64), (66, .con C66), (113, .con vv), (65, .con C65), (67, .con C67), (53, .con C53), (45, .con C45), (90, .con C90), (119, .con vp), (121, .con vu), (99, .con C99), (129, .con xQ), (148, .con u9), (149, .con vk), (112, .con uF), (118, .con uV), (120, .con uA), (133, .con vx), (103, .con uD), (100, .con vl), (134, .con uL), (135, .con u6), (78, .con C78), (54, .con C54), (48, .con C48), (102, .con vh), (81, .con C81), (84, .con C84), (85, .con C85), (127, .con uy), (101, .con va), (86, .con C86), (162, .con uu), (146, .con vz), (83, .inl s83 u0)]
theorem lL : aX Tryz.prog eqs its i6 := .con wE (.con Cb (.con tJ (.con y5 (.con Ab (.con sS (.con sV (.con zm (.con tq (.con z8 (.con y7 (.con zL (.con zh (.con zP (.con zO (.con zQ (.con zW (.con zp (.inl Tryz.func117 (by kernel_rfl) (by kernel_rfl) (by kernel_rfl) (.inl Tryz.func116 (by kernel_rfl) (by kernel_rfl) (by kernel_rfl) (.con sM (.con tE (.con sD (.con yK (.con yL (.con q9 (.con vX (.con wG (.con vN (.con xt (.con zj (.con p9 (.con qY (.con v6 (.con uk (.con rr (.con qF (.con qn (.con pI (.con qx (.con pC (.con pD (.con pU (.con qJ (.con qO (.con wQ (.con wp (.con wa (.con pN (.con wj (.con xZ (.con wX (.con pW (.con pS (.con yf (.con qL (.con tg (.inl Tryz.func83 (by kernel_rfl) (by kernel_rfl) (by kernel_rfl) (.nil))))))))))))))))))))))))))))))))))))))))))))))))))))))))))
def m55 (n0 : Nat) (f0 : FnV) (x2 x3 x4 x5 x6 x7 x8 x9 : Int) (b10 : Bool) : RT Empty := .obc (.obt (.ret (V.bool (decide (0 <= yn n0 (elV tp2 f0) x2 x3 x4 x5 x6 x7 x8 x9 b10)))))
theorem Fx (n0 : Nat) (f0 : FnV) (x2 x3 x4 x5 x6 x7 x8 x9 : Int) (b10 : Bool) : Fit noD (aY JJ i6 u0 s55 [V.sl n0 (elV tp2 f0), V.fn 56 [] [V.pd [vi x2, vi x3, vi x4, vi x5, vi x6, vi x7, vi x8, vi x9, V.bool b10]]]) (m55 n0 f0 x2 x3 x4 x5 x6 x7 x8 x9 b10) := ⟨by kernel_rfl, by kernel_rfl⟩
def Ax (n0 : Nat) (f0 : FnV) (x2 x3 x4 x5 x6 x7 x8 x9 : Int) (b10 : Bool) : Bool := decide (0 <= yn n0 (elV tp2 f0) x2 x3 x4 x5 x6 x7 x8 x9 b10)
def R55 (n0 : Nat) (f0 : FnV) (x2 x3 x4 x5 x6 x7 x8 x9 : Int) (b10 : Bool) : V := .bool (Ax n0 f0 x2 x3 x4 x5 x6 x7 x8 x9 b10)
theorem GX (n0 : Nat) (f0 : FnV) (x2 x3 x4 x5 x6 x7 x8 x9 : Int) (b10 : Bool) : evR noE (m55 n0 f0 x2 x3 x4 x5 x6 x7 x8 x9 b10) (R55 n0 f0 x2 x3 x4 x5 x6 x7 x8 x9 b10) := ao (evObt (evRet (by unfold R55 Ax; rfl)))
def C55 : aI := mkC [.sl tp2, .fn 56 [] [.pd [.int .i64, .int .i64, .int .i64, .int .i64, .int .i64, .int .i64, .int .i64, .int .i64, .bool]]] (fun _ => True) fun
 | [.sl n0 f0, .fn _ [] [.pd [.int _ x2, .int _ x3, .int _ x4, .int _ x5, .int _ x6, .int _ x7, .int _ x8, .int _ x9, .bool b10]]] => R55 n0 f0 x2 x3 x4 x5 x6 x7 x8 x9 b10
 | _ => .any
theorem B4 : (vP C55).Ok Tryz.prog 55 := mkE lL Tryz.func55 (by kernel_rfl) fun ds hp => rf0 (Fx ..) (GX _ _ _ _ _ _ _ _ _ _ _)
inductive S61 where
 | L0 (ia0 : Int) (na1 : Nat) (ia2 : Int)
def FF (s0 : ByteArray) (x1 : Int) (n2 : Nat) (f2 : FnV) (x4 x5 x6 x7 x8 : Int) : S61 -> Env × List O × Option Ex
 | .L0 ia0 na1 ia2 => ([(10, vi ia0), (9, vi (i64.wrap ((↑n2 : Int) - 1))), (8, vi (↑n2 : Int)), (7, V.sl n2 (elV tp2 f2)), (6, V.pl 3 2), (0, V.yl na1), (1, V.pl 3 0)], [O.cells [V.str s0, vi x1, V.sl n2 (elV tp2 f2), vi x4] 54, O.cells [vi x5, vi x6, vi x7, vi x8] 29, O.cells [vi ia2] 3, O.cells [V.str s0, vi x1, V.sl n2 (elV tp2 f2), vi x4] 54], none)
def GQ : S61 -> JJ
 | .L0 ia0 na1 ia2 => (0, [Cx.n na1])
def Df (s0 : ByteArray) (x1 : Int) (n2 : Nat) (f2 : FnV) (x4 x5 x6 x7 x8 : Int) : T (bQ JJ) := aY JJ i6 u0 s61 [V.agg [V.str s0, vi x1, V.sl n2 (elV tp2 f2), vi x4], V.agg [vi x5, vi x6, vi x7, vi x8]]
def xW (s0 : ByteArray) (x1 : Int) (n2 : Nat) (f2 : FnV) (x4 x5 x6 x7 x8 : Int) (cx : List Cx) : Lp JJ := lpT (atT (afT (atT (Df s0 x1 n2 f2 x4 x5 x6 x7 x8) []) (cxn cx 0)) [])
def Ho (s0 : ByteArray) (x1 : Int) (n2 : Nat) (f2 : FnV) (x4 x5 x6 x7 x8 : Int) : JJ -> Lp JJ
 | (0, cx) => xW s0 x1 n2 f2 x4 x5 x6 x7 x8 cx
 | (_, cx) => xW s0 x1 n2 f2 x4 x5 x6 x7 x8 cx
def D61 (s0 : ByteArray) (x1 : Int) (n2 : Nat) (f2 : FnV) (x4 x5 x6 x7 x8 : Int) : LD JJ S61 := ⟨GQ, Ho s0 x1 n2 f2 x4 x5 x6 x7 x8, FF s0 x1 n2 f2 x4 x5 x6 x7 x8⟩
def CB (s0 : ByteArray) (x1 : Int) (n2 : Nat) (f2 : FnV) (x4 x5 x6 x7 x8 : Int) : S61 -> RT S61
 | .L0 ia0 na1 ia2 => .br (decide (ia0 < i64.wrap ((↑n2 : Int) - 1))) (.ob (decide (0 <= ia0 /\ ia0 < (↑n2 : Int))) (.ob (decide (0 <= i64.wrap (ia0 + 1) /\ i64.wrap (ia0 + 1) < (↑n2 : Int))) (.obt (.obt (.obt (.obt (.obc (.obt (.next (iR 0 4 []) (S61.L0 (i64.wrap (ia0 + 1)) (na1) (max ia2 (bS (i64.wrap (2 * jv0 (f2 ia0.toNat))) (i64.wrap (2 * jv1 (f2 ia0.toNat))) (i64.wrap (2 * jv0 (f2 (i64.wrap (ia0 + 1)).toNat))) (i64.wrap (2 * jv1 (f2 (i64.wrap (ia0 + 1)).toNat))) x4 x5 x6 x7 x8))) []))))))))) (.ret (vi ia2))
def m61 (s0 : ByteArray) (x1 : Int) (n2 : Nat) (f2 : FnV) (x4 x5 x6 x7 x8 : Int) : RT S61 := .all (fun l_6416 => .asm (true = true -> n2 <= 9223372036854775807) (.enter (iR 0 4 []) (S61.L0 (0) (l_6416) (0)) []))
theorem FL (s0 : ByteArray) (x1 : Int) (n2 : Nat) (f2 : FnV) (x4 x5 x6 x7 x8 : Int) : iC i6 u0 (D61 s0 x1 n2 f2 x4 x5 x6 x7 x8) (Df s0 x1 n2 f2 x4 x5 x6 x7 x8) (m61 s0 x1 n2 f2 x4 x5 x6 x7 x8) (CB s0 x1 n2 f2 x4 x5 x6 x7 x8) := ⟨⟨by kernel_rfl, by kernel_rfl⟩, fun s => by cases s <;> exact ⟨by kernel_rfl, by kernel_rfl⟩⟩
def p61 (n2 : Nat) (f2 : FnV) (x4 x5 x6 x7 x8 : Int) (ii : Nat) : Int := bS (i64.wrap (2 * jv0 (f2 ii))) (i64.wrap (2 * jv1 (f2 ii))) (i64.wrap (2 * jv0 (f2 (i64.wrap ((ii : Int) + 1)).toNat))) (i64.wrap (2 * jv1 (f2 (i64.wrap ((ii : Int) + 1)).toNat))) x4 x5 x6 x7 x8
def F61 (n2 : Nat) (f2 : FnV) (x4 x5 x6 x7 x8 : Int) : Int := qR (p61 n2 f2 x4 x5 x6 x7 x8) (n2 - 1)
theorem Ci (s0 : ByteArray) (x1 : Int) (n2 : Nat) (f2 : FnV) (x4 x5 x6 x7 x8 : Int) : evR (Ev (CB s0 x1 n2 f2 x4 x5 x6 x7 x8)) (m61 s0 x1 n2 f2 x4 x5 x6 x7 x8) (.int .i64 (F61 n2 f2 x4 x5 x6 x7 x8)) := Aj fun l => da fun hn => bo (uO hn fun i a _ => rfl)
theorem GU (s0 : ByteArray) (x1 : Int) (n2 : Nat) (f2 : FnV) (x4 x5 x6 x7 x8 : Int) : evR (Ev (CB s0 x1 n2 f2 x4 x5 x6 x7 x8)) (m61 s0 x1 n2 f2 x4 x5 x6 x7 x8) (.int .i64 (F61 n2 (elV tp2 f2) x4 x5 x6 x7 x8)) := Ci s0 x1 n2 f2 x4 x5 x6 x7 x8
def C61 : aI := mkC [.agg tyR, .agg tp4] (fun _ => True) fun
 | [.agg [.str s0, .int _ x1, .sl n2 f2, .int _ x4], .agg [.int _ x5, .int _ x6, .int _ x7, .int _ x8]] => .int .i64 (F61 n2 f2 x4 x5 x6 x7 x8)
 | _ => .any
theorem Bt : (vP C61).Ok Tryz.prog 61 := mkE lL Tryz.func61 (by kernel_rfl) fun ds hp => rfs (FL ..) (GU _ _ _ _ _ _ _ _ _)
inductive S74 where
 | L0 (ia0 : Int) (na1 : Nat)
def E4 (s0 : ByteArray) (x1 : Int) (n2 : Nat) (f2 : FnV) (x4 x5 x6 : Int) : S74 -> Env × List O × Option Ex
 | .L0 ia0 na1 => ([(10, vi ia0), (9, vi (i64.wrap ((↑n2 : Int) - 1))), (8, vi (↑n2 : Int)), (7, V.sl n2 (elV tp2 f2)), (6, V.pl 4 2), (0, V.yl na1), (1, V.pl 4 0)], [O.cells [V.str s0, vi x1, V.sl n2 (elV tp2 f2), vi x4] 54, O.cells [vi x5] 3, O.cells [vi x6] 3, O.cells [V.kb false] 4, O.cells [V.str s0, vi x1, V.sl n2 (elV tp2 f2), vi x4] 54], none)
def Gx : S74 -> JJ
 | .L0 ia0 na1 => (0, [Cx.n na1])
def Gd (s0 : ByteArray) (x1 : Int) (n2 : Nat) (f2 : FnV) (x4 x5 x6 : Int) : T (bQ JJ) := aY JJ i6 u0 s74 [V.agg [V.str s0, vi x1, V.sl n2 (elV tp2 f2), vi x4], vi x5, vi x6]
def yA (s0 : ByteArray) (x1 : Int) (n2 : Nat) (f2 : FnV) (x4 x5 x6 : Int) (cx : List Cx) : Lp JJ := lpT (atT (afT (atT (Gd s0 x1 n2 f2 x4 x5 x6) []) (cxn cx 0)) [])
def Ic (s0 : ByteArray) (x1 : Int) (n2 : Nat) (f2 : FnV) (x4 x5 x6 : Int) : JJ -> Lp JJ
 | (0, cx) => yA s0 x1 n2 f2 x4 x5 x6 cx
 | (_, cx) => yA s0 x1 n2 f2 x4 x5 x6 cx
def D74 (s0 : ByteArray) (x1 : Int) (n2 : Nat) (f2 : FnV) (x4 x5 x6 : Int) : LD JJ S74 := ⟨Gx, Ic s0 x1 n2 f2 x4 x5 x6, E4 s0 x1 n2 f2 x4 x5 x6⟩
def BZ (s0 : ByteArray) (x1 : Int) (n2 : Nat) (f2 : FnV) (x4 x5 x6 : Int) : S74 -> RT S74
 | .L0 ia0 na1 => .br (decide (ia0 < i64.wrap ((↑n2 : Int) - 1))) (.ob (decide (0 <= ia0 /\ ia0 < (↑n2 : Int))) (.ob (decide (0 <= i64.wrap (ia0 + 1) /\ i64.wrap (ia0 + 1) < (↑n2 : Int))) (.obt (.obt (.obt (.obt (.obc (.obt (.br (bt (i64.wrap (2 * jv0 (f2 ia0.toNat))) (i64.wrap (2 * jv1 (f2 ia0.toNat))) (i64.wrap (2 * jv0 (f2 (i64.wrap (ia0 + 1)).toNat))) (i64.wrap (2 * jv1 (f2 (i64.wrap (ia0 + 1)).toNat))) x4 x5 x6) (.ret (V.kb true)) (.next (iR 0 5 []) (S74.L0 (i64.wrap (ia0 + 1)) (na1)) [])))))))))) (.ret (V.kb false))
def m74 (s0 : ByteArray) (x1 : Int) (n2 : Nat) (f2 : FnV) (x4 x5 x6 : Int) : RT S74 := .all (fun l_6589 => .asm (true = true -> n2 <= 9223372036854775807) (.enter (iR 0 5 []) (S74.L0 (0) (l_6589)) []))
theorem Du (s0 : ByteArray) (x1 : Int) (n2 : Nat) (f2 : FnV) (x4 x5 x6 : Int) : iC i6 u0 (D74 s0 x1 n2 f2 x4 x5 x6) (Gd s0 x1 n2 f2 x4 x5 x6) (m74 s0 x1 n2 f2 x4 x5 x6) (BZ s0 x1 n2 f2 x4 x5 x6) := ⟨⟨by kernel_rfl, by kernel_rfl⟩, fun s => by cases s <;> exact ⟨by kernel_rfl, by kernel_rfl⟩⟩
def p74 (n2 : Nat) (f2 : FnV) (x4 x5 x6 : Int) (ii : Nat) : Bool := bt (i64.wrap (2 * jv0 (f2 ii))) (i64.wrap (2 * jv1 (f2 ii))) (i64.wrap (2 * jv0 (f2 (i64.wrap ((ii : Int) + 1)).toNat))) (i64.wrap (2 * jv1 (f2 (i64.wrap ((ii : Int) + 1)).toNat))) x4 x5 x6
def F74 (n2 : Nat) (f2 : FnV) (x4 x5 x6 : Int) : Bool := exB (n2 - 1) (p74 n2 f2 x4 x5 x6)
theorem BT (s0 : ByteArray) (x1 : Int) (n2 : Nat) (f2 : FnV) (x4 x5 x6 : Int) : evR (Ev (BZ s0 x1 n2 f2 x4 x5 x6)) (m74 s0 x1 n2 f2 x4 x5 x6) (.bool (F74 n2 f2 x4 x5 x6)) := Aj fun l => da fun hn => bo (vb hn fun i _ => rfl)
theorem H4 (s0 : ByteArray) (x1 : Int) (n2 : Nat) (f2 : FnV) (x4 x5 x6 : Int) : evR (Ev (BZ s0 x1 n2 f2 x4 x5 x6)) (m74 s0 x1 n2 f2 x4 x5 x6) (.bool (F74 n2 (elV tp2 f2) x4 x5 x6)) := BT s0 x1 n2 f2 x4 x5 x6
def C74 : aI := mkC [.agg tyR, .int .i64, .int .i64] (fun _ => True) fun
 | [.agg [.str s0, .int _ x1, .sl n2 f2, .int _ x4], .int _ x5, .int _ x6] => .bool (F74 n2 f2 x4 x5 x6)
 | _ => .any
theorem CZ : (vP C74).Ok Tryz.prog 74 := mkE lL Tryz.func74 (by kernel_rfl) fun ds hp => rfs (Du ..) (H4 _ _ _ _ _ _ _)
end
noncomputable section
def nn : bc := (55, .con C55) :: (61, .con C61) :: (74, .con C74) :: i6
theorem lO : aX Tryz.prog eqs its nn := .con B4 (.con Bt (.con CZ (lL)))
attribute [local irreducible] F44 ud rf
def m22 (n0 : Nat) (f0 : FnV) (n2 : Nat) (f2 : FnV) (n4 : Nat) (f4 : FnV) (n6 : Nat) (f6 : FnV) (x8 x9 x10 x11 x12 : Int) : RT Empty := .asm (true = true -> n0 <= 9223372036854775807) (.obp (((∀ (i : Nat), i < n0 -> (sv (hdV (f0 i))).size <= (9223372036854775807 : Nat)) /\ ∀ (i : Nat), i < n6 -> (sv (hdV (f6 i))).size <= (9223372036854775807 : Nat)) /\ (0 : Nat) = (0 : Nat) /\ (2 : Nat) <= (100 : Nat)) (.obt (.br (F44 n0 (elV tyR f0) n2 (elV tyT f2) n4 (elV tyF f4) n6 (elV tyC f6) 2 (elV tp1 (aV [vi x8, vi (↑n0 : Int)] 0 1)) != 0) (.ret (V.tup [vi 0, vi (F44 n0 (elV tyR f0) n2 (elV tyT f2) n4 (elV tyF f4) n6 (elV tyC f6) 2 (elV tp1 (aV [vi x8, vi (↑n0 : Int)] 0 1)))])) (.obc (.obt (.br (rm x9 x10 x11 x12) (.ret (V.tup [vi 0, vi 7])) (.ob (decide (0 <= x8 /\ x8 < (↑n0 : Int))) (.obc (.obt (.ret (V.tup [vi (F61 (cz (hdV (tlV (tlV (f0 x8.toNat))))) (fun i => al tp2 (atV (hdV (tlV (tlV (f0 x8.toNat)))) i)) (jv3 (f0 x8.toNat)) x9 x10 x11 x12), vi 0])))))))))))
theorem Et (n0 : Nat) (f0 : FnV) (n2 : Nat) (f2 : FnV) (n4 : Nat) (f4 : FnV) (n6 : Nat) (f6 : FnV) (x8 x9 x10 x11 x12 : Int) : Fit noD (aY JJ nn u0 s22 [scV n0 f0 n2 f2 n4 f4 n6 f6, vi x8, V.agg [vi x9, vi x10, vi x11, vi x12]]) (m22 n0 f0 n2 f2 n4 f4 n6 f6 x8 x9 x10 x11 x12) := ⟨by kernel_rfl, by kernel_rfl⟩
def ue (n0 : Nat) (f0 : FnV) (n2 : Nat) (f2 : FnV) (n4 : Nat) (f4 : FnV) (n6 : Nat) (f6 : FnV) (x8 x9 x10 x11 x12 : Int) : Int := bif F44 n0 (elV tyR f0) n2 (elV tyT f2) n4 (elV tyF f4) n6 (elV tyC f6) 2 (elV tp1 (aV [vi x8, vi (↑n0 : Int)] 0 1)) != 0 then 0 else bif rm x9 x10 x11 x12 then 0 else F61 (cz (hdV (tlV (tlV (f0 x8.toNat))))) (fun i => al tp2 (atV (hdV (tlV (tlV (f0 x8.toNat)))) i)) (jv3 (f0 x8.toNat)) x9 x10 x11 x12
def tO (n0 : Nat) (f0 : FnV) (n2 : Nat) (f2 : FnV) (n4 : Nat) (f4 : FnV) (n6 : Nat) (f6 : FnV) (x8 x9 x10 x11 x12 : Int) : Int := bif F44 n0 (elV tyR f0) n2 (elV tyT f2) n4 (elV tyF f4) n6 (elV tyC f6) 2 (elV tp1 (aV [vi x8, vi (↑n0 : Int)] 0 1)) != 0 then F44 n0 (elV tyR f0) n2 (elV tyT f2) n4 (elV tyF f4) n6 (elV tyC f6) 2 (elV tp1 (aV [vi x8, vi (↑n0 : Int)] 0 1)) else bif rm x9 x10 x11 x12 then 7 else 0
def R22 (n0 : Nat) (f0 : FnV) (n2 : Nat) (f2 : FnV) (n4 : Nat) (f4 : FnV) (n6 : Nat) (f6 : FnV) (x8 x9 x10 x11 x12 : Int) : V := .tup [.int i64 (ue n0 f0 n2 f2 n4 f4 n6 f6 x8 x9 x10 x11 x12), .int i64 (tO n0 f0 n2 f2 n4 f4 n6 f6 x8 x9 x10 x11 x12)]
theorem HS (n0 : Nat) (f0 : FnV) (n2 : Nat) (f2 : FnV) (n4 : Nat) (f4 : FnV) (n6 : Nat) (f6 : FnV) (x8 x9 x10 x11 x12 : Int) (hp : cG n0 f0 /\ cG n6 f6) : evR noE (m22 n0 f0 n2 f2 n4 f4 n6 f6 x8 x9 x10 x11 x12) (R22 n0 f0 n2 f2 n4 f4 n6 f6 x8 x9 x10 x11 x12) := cB (fun a0 => evObp (by first | assumption | ((first | exact ⟨hp, rfl, by decide⟩ | (simp_all [cond_eq_ite] <;> first | omega | exact (cq (by assumption) (by assumption) h0).1 | exact (cq (by assumption) (by assumption) h0).2 | exact bj (by assumption) h0 | exact bj (by assumption) h1 | exact k50 h0 | exact k50 h1 | exact k50 hc.1 | exact bj (by assumption) hc)))) (evObt (aL (fun h0 => evRet (by unfold R22 ue tO; try rw [h0]; rfl)) (fun h0 => ao (evObt (aL (fun h1 => evRet (by unfold R22 ue tO; try rw [h0]; try rw [h1]; rfl)) (fun h1 => aD (by first | assumption | ((simp_all [cond_eq_ite] <;> first | omega | exact (cq (by assumption) (by assumption) h0).1 | exact (cq (by assumption) (by assumption) h0).2 | exact bj (by assumption) h0 | exact bj (by assumption) h1 | exact k50 h0 | exact k50 h1 | exact k50 hc.1 | exact bj (by assumption) hc))) (ao (evObt (evRet (by unfold R22 ue tO; try rw [h0]; try rw [h1]; rfl)))))))))))
def C22 : aI := mkC [.agg [.sl tyR, .sl tyT, .sl tyF, .sl tyC], .int .i64, .agg tp4] (fun
 | [.agg [.sl n0 f0, .sl n2 f2, .sl n4 f4, .sl n6 f6], .int _ x8, .agg [.int _ x9, .int _ x10, .int _ x11, .int _ x12]] => cG n0 f0 /\ cG n6 f6
 | _ => False) fun
 | [.agg [.sl n0 f0, .sl n2 f2, .sl n4 f4, .sl n6 f6], .int _ x8, .agg [.int _ x9, .int _ x10, .int _ x11, .int _ x12]] => R22 n0 f0 n2 f2 n4 f4 n6 f6 x8 x9 x10 x11 x12
 | _ => .any
theorem CV : (vP C22).Ok Tryz.prog 22 := mkE lO Tryz.func22 (by kernel_rfl) fun ds hp => rf0 (Et ..) (HS _ _ _ _ _ _ _ _ _ _ _ _ _ hp)
def m25 (n0 : Nat) (f0 : FnV) (n2 : Nat) (f2 : FnV) (n4 : Nat) (f4 : FnV) (n6 : Nat) (f6 : FnV) (x8 x9 x10 : Int) : RT Empty := .asm (true = true -> n0 <= 9223372036854775807) (.obp (((∀ (i : Nat), i < n0 -> (sv (hdV (f0 i))).size <= (9223372036854775807 : Nat)) /\ ∀ (i : Nat), i < n6 -> (sv (hdV (f6 i))).size <= (9223372036854775807 : Nat)) /\ (0 : Nat) = (0 : Nat) /\ (2 : Nat) <= (100 : Nat)) (.obt (.br (F44 n0 (elV tyR f0) n2 (elV tyT f2) n4 (elV tyF f4) n6 (elV tyC f6) 2 (elV tp1 (aV [vi x8, vi (↑n0 : Int)] 0 1)) != 0) (.ret (V.tup [V.kb false, vi (F44 n0 (elV tyR f0) n2 (elV tyT f2) n4 (elV tyF f4) n6 (elV tyC f6) 2 (elV tp1 (aV [vi x8, vi (↑n0 : Int)] 0 1)))])) (.obc (.obt (.br (dl 2 (elV tp1 (aV [vi x9, vi x10] 0 1))) (.ret (V.tup [V.kb false, vi 7])) (.ob (decide (0 <= x8 /\ x8 < (↑n0 : Int))) (.obc (.obt (.ret (V.tup [V.bool (F74 (cz (hdV (tlV (tlV (f0 x8.toNat))))) (fun i => al tp2 (atV (hdV (tlV (tlV (f0 x8.toNat)))) i)) (jv3 (f0 x8.toNat)) x9 x10), vi 0])))))))))))
theorem Fm (n0 : Nat) (f0 : FnV) (n2 : Nat) (f2 : FnV) (n4 : Nat) (f4 : FnV) (n6 : Nat) (f6 : FnV) (x8 x9 x10 : Int) : Fit noD (aY JJ nn u0 s25 [scV n0 f0 n2 f2 n4 f4 n6 f6, vi x8, vi x9, vi x10]) (m25 n0 f0 n2 f2 n4 f4 n6 f6 x8 x9 x10) := ⟨by kernel_rfl, by kernel_rfl⟩
def sF (n0 : Nat) (f0 : FnV) (n2 : Nat) (f2 : FnV) (n4 : Nat) (f4 : FnV) (n6 : Nat) (f6 : FnV) (x8 x9 x10 : Int) : Bool := bif F44 n0 (elV tyR f0) n2 (elV tyT f2) n4 (elV tyF f4) n6 (elV tyC f6) 2 (elV tp1 (aV [vi x8, vi (↑n0 : Int)] 0 1)) != 0 then false else bif dl 2 (elV tp1 (aV [vi x9, vi x10] 0 1)) then false else F74 (cz (hdV (tlV (tlV (f0 x8.toNat))))) (fun i => al tp2 (atV (hdV (tlV (tlV (f0 x8.toNat)))) i)) (jv3 (f0 x8.toNat)) x9 x10
def tF (n0 : Nat) (f0 : FnV) (n2 : Nat) (f2 : FnV) (n4 : Nat) (f4 : FnV) (n6 : Nat) (f6 : FnV) (x8 x9 x10 : Int) : Int := bif F44 n0 (elV tyR f0) n2 (elV tyT f2) n4 (elV tyF f4) n6 (elV tyC f6) 2 (elV tp1 (aV [vi x8, vi (↑n0 : Int)] 0 1)) != 0 then F44 n0 (elV tyR f0) n2 (elV tyT f2) n4 (elV tyF f4) n6 (elV tyC f6) 2 (elV tp1 (aV [vi x8, vi (↑n0 : Int)] 0 1)) else bif dl 2 (elV tp1 (aV [vi x9, vi x10] 0 1)) then 7 else 0
def R25 (n0 : Nat) (f0 : FnV) (n2 : Nat) (f2 : FnV) (n4 : Nat) (f4 : FnV) (n6 : Nat) (f6 : FnV) (x8 x9 x10 : Int) : V := .tup [.bool (sF n0 f0 n2 f2 n4 f4 n6 f6 x8 x9 x10), .int i64 (tF n0 f0 n2 f2 n4 f4 n6 f6 x8 x9 x10)]
theorem Ii (n0 : Nat) (f0 : FnV) (n2 : Nat) (f2 : FnV) (n4 : Nat) (f4 : FnV) (n6 : Nat) (f6 : FnV) (x8 x9 x10 : Int) (hp : cG n0 f0 /\ cG n6 f6) : evR noE (m25 n0 f0 n2 f2 n4 f4 n6 f6 x8 x9 x10) (R25 n0 f0 n2 f2 n4 f4 n6 f6 x8 x9 x10) := cB (fun a0 => evObp (by first | assumption | ((first | exact ⟨hp, rfl, by decide⟩ | (simp_all [cond_eq_ite] <;> first | omega | exact (cq (by assumption) (by assumption) h0).1 | exact (cq (by assumption) (by assumption) h0).2 | exact bj (by assumption) h0 | exact bj (by assumption) h1 | exact k50 h0 | exact k50 h1 | exact k50 hc.1 | exact bj (by assumption) hc)))) (evObt (aL (fun h0 => evRet (by unfold R25 sF tF; try rw [h0]; rfl)) (fun h0 => ao (evObt (aL (fun h1 => evRet (by unfold R25 sF tF; try rw [h0]; try rw [h1]; rfl)) (fun h1 => aD (by first | assumption | ((simp_all [cond_eq_ite] <;> first | omega | exact (cq (by assumption) (by assumption) h0).1 | exact (cq (by assumption) (by assumption) h0).2 | exact bj (by assumption) h0 | exact bj (by assumption) h1 | exact k50 h0 | exact k50 h1 | exact k50 hc.1 | exact bj (by assumption) hc))) (ao (evObt (evRet (by unfold R25 sF tF; try rw [h0]; try rw [h1]; rfl)))))))))))
def C25 : aI := mkC [.agg [.sl tyR, .sl tyT, .sl tyF, .sl tyC], .int .i64, .int .i64, .int .i64] (fun
 | [.agg [.sl n0 f0, .sl n2 f2, .sl n4 f4, .sl n6 f6], .int _ x8, .int _ x9, .int _ x10] => cG n0 f0 /\ cG n6 f6
 | _ => False) fun
 | [.agg [.sl n0 f0, .sl n2 f2, .sl n4 f4, .sl n6 f6], .int _ x8, .int _ x9, .int _ x10] => R25 n0 f0 n2 f2 n4 f4 n6 f6 x8 x9 x10
 | _ => .any
theorem AO : (vP C25).Ok Tryz.prog 25 := mkE lO Tryz.func25 (by kernel_rfl) fun ds hp => rf0 (Fm ..) (Ii _ _ _ _ _ _ _ _ _ _ _ hp)
def m15 (n0 : Nat) (f0 : FnV) (n2 : Nat) (f2 : FnV) (n4 : Nat) (f4 : FnV) (n6 : Nat) (f6 : FnV) (x8 x9 x10 : Int) : RT Empty := .asm (true = true -> n6 <= 9223372036854775807) (.obp (((∀ (i : Nat), i < n0 -> (sv (hdV (f0 i))).size <= (9223372036854775807 : Nat)) /\ ∀ (i : Nat), i < n6 -> (sv (hdV (f6 i))).size <= (9223372036854775807 : Nat)) /\ (0 : Nat) = (0 : Nat) /\ (2 : Nat) <= (100 : Nat)) (.obt (.br (F44 n0 (elV tyR f0) n2 (elV tyT f2) n4 (elV tyF f4) n6 (elV tyC f6) 2 (elV tp1 (aV [vi x8, vi (↑n6 : Int)] 0 1)) != 0) (.ret (V.tup [vi 0, vi (F44 n0 (elV tyR f0) n2 (elV tyT f2) n4 (elV tyF f4) n6 (elV tyC f6) 2 (elV tp1 (aV [vi x8, vi (↑n6 : Int)] 0 1)))])) (.obc (.obt (.br (dl 2 (elV tp1 (aV [vi x9, vi x10] 0 1))) (.ret (V.tup [vi 0, vi 7])) (.obp ((0 : Int) <= x8 /\ x8 < (↑n6 : Int)) (.obt (.ret (V.tup [vi (F46 n2 (elV tyT f2) (elV tyC f6) x8 x9 x10), vi 0]))))))))))
theorem DT (n0 : Nat) (f0 : FnV) (n2 : Nat) (f2 : FnV) (n4 : Nat) (f4 : FnV) (n6 : Nat) (f6 : FnV) (x8 x9 x10 : Int) : Fit noD (aY JJ nn u0 s15 [scV n0 f0 n2 f2 n4 f4 n6 f6, vi x8, vi x9, vi x10]) (m15 n0 f0 n2 f2 n4 f4 n6 f6 x8 x9 x10) := ⟨by kernel_rfl, by kernel_rfl⟩
def tb (n0 : Nat) (f0 : FnV) (n2 : Nat) (f2 : FnV) (n4 : Nat) (f4 : FnV) (n6 : Nat) (f6 : FnV) (x8 x9 x10 : Int) : Int := bif F44 n0 (elV tyR f0) n2 (elV tyT f2) n4 (elV tyF f4) n6 (elV tyC f6) 2 (elV tp1 (aV [vi x8, vi (↑n6 : Int)] 0 1)) != 0 then 0 else bif dl 2 (elV tp1 (aV [vi x9, vi x10] 0 1)) then 0 else F46 n2 (elV tyT f2) (elV tyC f6) x8 x9 x10
def tL (n0 : Nat) (f0 : FnV) (n2 : Nat) (f2 : FnV) (n4 : Nat) (f4 : FnV) (n6 : Nat) (f6 : FnV) (x8 x9 x10 : Int) : Int := bif F44 n0 (elV tyR f0) n2 (elV tyT f2) n4 (elV tyF f4) n6 (elV tyC f6) 2 (elV tp1 (aV [vi x8, vi (↑n6 : Int)] 0 1)) != 0 then F44 n0 (elV tyR f0) n2 (elV tyT f2) n4 (elV tyF f4) n6 (elV tyC f6) 2 (elV tp1 (aV [vi x8, vi (↑n6 : Int)] 0 1)) else bif dl 2 (elV tp1 (aV [vi x9, vi x10] 0 1)) then 7 else 0
def R15 (n0 : Nat) (f0 : FnV) (n2 : Nat) (f2 : FnV) (n4 : Nat) (f4 : FnV) (n6 : Nat) (f6 : FnV) (x8 x9 x10 : Int) : V := .tup [.int i64 (tb n0 f0 n2 f2 n4 f4 n6 f6 x8 x9 x10), .int i64 (tL n0 f0 n2 f2 n4 f4 n6 f6 x8 x9 x10)]
theorem GY (n0 : Nat) (f0 : FnV) (n2 : Nat) (f2 : FnV) (n4 : Nat) (f4 : FnV) (n6 : Nat) (f6 : FnV) (x8 x9 x10 : Int) (hp : cG n0 f0 /\ cG n6 f6) : evR noE (m15 n0 f0 n2 f2 n4 f4 n6 f6 x8 x9 x10) (R15 n0 f0 n2 f2 n4 f4 n6 f6 x8 x9 x10) := cB (fun a0 => evObp (by first | assumption | ((first | exact ⟨hp, rfl, by decide⟩ | (simp_all [cond_eq_ite] <;> first | omega | exact (cq (by assumption) (by assumption) h0).1 | exact (cq (by assumption) (by assumption) h0).2 | exact bj (by assumption) h0 | exact bj (by assumption) h1 | exact k50 h0 | exact k50 h1 | exact k50 hc.1 | exact bj (by assumption) hc)))) (evObt (aL (fun h0 => evRet (by unfold R15 tb tL; try rw [h0]; rfl)) (fun h0 => ao (evObt (aL (fun h1 => evRet (by unfold R15 tb tL; try rw [h0]; try rw [h1]; rfl)) (fun h1 => evObp (by first | assumption | ((first | exact ⟨hp, rfl, by decide⟩ | (simp_all [cond_eq_ite] <;> first | omega | exact (cq (by assumption) (by assumption) h0).1 | exact (cq (by assumption) (by assumption) h0).2 | exact bj (by assumption) h0 | exact bj (by assumption) h1 | exact k50 h0 | exact k50 h1 | exact k50 hc.1 | exact bj (by assumption) hc)))) (evObt (evRet (by unfold R15 tb tL; try rw [h0]; try rw [h1]; rfl))))))))))
def C15 : aI := mkC [.agg [.sl tyR, .sl tyT, .sl tyF, .sl tyC], .int .i64, .int .i64, .int .i64] (fun
 | [.agg [.sl n0 f0, .sl n2 f2, .sl n4 f4, .sl n6 f6], .int _ x8, .int _ x9, .int _ x10] => cG n0 f0 /\ cG n6 f6
 | _ => False) fun
 | [.agg [.sl n0 f0, .sl n2 f2, .sl n4 f4, .sl n6 f6], .int _ x8, .int _ x9, .int _ x10] => R15 n0 f0 n2 f2 n4 f4 n6 f6 x8 x9 x10
 | _ => .any
theorem Ba : (vP C15).Ok Tryz.prog 15 := mkE lO Tryz.func15 (by kernel_rfl) fun ds hp => rf0 (DT ..) (GY _ _ _ _ _ _ _ _ _ _ _ hp)
end
end Go.Dx
namespace Go.Dx
open Go.Sx
section
variable {J : Type}
def wD : V -> bQ J -> bQ J
 | .bool b, .res (.kb _) => .res (.kb b)
 | r, _ => .res r
theorem yd (r : V) (a : bQ J) : lE r (wD r a) := by
 unfold wD; split <;> rfl
def kz (r : V) : T (bQ J) -> T (bQ J)
 | .ret a => .ret (wD r a)
 | .br b x y => match b with
   | true => .br true (kz r x) y
   | false => .br false x (kz r y)
 | .ob _ x => .ob true (kz r x)
 | .obi c d x => match c with
   | true => .obi true true (kz r x)
   | false => .obi false d (kz r x)
 | .obp _ x => .obp True (kz r x)
 | .obq a _ x => .obq a a (kz r x)
 | .fail _ => .ret (.res r)
 | .loop .. => .ret (.res r)
 | .all f => .all fun l => kz r (f l)
 | .und x y => .und (kz r x) (kz r y)
 | .asm p x => .asm p (kz r x)
theorem wz {LP : cg} (r : V) : ∀ t : T (bQ J), sat LP (kz r t) (lE r) := by
 intro t
 induction t with
 | ret a => exact yd r a
 | br b x y hx hy =>
   cases b with
   | true => exact ⟨fun _ => hx, (fun e => by cases e)⟩
   | false => exact ⟨(fun e => by cases e), fun _ => hy⟩
 | ob b x hx => exact ⟨rfl, hx⟩
 | obi c d x hx =>
   cases c with
   | true => exact ⟨fun _ => rfl, hx⟩
   | false => exact ⟨(fun e => by cases e), hx⟩
 | obp p x hx => exact ⟨trivial, hx⟩
 | obq a b x hx => exact ⟨rfl, hx⟩
 | fail n => exact (rfl : toA r = toA r)
 | loop fr b e h g k hk => exact (rfl : toA r = toA r)
 | all f hf => exact fun l => hf l
 | und x y hx hy => exact ⟨hx, hy⟩
 | asm p x hx => exact fun _ => hx
theorem nx {ct : bc} {un : Unr} {w0 : World} {sf : aw} {ds : List V} {r : V} (h : kz r (aY J ct un sf ds) = aY J ct un sf ds) : sat (bu w0 (SV ct)) (aY J ct un sf ds) (lE r) := by
 rw [← h]; exact wz r _
end
def eqL (p : V -> V -> Bool) : List V -> List V -> Bool
 | [], [] => true
 | v :: vs, x :: xs => p v x && eqL p vs xs
 | _, _ => false
def eqD : Nat -> V -> V -> Bool
 | 0, _, _ => false
 | fu + 1, v, x => match v, x with
   | .int k a, .int k' b => decide (k = k') && decide (a = b)
   | .bool a, .bool b => a == b
   | .kb a, .bool b => a == b
   | .str a, .str b => decide (a.data.toList = b.data.toList)
   | .agg xs, .agg ys => eqL (eqD fu) xs ys
   | .sl n f, .sl m g => Nat.beq n m && gH n fun i => eqL (eqD fu) (f i) (g i) && (g i).all V.fc
   | .sq n _ f, .sl m g => Nat.beq n m && gH n fun i => eqL (eqD fu) (f i) (g i) && (g i).all V.fc
   | _, _ => false
theorem j5 {w0 : World} {lh : List ac} {p : V -> V -> Bool} (hp : ∀ v x a, p v x = true -> vr w0 lh Nu.nil v a -> vr w0 lh Nu.nil x a) : ∀ (vs xs : List V) (qs : List ab), eqL p vs xs = true -> vrs w0 lh Nu.nil vs qs -> vrs w0 lh Nu.nil xs qs
 | [], [], qs, _, h => h
 | v :: vs, x :: xs, qs, h, h1 => by
   simp only [eqL, Bool.and_eq_true] at h
   simp only [vrs] at h1 ⊢
   obtain ⟨y, ys, rfl, h2, h3⟩ := h1
   exact ⟨y, ys, rfl, hp _ _ _ h.1 h2, j5 hp vs xs ys h.2 h3⟩
 | [], _ :: _, _, h, _ => by simp [eqL] at h
 | _ :: _, [], _, h, _ => by simp [eqL] at h
theorem mT {w0 : World} {lh : List ac} : ∀ (fu : Nat) (v x : V) (a : ab), eqD fu v x = true -> vr w0 lh Nu.nil v a -> vr w0 lh Nu.nil x a
 | 0, v, x, a, h, _ => by simp [eqD] at h
 | fu + 1, v, x, a, h, hv => by
   simp only [eqD] at h
   split at h
   ·simp only [Bool.and_eq_true, decide_eq_true_eq] at h; obtain ⟨rfl, rfl⟩ := h; exact hv
   ·have := eq_of_beq h; subst this; exact hv
   ·have := eq_of_beq h; subst this; simp only [vr] at hv ⊢; exact hv
   ·rename_i s t
    have h0 := of_decide_eq_true h
    have : s = t := by
     cases s with | mk d =>
     cases t with | mk e =>
     have : d = e := Array.toList_inj.1 h0
     rw [this]
    subst this; exact hv
   ·simp only [vr] at hv ⊢
    obtain ⟨qs, rfl, h2⟩ := hv
    exact ⟨qs, rfl, j5 (fun v x a => mT fu v x a) _ _ _ h h2⟩
   ·simp only [Bool.and_eq_true] at h
    have hn := Nat.eq_of_beq_eq_true h.1
    subst hn
    simp only [vr] at hv ⊢
    obtain ⟨p, c, esz, h1, h2, h3, h4, h5⟩ := hv
    refine ⟨p, c, esz, h1, h2, h3, h4, fun i hi => ?_⟩
    obtain ⟨q, qs, g1, g2, g3, g4⟩ := h5 i hi
    have hh := ia h.2 i hi
    simp only [Bool.and_eq_true] at hh
    exact ⟨q, qs, g1, g2, j5 (fun v x a => mT fu v x a) _ _ _ hh.1 g3, hh.2⟩
   ·simp only [Bool.and_eq_true] at h
    have hn := Nat.eq_of_beq_eq_true h.1
    subst hn
    simp only [vr] at hv ⊢
    obtain ⟨p, c, esz, h1, h2, h3, h4, h5⟩ := hv
    refine ⟨p, c, esz, h1, h2.1, h3, h4, fun i hi => ?_⟩
    obtain ⟨q, qs, g1, g2, g3, g4⟩ := h5 i hi
    have hh := ia h.2 i hi
    simp only [Bool.and_eq_true] at hh
    exact ⟨q, qs, g1, g2, j5 (fun v x a => mT fu v x a) _ _ _ hh.1 g3, hh.2⟩
   ·cases h
def atC : List (List V × V) -> aI
 | [], _ => none
 | (ex, r) :: l, ds => cond (eqL (eqD 8) ds ex) (some (([], []), True, r)) (atC l ds)
theorem eR {P : Program} {f : FuncId} {C : aI} (hO : (vP C).Ok P f) : ∀ (l : List (List V × V)), (∀ e ∈ l, ∃ d p, C e.1 = some (d, p, e.2) /\ d.1 = d.2 /\ p) -> (vP (atC l)).Ok P f := by
 intro l hl
 refine ⟨fun B m lh w args vs K hrel hargs hsp => ?_, fun _ _ _ _ _ hk ⟨ds, d, p, r, h1, h2, h3, h4, h5⟩ => ⟨ds, d, p, r, h1, h2, h3, h4, hk _ _ h5⟩, fun _ _ _ _ ⟨_, _, _, _, _, _, _, _, h⟩ => h⟩
 refine hO.sound B m lh w args vs K hrel hargs ?_
 obtain ⟨ds, d, p, r', h1, h2, _, h4, h5⟩ := hsp
 induction l with
 | nil => simp [atC] at h2
 | cons e l ih =>
   simp only [atC] at h2
   cases hb : eqL (eqD 8) ds e.1 with
   | true =>
     rw [hb] at h2
     simp only [cond_true, Option.some.injEq, Prod.mk.injEq] at h2
     obtain ⟨_, _, rfl⟩ := h2
     obtain ⟨d', p', e1, e2, e3⟩ := hl e (List.mem_cons_self ..)
     exact ⟨e.1, d', p', _, j5 (fun v x a => mT 8 v x a) _ _ _ hb h1, e1, ⟨e2, e3⟩, h4, h5⟩
   | false =>
     rw [hb] at h2
     exact ih (fun e he => hl e (List.mem_cons_of_mem _ he)) h2
end Go.Dx
namespace Go.Dx
open Go.Sx
theorem at1 {ts : List Ty} {pre : List V -> Prop} {r : List V -> V} {raw : List V} {res : V} (hp : pre (kA ts (al ts raw))) (hr : r (kA ts (al ts raw)) = res) : ∃ d p, mkC ts pre r (al ts raw) = some (d, p, res) /\ d.1 = d.2 /\ p :=
 ⟨_, _, by rw [mkC, hr], dg ts raw [], hp⟩
theorem dL {α : Type} {a : α} {l : List α} {Q : α -> Prop} (h : Q a) (hl : ∀ e ∈ l, Q e) : ∀ e ∈ a :: l, Q e := fun e he => by
 rcases List.mem_cons.1 he with rfl | he
 ·exact h
 ·exact hl e he
theorem mp {α : Type} {Q : α -> Prop} : ∀ e ∈ ([] : List α), Q e := fun e he => by cases he
end Go.Dx
namespace Go.Dx
open Go.IntKind (i64 u64 u8)
open Go.Sx Go.Proofs
noncomputable section
def AH : bc := (22, .con C22) :: (25, .con C25) :: (15, .con C15) :: nn
theorem BK : aX Tryz.prog eqs its AH := .con CV (.con AO (.con Ba (lO)))
def uB : Unr := fun _ => 1000
def szB (n : Nat) (f : Nat -> List V) : Bool := gH n fun i => Nat.ble (sv (hdV (f i))).size 9223372036854775807
theorem aH {n : Nat} {f : Nat -> List V} (h : szB n f = true) : cG n f := fun i hi => Nat.le_of_ble_eq_true (ia h i hi)
def HW : ByteArray := ⟨#[104, 105, 103, 104]⟩
def GW : ByteArray := ⟨#[122, 101, 98, 114, 97]⟩
def Gz : ByteArray := ⟨#[99, 49]⟩
def exR : Nat -> List V
 | 0 => [.str HW, vi 0, .sl 3 (fun | 0 => [vi 0, vi 0] | 1 => [vi 10000, vi 0] | _ => [vi 10000, vi 10000]), vi 4000]
 | _ => [.str GW, vi 3, .sl 2 (fun | 0 => [vi 5000, vi (-2000)] | _ => [vi 5000, vi 2000]), vi 3000]
def exT : Nat -> List V := fun _ => [vi 4000, vi 3000, vi 1000, vi 20, vi 40]
def exF : Nat -> List V := fun _ => [vi 10000, vi 5000, vi 0, vi 5000, .sl 1 fun _ => [vi 250, vi 750, vi 10, vi 30]]
def exK : Nat -> List V := fun _ => [.str Gz, vi 4000, vi 4000, vi 60, vi 0, vi (-1)]
def exS : V := .agg [.sl 2 exR, .sl 1 exT, .sl 1 exF, .sl 1 exK]
def DQ : List Ty := [.agg [.sl tyR, .sl tyT, .sl tyF, .sl tyC], .sl tp1]
def Fi : aI := atC [(al DQ [exS, .sl 2 (fun | 0 => [vi 0] | _ => [vi 1])], vi 0)]
theorem Ey : (vP Fi).Ok Tryz.prog 44 := eR zh _ (dL (at1 (ts := DQ) (raw := [exS, .sl 2 (fun | 0 => [vi 0] | _ => [vi 1])]) (⟨⟨aH (by kernel_rfl), aH (by kernel_rfl)⟩, rfl, by decide⟩) (by kernel_rfl)) (mp))
def Ej : List Ty := [.agg [.sl tyR, .sl tyT, .sl tyF, .sl tyC]]
def Ea : aI := atC [(al Ej [.agg [.sl 0 exR, .sl 1 (fun _ => [vi 0, vi 0, vi 0, vi 0, vi 0]), .sl 0 exF, .sl 0 exK]], .tup [vi 2, vi 0, vi 7])]
theorem Di : (vP Ea).Ok Tryz.prog 23 := eR zP _ (dL (at1 (ts := Ej) (raw := [.agg [.sl 0 exR, .sl 1 (fun _ => [vi 0, vi 0, vi 0, vi 0, vi 0]), .sl 0 exF, .sl 0 exK]]) (⟨aH (by kernel_rfl), aH (by kernel_rfl)⟩) (by kernel_rfl)) (mp))
def EC : List Ty := [.agg [.sl tyR, .sl tyT, .sl tyF, .sl tyC], .int .i64, .agg tp4]
def EO : aI := atC [(al EC [exS, vi 0, .agg [vi 8500, vi (-1500), vi 11500, vi 1500]], .tup [vi 1, vi 0])]
theorem DR : (vP EO).Ok Tryz.prog 22 := eR CV _ (dL (at1 (ts := EC) (raw := [exS, vi 0, .agg [vi 8500, vi (-1500), vi 11500, vi 1500]]) (⟨aH (by kernel_rfl), aH (by kernel_rfl)⟩) (by kernel_rfl)) (mp))
def FS : List Ty := [.agg [.sl tyR, .sl tyT, .sl tyF, .sl tyC], .int .i64, .int .i64, .int .i64]
def Ep : aI := atC [(al FS [exS, vi 0, vi 4000, vi 5000], .tup [vi (-1), vi 0])]
theorem E5 : (vP Ep).Ok Tryz.prog 15 := eR Ba _ (dL (at1 (ts := FS) (raw := [exS, vi 0, vi 4000, vi 5000]) (⟨aH (by kernel_rfl), aH (by kernel_rfl)⟩) (by kernel_rfl)) (mp))
end
noncomputable section
def yo : bc := [(44, .con Fi), (23, .con Ea), (22, .con EO), (15, .con Ep), (25, .con C25), (55, .con C55), (61, .con C61), (74, .con C74), (108, .con yS), (46, .con C46), (111, .con wH), (56, .con C56), (47, .con C47), (145, .con xY), (140, .con xK), (49, .con C49), (123, .con xI), (30, .con C30), (32, .con C32), (80, .con C80), (62, .con C62), (68, .con C68), (63, .con C63), (69, .con C69), (117, .inl zb u0), (116, .inl zq u0), (115, .con xn), (114, .con yz), (147, .con xH), (64, .con C64), (66, .con C66), (113, .con vv), (65, .con C65), (67, .con C67), (53, .con C53), (45, .con C45), (90, .con C90), (119, .con vp), (121, .con vu), (99, .con C99), (129, .con xQ), (148, .con u9), (149, .con vk), (112, .con uF), (118, .con uV), (120, .con uA), (133, .con vx), (103, .con uD), (100, .con vl), (134, .con uL), (135, .con u6), (78, .con C78), (54, .con C54), (48, .con C48), (102, .con vh), (81, .con C81), (84, .con C84), (85, .con C85), (127, .con uy), (101, .con va), (86, .con C86), (162, .con uu), (146, .con vz), (83, .inl s83 u0), (19, .inl s19 uB), (17, .inl s17 uB), (43, .inl s43 uB), (57, .inl s57 uB), (109, .inl Fb uB), (139, .inl Fr uB), (163, .inl EP uB), (177, .inl FQ uB), (141, .inl Dy uB), (142, .inl EG uB), (143, .inl Dm uB), (131, .inl Bz uB), (161, .inl A7 uB)]
theorem C0 : aX Tryz.prog eqs its yo := .con Ey (.con Di (.con DR (.con E5 (.con AO (.con B4 (.con Bt (.con CZ (.con wE (.con Cb (.con tJ (.con y5 (.con Ab (.con sS (.con sV (.con zm (.con tq (.con z8 (.con y7 (.con zL (.con zO (.con zQ (.con zW (.con zp (.inl Tryz.func117 (by kernel_rfl) (by kernel_rfl) (by kernel_rfl) (.inl Tryz.func116 (by kernel_rfl) (by kernel_rfl) (by kernel_rfl) (.con sM (.con tE (.con sD (.con yK (.con yL (.con q9 (.con vX (.con wG (.con vN (.con xt (.con zj (.con p9 (.con qY (.con v6 (.con uk (.con rr (.con qF (.con qn (.con pI (.con qx (.con pC (.con pD (.con pU (.con qJ (.con qO (.con wQ (.con wp (.con wa (.con pN (.con wj (.con xZ (.con wX (.con pW (.con pS (.con yf (.con qL (.con tg (.inl Tryz.func83 (by kernel_rfl) (by kernel_rfl) (by kernel_rfl) (.inl Tryz.func19 (by kernel_rfl) (by kernel_rfl) (by kernel_rfl) (.inl Tryz.func17 (by kernel_rfl) (by kernel_rfl) (by kernel_rfl) (.inl Tryz.func43 (by kernel_rfl) (by kernel_rfl) (by kernel_rfl) (.inl Tryz.func57 (by kernel_rfl) (by kernel_rfl) (by kernel_rfl) (.inl Tryz.func109 (by kernel_rfl) (by kernel_rfl) (by kernel_rfl) (.inl Tryz.func139 (by kernel_rfl) (by kernel_rfl) (by kernel_rfl) (.inl Tryz.func163 (by kernel_rfl) (by kernel_rfl) (by kernel_rfl) (.inl Tryz.func177 (by kernel_rfl) (by kernel_rfl) (by kernel_rfl) (.inl Tryz.func141 (by kernel_rfl) (by kernel_rfl) (by kernel_rfl) (.inl Tryz.func142 (by kernel_rfl) (by kernel_rfl) (by kernel_rfl) (.inl Tryz.func143 (by kernel_rfl) (by kernel_rfl) (by kernel_rfl) (.inl Tryz.func131 (by kernel_rfl) (by kernel_rfl) (by kernel_rfl) (.inl Tryz.func161 (by kernel_rfl) (by kernel_rfl) (by kernel_rfl) (.nil)))))))))))))))))))))))))))))))))))))))))))))))))))))))))))))))))))))))))))))
theorem EN (w0 : World) : sat (bu w0 (SV yo)) (aY (JJ) yo uB s19 []) (lE (.bool true)) := nx (by kernel_rfl)
def C19 : aI := mkC [] (fun _ => True) fun _ => .bool true
theorem G1 : (vP C19).Ok Tryz.prog 19 := px (J := JJ) (un := uB) C0 hE hI Tryz.func19 (by kernel_rfl) (by kernel_rfl) (by kernel_rfl) rfl (fun w0 ds hp => EN w0)
end
noncomputable section
def CW : bc := AH
theorem Gg : aX Tryz.prog eqs its CW := BK
def kW : List Ty := [.agg [.sl tyR, .sl tyT, .sl tyF, .sl tyC], .sl tp1]
def xB : aI := atC [(al kW [exS, .sl 0 (fun _ => [])], vi 0), (al kW [exS, .sl 2 (fun | 0 => [vi 0] | _ => [vi 2])], vi 0), (al kW [exS, .sl 2 (fun | 0 => [vi 1] | _ => [vi 2])], vi 0), (al kW [exS, .sl 2 (fun | 0 => [vi 0] | _ => [vi 1])], vi 0)]
theorem vO : (vP xB).Ok Tryz.prog 44 := eR zh _ (dL (at1 (ts := kW) (raw := [exS, .sl 0 (fun _ => [])]) (⟨⟨aH (by kernel_rfl), aH (by kernel_rfl)⟩, rfl, by decide⟩) (by kernel_rfl)) (dL (at1 (ts := kW) (raw := [exS, .sl 2 (fun | 0 => [vi 0] | _ => [vi 2])]) (⟨⟨aH (by kernel_rfl), aH (by kernel_rfl)⟩, rfl, by decide⟩) (by kernel_rfl)) (dL (at1 (ts := kW) (raw := [exS, .sl 2 (fun | 0 => [vi 1] | _ => [vi 2])]) (⟨⟨aH (by kernel_rfl), aH (by kernel_rfl)⟩, rfl, by decide⟩) (by kernel_rfl)) (dL (at1 (ts := kW) (raw := [exS, .sl 2 (fun | 0 => [vi 0] | _ => [vi 1])]) (⟨⟨aH (by kernel_rfl), aH (by kernel_rfl)⟩, rfl, by decide⟩) (by kernel_rfl)) (mp)))))
def lg : List Ty := [.agg [.sl tyR, .sl tyT, .sl tyF, .sl tyC], .int .i64, .int .i64, .int .i64]
def AI : aI := atC [(al lg [exS, vi 0, vi 5000, vi 2000], .tup [.bool true, vi 0]), (al lg [exS, vi 0, vi 5000, vi 2001], .tup [.bool false, vi 0]), (al lg [exS, vi 0, vi 12000, vi 0], .tup [.bool true, vi 0]), (al lg [exS, vi 0, vi 11500, vi (-1500)], .tup [.bool false, vi 0])]
theorem Cw : (vP AI).Ok Tryz.prog 25 := eR AO _ (dL (at1 (ts := lg) (raw := [exS, vi 0, vi 5000, vi 2000]) (⟨aH (by kernel_rfl), aH (by kernel_rfl)⟩) (by kernel_rfl)) (dL (at1 (ts := lg) (raw := [exS, vi 0, vi 5000, vi 2001]) (⟨aH (by kernel_rfl), aH (by kernel_rfl)⟩) (by kernel_rfl)) (dL (at1 (ts := lg) (raw := [exS, vi 0, vi 12000, vi 0]) (⟨aH (by kernel_rfl), aH (by kernel_rfl)⟩) (by kernel_rfl)) (dL (at1 (ts := lg) (raw := [exS, vi 0, vi 11500, vi (-1500)]) (⟨aH (by kernel_rfl), aH (by kernel_rfl)⟩) (by kernel_rfl)) (mp)))))
def lk : List Ty := [.agg [.sl tyR, .sl tyT, .sl tyF, .sl tyC], .int .i64, .agg tp4]
def AG : aI := atC [(al lk [exS, vi 0, .agg [vi 0, vi 0, vi 1000, vi 1000]], .tup [vi 2, vi 0]), (al lk [exS, vi 0, .agg [vi 0, vi 1000, vi 1000, vi 2001]], .tup [vi 1, vi 0]), (al lk [exS, vi 0, .agg [vi 0, vi 3000, vi 1000, vi 4000]], .tup [vi 0, vi 0]), (al lk [exS, vi 0, .agg [vi 9000, vi 1000, vi 11000, vi 3000]], .tup [vi 2, vi 0])]
theorem Bj : (vP AG).Ok Tryz.prog 22 := eR CV _ (dL (at1 (ts := lk) (raw := [exS, vi 0, .agg [vi 0, vi 0, vi 1000, vi 1000]]) (⟨aH (by kernel_rfl), aH (by kernel_rfl)⟩) (by kernel_rfl)) (dL (at1 (ts := lk) (raw := [exS, vi 0, .agg [vi 0, vi 1000, vi 1000, vi 2001]]) (⟨aH (by kernel_rfl), aH (by kernel_rfl)⟩) (by kernel_rfl)) (dL (at1 (ts := lk) (raw := [exS, vi 0, .agg [vi 0, vi 3000, vi 1000, vi 4000]]) (⟨aH (by kernel_rfl), aH (by kernel_rfl)⟩) (by kernel_rfl)) (dL (at1 (ts := lk) (raw := [exS, vi 0, .agg [vi 9000, vi 1000, vi 11000, vi 3000]]) (⟨aH (by kernel_rfl), aH (by kernel_rfl)⟩) (by kernel_rfl)) (mp)))))
def iI : List Ty := [.agg [.sl tyR, .sl tyT, .sl tyF, .sl tyC], .int .i64, .int .i64, .int .i64]
def As : aI := atC [(al iI [exS, vi 0, vi 4000, vi 2500], .tup [vi 0, vi 0]), (al iI [exS, vi 0, vi 4000, vi 0], .tup [vi 0, vi 0]), (al iI [exS, vi 0, vi 4000, vi 4000], .tup [vi 0, vi 0]), (al iI [exS, vi 0, vi 4000, vi 5000], .tup [vi (-1), vi 0]), (al iI [exS, vi 0, vi 8000, vi 4000], .tup [vi (-1), vi 0])]
theorem Cg : (vP As).Ok Tryz.prog 15 := eR Ba _ (dL (at1 (ts := iI) (raw := [exS, vi 0, vi 4000, vi 2500]) (⟨aH (by kernel_rfl), aH (by kernel_rfl)⟩) (by kernel_rfl)) (dL (at1 (ts := iI) (raw := [exS, vi 0, vi 4000, vi 0]) (⟨aH (by kernel_rfl), aH (by kernel_rfl)⟩) (by kernel_rfl)) (dL (at1 (ts := iI) (raw := [exS, vi 0, vi 4000, vi 4000]) (⟨aH (by kernel_rfl), aH (by kernel_rfl)⟩) (by kernel_rfl)) (dL (at1 (ts := iI) (raw := [exS, vi 0, vi 4000, vi 5000]) (⟨aH (by kernel_rfl), aH (by kernel_rfl)⟩) (by kernel_rfl)) (dL (at1 (ts := iI) (raw := [exS, vi 0, vi 8000, vi 4000]) (⟨aH (by kernel_rfl), aH (by kernel_rfl)⟩) (by kernel_rfl)) (mp))))))
def At : List Ty := [.agg [.sl tyR, .sl tyT, .sl tyF, .sl tyC], .int .i64, .int .i64]
def Ar : aI := atC [(al At [exS, vi 0, vi 0], .tup [.bool true, vi 0])]
theorem Ch : (vP Ar).Ok Tryz.prog 30 := eR z8 _ (dL (at1 (ts := At) (raw := [exS, vi 0, vi 0]) (⟨aH (by kernel_rfl), aH (by kernel_rfl)⟩) (by kernel_rfl)) (mp))
def Am : List Ty := [.agg [.sl tyR, .sl tyT, .sl tyF, .sl tyC], .int .i64, .int .i64]
def Ai : aI := atC [(al Am [exS, vi 0, vi 0], .tup [.agg [vi 2500, vi 5000, vi 7500, vi 5000, vi 10, vi 30], vi 0])]
theorem AT : (vP Ai).Ok Tryz.prog 32 := eR y7 _ (dL (at1 (ts := Am) (raw := [exS, vi 0, vi 0]) (⟨aH (by kernel_rfl), aH (by kernel_rfl)⟩) (by kernel_rfl)) (mp))
def kV : List Ty := tp2
def Ao : aI := atC [(al kV [vi 2000, vi 4000], vi 0), (al kV [vi 8000, vi 4000], vi 2), (al kV [vi (-5000), vi 4000], vi (-2)), (al kV [vi 5000, vi 4000], vi 1)]
theorem BP : (vP Ao).Ok Tryz.prog 81 := eR wj _ (dL (at1 (ts := kV) (raw := [vi 2000, vi 4000]) ((by decide : (4000 : Int) ≠ 0)) (by kernel_rfl)) (dL (at1 (ts := kV) (raw := [vi 8000, vi 4000]) ((by decide : (4000 : Int) ≠ 0)) (by kernel_rfl)) (dL (at1 (ts := kV) (raw := [vi (-5000), vi 4000]) ((by decide : (4000 : Int) ≠ 0)) (by kernel_rfl)) (dL (at1 (ts := kV) (raw := [vi 5000, vi 4000]) ((by decide : (4000 : Int) ≠ 0)) (by kernel_rfl)) (mp)))))
end
end Go.Dx
namespace Go.Dx
open Go.Sx Go.Proofs
def kp (x y : Int) : Value := .agg #[.int .i64 x, .int .i64 y]
theorem CK : Tryz.prog.underlying 152 = some (.map 72 73) := by kernel_rfl
theorem jck (e : Bool) (x y : Int) (w : World) : (Instr.checkKey e 10000 72 (kp x y)).run Tryz.prog w = .ok () w := by kernel_rfl
theorem z73 (w : World) : (zeroValue 73).run Tryz.prog w = .ok (.slice none 0 0) w := by kernel_rfl
section
variable {r clk : Nat} {arr : Array MapEntry} {w : World} {x y : Int}
theorem uP (hb : w.heap[r]? = some (.map arr clk)) (hf : (Instr.findKey 72 (kp x y) arr.toList).run Tryz.prog w = .ok none w) :
 (Instr.lookup 152 (.map (some r)) (kp x y) false).run Tryz.prog w = .ok (.slice none 0 0) w := by
 simp [Instr.lookup, af CK, MapKept.run_getObj_map hb, jck, hf, z73, Result.andThen]
theorem yT {v : Value} (hb : w.heap[r]? = some (.map arr clk)) (hf : (Instr.findKey 72 (kp x y) arr.toList).run Tryz.prog w = .ok none w) :
 (Instr.mapUpdate 152 (.map (some r)) (kp x y) v).run Tryz.prog w = .ok () { w with heap := w.heap.setIfInBounds r (.map (arr.push { key := kp x y, val := v, born := clk }) (clk + 1)) } := by
 simp [Instr.mapUpdate, af CK, MapKept.run_getObj_map hb, jck, hf, MapKept.run_setObj_map _ hb, Result.andThen]
end
def jpts : List (Int × Int) := [(0, 0), (10000, 0), (10000, 10000), (5000, -2000), (5000, 2000)]
def entL : List (Int × Int) -> List Value -> Nat -> List MapEntry
 | p :: ps, v :: vs, k => { key := kp p.1 p.2, val := v, born := k } :: entL ps vs (k + 1)
 | _, _, _ => []
theorem fk0 (w : World) : (Instr.findKey 72 (kp 0 0) (entL jpts [] 0)).run Tryz.prog w = .ok none w := by kernel_rfl
theorem fk1 (w : World) (a : Value) : (Instr.findKey 72 (kp 10000 0) (entL jpts [a] 0)).run Tryz.prog w = .ok none w := by kernel_rfl
theorem fk2 (w : World) (a b : Value) : (Instr.findKey 72 (kp 10000 10000) (entL jpts [a, b] 0)).run Tryz.prog w = .ok none w := by kernel_rfl
theorem fk3 (w : World) (a b c : Value) : (Instr.findKey 72 (kp 5000 (-2000)) (entL jpts [a, b, c] 0)).run Tryz.prog w = .ok none w := by kernel_rfl
theorem fk4 (w : World) (a b c d : Value) : (Instr.findKey 72 (kp 5000 2000) (entL jpts [a, b, c, d] 0)).run Tryz.prog w = .ok none w := by kernel_rfl
theorem AF {vs : List Value} {p : Int × Int} (hk : jpts[vs.length]? = some p) (w : World) : (Instr.findKey 72 (kp p.1 p.2) (entL jpts vs 0)).run Tryz.prog w = .ok none w := by
 match vs, hk with
 | [], hk => cases hk; exact fk0 w
 | [a], hk => cases hk; exact fk1 w a
 | [a, b], hk => cases hk; exact fk2 w a b
 | [a, b, c], hk => cases hk; exact fk3 w a b c
 | [a, b, c, d], hk => cases hk; exact fk4 w a b c d
 | _ :: _ :: _ :: _ :: _ :: vs, hk => simp [jpts] at hk
theorem wK {vs : List Value} {p : Int × Int} (hk : jpts[vs.length]? = some p) (v : Value) : entL jpts vs 0 ++ [{ key := kp p.1 p.2, val := v, born := vs.length }] = entL jpts (vs ++ [v]) 0 := by
 match vs, hk with
 | [], hk => cases hk; rfl
 | [a], hk => cases hk; rfl
 | [a, b], hk => cases hk; rfl
 | [a, b, c], hk => cases hk; rfl
 | [a, b, c, d], hk => cases hk; rfl
 | _ :: _ :: _ :: _ :: _ :: vs, hk => simp [jpts] at hk
def Raw (G : List (Nat × Value)) (sl : List ab) : Prop := ∀ p ∈ G, sl.getD p.1 .any = .raw p.2
def uE (G : List (Nat × Value)) (d : Option Nat) : Prop := ∀ p ∈ G, d ≠ some p.1
def AQ (G : List (Nat × Value)) (d : Option Nat) : Bool := G.all fun p => match d with
 | some d => !Nat.beq d p.1
 | none => true
theorem bP {G : List (Nat × Value)} {d : Option Nat} (h : AQ G d = true) : uE G d := fun p hp e => by
 subst e
 have := List.all_eq_true.1 h p hp
 simp at this
theorem Raw.put {G : List (Nat × Value)} {sl : List ab} (h : Raw G sl) {d : Option Nat} (hd : uE G d) (v : ab) : Raw G (co sl d v) := fun p hp => by
 rw [kj (hd p hp)]; exact h p hp
theorem Raw.set {G : List (Nat × Value)} {sl : List ab} (h : Raw G sl) {d : Nat} {x v : ab} (hx : sl.getD d .any = x) (hr : ∀ u, x ≠ .raw u) : Raw G (sl.set d v) := fun p hp => by
 have : p.1 ≠ d := fun e => by have := h p hp; rw [e, hx] at this; exact hr _ this
 simp only [List.getD, List.getElem?_set]
 rw [if_neg (fun e => this e.symm)]
 exact h p hp
def mg : List (Nat × Value) -> Nat -> Option Value
 | [], _ => none
 | p :: l, s => cond (Nat.beq s p.1) (some p.2) (mg l s)
theorem ku {sl : List ab} {s : Nat} {v : Value} : ∀ {G : List (Nat × Value)}, Raw G sl -> mg G s = some v -> sl.getD s .any = .raw v
 | [], _, h => by cases h
 | p :: l, hr, h => by
   simp only [mg] at h
   cases hb : Nat.beq s p.1 with
   | true =>
     rw [hb] at h
     cases h
     have := Nat.eq_of_beq_eq_true hb
     rw [this]; exact hr p (List.mem_cons_self ..)
   | false => rw [hb] at h; exact ku (fun q hq => hr q (List.mem_cons_of_mem _ hq)) h
def mvG (G : List (Nat × Value)) (o : SOp) : List (Nat × Value) :=
 match o.guard, o.op, o.dst with
 | none, .mov (.t s), some d => match mg G s with
   | some v => (d, v) :: G
   | none => G
 | _, _, _ => G
def gC : List (Nat × Value) -> List SOp -> List (Nat × Value)
 | G, [] => G
 | G, o :: l => gC (mvG G o) l
def okG : List (Nat × Value) -> List SOp -> Bool
 | _, [] => true
 | G, o :: l => AQ G o.dst && okG (mvG G o) l
theorem ib (G : List (Nat × Value)) (o : SOp) : mvG G o = G ∨ ∃ s d v, o.guard = none /\ o.op = .mov (.t s) /\ o.dst = some d /\ mg G s = some v /\ mvG G o = (d, v) :: G := by
 unfold mvG
 split
 ·rename_i s d hg ho hd
  cases hf : mg G s with
  | none => exact .inl rfl
  | some v => exact .inr ⟨s, d, v, hg, ho, hd, hf, rfl⟩
 ·exact .inl rfl
theorem Raw.cons {G : List (Nat × Value)} {sl : List ab} (h : Raw G sl) {d : Nat} {v : Value} (hd : uE G (some d)) (hl : d < sl.length) : Raw ((d, v) :: G) (co sl (some d) (.raw v)) := fun p hp => by
 rcases List.mem_cons.1 hp with rfl | hp
 ·simp only [co, List.getD, List.getElem?_set_self hl, Option.getD_some]
 ·exact h.put hd (.raw v) p hp
theorem dq (sl : List ab) (d : Option Nat) (v : ab) : (co sl d v).length = sl.length := by cases d <;> simp [co]
section
variable {P : Program} {S : FuncId -> aP} {w0 : World}
theorem i5 (hS : ∀ f, (S f).Ok P f) : ∀ (xs : List SOp) (G : List (Nat × Value)) (sl : List ab) (lh : List ac) (K : List ab -> List ac -> Prop), (∀ o ∈ xs, ∀ d, o.dst = some d -> d < sl.length) -> okG G xs = true -> Raw G sl -> bX w0 S xs sl lh K -> bX w0 S xs sl lh (fun s l => K s l /\ Raw (gC G xs) s)
 | [], G, sl, lh, K, _, _, hr, h => ⟨h, hr⟩
 | o :: rest, G, sl, lh, K, hd, hk, hr, h => by
   simp only [okG, Bool.and_eq_true] at hk
   have ho := bP hk.1
   have hdr : ∀ s : List ab, s.length = sl.length -> ∀ o ∈ rest, ∀ d, o.dst = some d -> d < s.length := fun s hs x hx d hxd => by rw [hs]; exact hd x (List.mem_cons_of_mem _ hx) d hxd
   rcases ib G o with e | ⟨s, d, v, hg, hop, hdst, hf, e⟩
   ·have ih := fun s l (hl : s.length = sl.length) hr h => i5 hS rest G s l K (hdr s hl) (by rw [← e]; exact hk.2) hr h
    simp only [gC, e]
    simp only [bX] at h ⊢
    split
    ·rename_i hg
     rw [hg] at h
     exact ck hS (fun v l h => ih _ _ (dq ..) (hr.put ho v) h) h
    ·rename_i d want hg
     rw [hg] at h
     dsimp only at h
     split at h
     ·rename_i b hb
      refine ⟨fun e => ck hS (fun v l h => ih _ _ (by rw [dq]; simp) ((hr.set hb (by simp)).put ho v) h) (h.1 e), fun e => ih _ _ (by rw [dq]; simp) ((hr.set hb (by simp)).put ho _) (h.2 e)⟩
     ·rename_i vs hb
      exact ih _ _ (by rw [dq]; simp) ((hr.set hb (by simp)).put ho _) h
     ·rename_i hb
      exact ih _ _ (dq ..) (hr.put ho _) h
     ·exact h.elim
   ·simp only [gC, e]
    simp only [bX, hg, hop, vcI, hdst, arg] at h ⊢
    rw [hdst] at ho
    rw [ku hr hf] at h ⊢
    exact i5 hS rest ((d, v) :: G) _ lh K (hdr _ (dq ..)) (by rw [← e]; exact hk.2) (hr.cons ho (hd o (List.mem_cons_self ..) d hdst)) h
theorem fp (hS : ∀ f, (S f).Ok P f) {Ws : List (List Nat)} {n0 : Nat} {K : List ab -> List ac -> Prop} : ∀ (ds : List DOp) (G : List (Nat × Value)) (i : Nat) (sl : List ab) (lh : List ac), (∀ d ∈ ds, ∀ x, d.o.dst = some x -> x < sl.length) -> okG G (ds.map (·.o)) = true -> Raw G sl -> cZ w0 S Ws n0 K ds i sl lh -> cZ w0 S Ws n0 (fun s l => K s l /\ Raw (gC G (ds.map (·.o))) s) ds i sl lh
 | [], G, _, sl, lh, _, _, hr, h => ⟨h, hr⟩
 | d :: rest, G, i, sl, lh, hd, hk, hr, h => by
   simp only [List.map_cons, okG, Bool.and_eq_true] at hk
   have ho := bP hk.1
   have hdr : ∀ s : List ab, s.length = sl.length -> ∀ o ∈ rest, ∀ x, o.o.dst = some x -> x < s.length := fun s hs y hy x hx => by rw [hs]; exact hd y (List.mem_cons_of_mem _ hy) x hx
   simp only [cZ, List.map_cons, gC] at h ⊢
   unfold vcM at h ⊢
   rcases ib G d.o with e | ⟨s, t, v, hg, hop, hdst, hf, e⟩
   ·rw [e] at hk ⊢
    refine eD hS (fun x he => ?_) h
    cases x with
    | run v l => exact fp hS rest G (i + 1) _ _ (hdr _ (dq ..)) hk.2 (hr.put ho v) he
    | skip => exact fp hS rest G (i + 1) _ _ (hdr _ (dq ..)) hk.2 (hr.put ho _) he
   ·rw [e] at hk ⊢
    unfold gF at h ⊢
    simp only [hg, hop, vcI, d0, arg, hdst] at h ⊢
    rw [hdst] at ho
    rw [ku hr hf] at h ⊢
    exact ⟨h.1, fp hS rest ((t, v) :: G) (i + 1) _ _ (hdr _ (dq ..)) hk.2 (hr.cons ho (hd d (List.mem_cons_self ..) t hdst)) h.2⟩
end
def VS (B : ba) (N : Nat) (e : Env) (h : List O) (G : List (Nat × Value)) (a : Act) (w : World) : Prop :=
 ∃ m sl lh ν nV nS, ae m sl a.tmps.toList /\ a.defers = [] /\ ar B m lh w /\ slR B.w0 ν N e sl /\ HR B.w0 ν nV nS h lh /\ Raw G sl
section
variable {B : ba} {N : Nat} {e : Env} {h : List O} {G : List (Nat × Value)} {a : Act} {w : World}
theorem VS.world (hs : VS B N e h G a w) {w' : World} (hH : ∀ m lh, ar B m lh w -> ar B m lh w') : VS B N e h G a w' :=
 let ⟨m, sl, lh, ν, nV, nS, h1, h2, h3, h4, h5, h6⟩ := hs; ⟨m, sl, lh, ν, nV, nS, h1, h2, hH _ _ h3, h4, h5, h6⟩
theorem VS.put (hs : VS B N e h G a w) {d : Nat} (hd : d < N) (hg : uE G (some d)) {x : V} {v : Value} (hx : ∀ ν : Nu, ∀ m : ah, ∃ b, vr B.w0 ν.z ν x b /\ vrel m b v) : VS B N ((d, x) :: e) h G (a.put (some d) v) w := by
 obtain ⟨m, sl, lh, ν, nV, nS, h1, h2, h3, h4, h5, h6⟩ := hs
 obtain ⟨b, g1, g2⟩ := hx ν m
 refine ⟨m, co sl (some d) b, lh, ν, nV, nS, ?_, h2, h3, h4.put (some d) (fun _ e => by cases e; exact hd) g1, h5, h6.put hg b⟩
 rw [jO]
 exact dk d h1 g2
theorem VS.raw (hs : VS B N e h G a w) {d : Nat} (hd : d < N) (hg : uE G (some d)) (v : Value) : VS B N ((d, .any) :: e) h ((d, v) :: G) (a.put (some d) v) w := by
 obtain ⟨m, sl, lh, ν, nV, nS, h1, h2, h3, h4, h5, h6⟩ := hs
 refine ⟨m, co sl (some d) (.raw v), lh, ν, nV, nS, ?_, h2, h3, h4.put (some d) (fun _ e => by cases e; exact hd) (by simp only [vr]), h5, fun p hp => ?_⟩
 ·rw [jO]
  exact dk d h1 (by simp only [vrel])
 ·rcases List.mem_cons.1 hp with rfl | hp
  ·simp only [co, List.getD, List.getElem?_set_self (by rw [h4.len]; exact hd), Option.getD_some]
  ·exact h6.put hg (.raw v) p hp
theorem VS.drop (hs : VS B N e h G a w) {G' : List (Nat × Value)} (hG : ∀ p ∈ G', p ∈ G) : VS B N e h G' a w :=
 let ⟨m, sl, lh, ν, nV, nS, h1, h2, h3, h4, h5, h6⟩ := hs; ⟨m, sl, lh, ν, nV, nS, h1, h2, h3, h4, h5, fun p hp => h6 p (hG p hp)⟩
theorem VS.at_raw (hs : VS B N e h G a w) {d : Nat} {v : Value} (hp : (d, v) ∈ G) : a.tmps[d]? = some v := by
 obtain ⟨m, sl, lh, ν, nV, nS, h1, h2, h3, h4, h5, h6⟩ := hs
 have hr := h6 _ hp
 cases hg : sl[d]? with
 | none => simp [List.getD, hg] at hr
 | some y =>
   obtain ⟨u, hu, hur⟩ := cQ d h1 hg
   simp [List.getD, hg] at hr
   subst hr
   simp only [vrel] at hur
   subst hur
   simpa using hu
theorem VS.at_val (hs : VS B N e h G a w) {d : Nat} {x : V} (hx : bb e d = x) (hd : d < N) : ∃ u b m ν, a.tmps[d]? = some u /\ vr B.w0 (Nu.z ν) ν x b /\ vrel m b u := by
 obtain ⟨m, sl, lh, ν, nV, nS, h1, h2, h3, h4, h5, h6⟩ := hs
 have hr := h4.at' d
 rw [hx] at hr
 have hl : d < sl.length := by rw [h4.len]; exact hd
 have hg : sl[d]? = some sl[d] := List.getElem?_eq_getElem hl
 obtain ⟨u, hu, hur⟩ := cQ d h1 hg
 rw [show sl.getD d .any = sl[d] by simp [List.getD, hg]] at hr
 exact ⟨u, _, m, ν, by simpa using hu, hr, hur⟩
theorem VS.at_bool (hs : VS B N e h G a w) {d : Nat} {b : Bool} (hx : bb e d = .bool b ∨ bb e d = .kb b) (hd : d < N) : a.tmps[d]? = some (.bool b) := by
 rcases hx with hx | hx
 all_goals
  obtain ⟨u, c, m, ν, h1, h2, h3⟩ := hs.at_val hx hd
  simp only [vr] at h2
  subst h2
  simp only [vrel] at h3
  rw [h1, h3]
theorem VS.at_key (hs : VS B N e h G a w) {d : Nat} {x y : Int} (hx : bb e d = .agg [.int .i64 x, .int .i64 y]) (hd : d < N) : a.tmps[d]? = some (kp x y) := by
 obtain ⟨u, c, m, ν, h1, h2, h3⟩ := hs.at_val hx hd
 simp only [vr, vrs] at h2
 obtain ⟨cs, rfl, c1, cs1, rfl, rfl, c2, cs2, rfl, rfl, rfl⟩ := h2
 simp only [vrel, ae] at h3
 obtain ⟨us, rfl, u1, us1, e1, rfl, u2, us2, rfl, rfl, rfl⟩ := h3
 rw [h1]
 unfold kp
 congr 2
 exact Array.toList_inj.1 e1
section
variable {ct : bc} (hT : aX Tryz.prog eqs its ct) {F : Fence} {n : Nat} {ops : Array Oper} {Q : Exit -> Act -> World -> Prop} {rest : List Nat}
include hT
omit hT in
theorem mj : ∀ {xs : List SOp}, bf N xs = true -> ∀ o ∈ xs, ∀ d, o.dst = some d -> d < N
 | [], _, o, ho, _, _ => by cases ho
 | x :: l, h, o, ho, d, hd => by
   obtain ⟨h1, h2⟩ := vM h
   rcases List.mem_cons.1 ho with rfl | ho
   ·exact h1 d hd
   ·exact mj h2 o ho d hd
theorem jW (hF : Go.Sx.Open F) {l : List Oper} {xs : List SOp} {k : Nat} {e1 : Env} {h1 : List O} (hl : ∀ j, j < l.length -> l[j]? = ops[k + j]?) (hc : aN Tryz.prog eqs ops l = some xs) (hd : bf N xs = true) (hk : okG G xs = true) (hs : VS B N e h G a w)
 (hv : sat (bu B.w0 (SV ct)) (cS (iA ct LV) xs e h fun e h => .ret (e, h)) (fun r => r = (e1, h1))) (hQ : ∀ a' w', VS B N e1 h1 (gC G xs) a' w' -> KeepsOthers w w' -> wpOpsIn F n Tryz.prog ops Q rest a' w') : wpOpsIn F n Tryz.prog ops Q (List.range' k l.length ++ rest) a w := by
 obtain ⟨m, sl, lh, ν, nV, nS, q1, q2, q3, q4, q5, q6⟩ := hs
 have hS := hT.ok hE hI LV
 have hvc := dW (S := SV ct LV) (nV := nV) (nS := nS) (jx B.w0 ct hT.dst LV) xs e h ν sl lh _ (fun sl' lh' => ∃ ν' nV nS, slR B.w0 ν' N e1 sl' /\ HR B.w0 ν' nV nS h1 lh') hd q4 q5 hv (fun e' h' ν' sl' lh' _ g1 g2 g3 => by
  have : (e', h') = (e1, h1) := g3
  cases this
  exact ⟨ν', _, _, g1, g2⟩)
 refine fo (B := B.at m lh w []) (S := SV ct LV) hF (fun f => (hS f).sound) hE rest l xs k sl lh m a w _ hl hc (i5 hS xs G sl lh _ (by rw [q4.len]; exact mj hd) hk q6 hvc) ⟨q1, q2, q3.rebase []⟩ fun sl' lh' m' a' w' g1 g2 ⟨⟨ν', nV', nS', g3, g4⟩, g5⟩ => ?_
 obtain ⟨g6, g7⟩ := q3.unbase g1.2.2
 exact hQ a' w' ⟨m', sl', lh', ν', nV', nS', g1.1, g1.2.1, g6, g3, g4, g5⟩ g7
end
end
theorem cV {F : Fence} {n : Nat} {P : Program} {ops : Array Oper} {Q : Exit -> Act -> World -> Prop} {rest : List Nat} {k : Nat} {o : Oper} {a : Act} {w w' : World} {v : Value} (hF : Go.Sx.Open F) (ho : ops[k]? = some o) (hg : o.guard = none) (hr : (o.semAt F.round a.eval).run P w = .ok (.value v) w') (h : wpOpsIn F n P ops Q rest (a.put o.dst v) w') : wpOpsIn F n P ops Q (k :: rest) a w := by
 simp only [wpOpsIn, ho]
 rw [if_pos (by simp [Region.wanted, hg])]
 refine ⟨fun f _ => hF.fn f, ?_⟩
 rw [hr]; exact h
noncomputable def eg : Code -> Code | .seq a _ => a | _ => .skip
noncomputable def cu : Code -> Code | .seq _ b => b | _ => .skip
noncomputable def lD : Code -> Code | .block _ c => c | .loop c => c | .cond _ a _ => a | _ => .skip
noncomputable def eq : Code -> Array Oper | .region _ ops _ => ops | _ => #[]
noncomputable def c41 : Code := Tryz.f41.body.getD .skip
noncomputable def jo0 : Array Oper := eq (eg c41)
noncomputable def jA : Code := eg (cu c41)
noncomputable def jo1 : Array Oper := eq (eg jA)
noncomputable def jo2 : Array Oper := eq (eg (cu jA))
noncomputable def jo3 : Array Oper := eq (eg (lD (cu (cu jA))))
noncomputable def jB : Code := cu (cu c41)
noncomputable def jo4 : Array Oper := eq (eg jB)
noncomputable def jL1 : Code := eg (cu jB)
noncomputable def jo5 : Array Oper := eq (eg jL1)
noncomputable def jK0 : Code := lD (lD (cu jL1))
noncomputable def jo6 : Array Oper := eq (eg jK0)
noncomputable def jb1 : Code := lD (eg (cu (cu jK0)))
noncomputable def uY : Array Oper := eq (cu (cu (cu jK0)))
noncomputable def jo7 : Array Oper := eq (eg jb1)
noncomputable def jo8 : Array Oper := eq (eg (cu jb1))
noncomputable def jK2 : Code := lD (lD (cu (cu jb1)))
noncomputable def jo9 : Array Oper := eq (eg jK2)
noncomputable def jb3 : Code := lD (eg (cu (cu jK2)))
noncomputable def qV : Array Oper := eq (cu (cu (cu jK2)))
noncomputable def yb : Array Oper := eq (eg jb3)
noncomputable def gM : Array Oper := eq (eg (cu jb3))
noncomputable def xc : Array Oper := eq (eg (cu (cu jb3)))
noncomputable def hN : Array Oper := eq (lD (cu (cu (cu jb3))))
noncomputable def jC : Code := cu (cu jB)
noncomputable def uX : Array Oper := eq (eg jC)
noncomputable def jL2 : Code := eg (cu jC)
noncomputable def jQ : Array Oper := eq (eg jL2)
noncomputable def jK4 : Code := lD (lD (cu jL2))
noncomputable def kl : Array Oper := eq (eg jK4)
noncomputable def jb5 : Code := lD (cu (cu jK4))
noncomputable def cW : Array Oper := eq (eg jb5)
noncomputable def fE : Array Oper := eq (eg (cu jb5))
noncomputable def G9 : Array Oper := eq (lD (cu (cu jb5)))
noncomputable def jD : Code := cu (cu jC)
noncomputable def iz : Array Oper := eq (eg jD)
noncomputable def vy : Array Oper := eq (eg (cu jD))
noncomputable def ww : Code := .seq (.region 9 jo9 false) (.seq (.cond (.tmp 32) .skip (.exit 2)) (.seq (.block 3 (.seq (.region 10 yb false) (.seq (.region 11 gM false) (.seq (.region 12 xc false) (.cond (.tmp 50) (.region 13 hN true) .skip))))) (.region 14 qV false)))
noncomputable def uo : Code := .seq (.region 6 jo6 false) (.seq (.cond (.tmp 24) .skip (.exit 0)) (.seq (.block 1 (.seq (.region 7 jo7 false) (.seq (.region 8 jo8 false) (.block 2 (.loop ww))))) (.region 15 uY false)))
noncomputable def xN : Code := .seq (.region 18 kl false) (.seq (.cond (.tmp 62) .skip (.exit 4)) (.block 5 (.seq (.region 19 cW false) (.seq (.region 20 fE false) (.cond (.tmp 68) (.region 21 G9 false) .skip)))))
theorem rq : Tryz.f41.body = some (.seq (.region 0 jo0 false) (.seq (.seq (.region 1 jo1 false) (.seq (.region 2 jo2 false) (.cond (.tmp 17) (.seq (.region 3 jo3 false) .ret) .skip)))
 (.seq (.region 4 jo4 false) (.seq (.seq (.region 5 jo5 false) (.block 0 (.loop uo))) (.seq (.region 16 uX false) (.seq (.seq (.region 17 jQ false) (.block 4 (.loop xN))) (.seq (.region 22 iz false) (.seq (.region 23 vy false) .ret)))))))) := by kernel_rfl
noncomputable def ff : Array Oper := hN.extract 0 6
noncomputable def vg : Nat -> List (List Bool)
 | 0 => [[]]
 | n + 1 => (vg n).map (false :: ·) ++ (vg n).map (true :: ·)
theorem p8 : ∀ l : List Bool, l ∈ vg l.length
 | [] => by simp [vg]
 | b :: l => by
   have := p8 l
   cases b <;> simp [vg, this]
noncomputable def xF (l : List Bool) : Bool := (Region.ready .any hN (l ++ [false]).toArray == (if l.all id then [6] else Region.ready .any ff l.toArray)) && (l.all id == (Region.ready .any ff l.toArray == [])) && (Region.ready .any hN (l ++ [true]).toArray == [] || !l.all id)
theorem AY : (vg 6).all xF = true := by kernel_rfl
theorem zy : (List.range 6).all (fun i => match hN[i]?, ff[i]? with | some a, some b => a.guard.isNone && b.guard.isNone | _, _ => false) = true := by kernel_rfl
theorem vG {i : Nat} (hi : i < 6) : hN[i]? = ff[i]? := by
 unfold ff
 rw [Array.getElem?_extract]
 simp
 omega
def CR (R : Act -> World -> Prop) : Exit -> Act -> World -> Prop
 | .normal, a, w => R a w
 | _, _, _ => False
section
variable {F : Fence} {n : Nat} {P : Program} {Q : Exit -> Act -> World -> Prop}
theorem wA {R : Act -> World -> Prop} {o : Oper} {a : Act} {w : World} {K : Act -> World -> Prop} (hh : o.wpIn F n P a w K (CR R)) : o.wpIn F n P a w K Q := by
 unfold Oper.wpIn at *
 refine ⟨hh.1, ?_⟩
 have hh := hh.2
 generalize (o.semAt F.round a.eval).run P w = r at *
 cases r with
 | ok x w' =>
   cases x <;> simp only [Oper.uponIn] at hh ⊢
   all_goals first
    | exact ⟨hh.1, CallsIn.mono hh.2 (fun e w'' he => by cases e <;> first | exact he | exact he.elim | (obtain ⟨_, _, he⟩ := he; exact he.elim))⟩
    | exact hh
    | exact ⟨hh.1, RoundIn.mono hh.2 (fun e w'' he => by cases e <;> first | exact he | exact he.elim | (obtain ⟨_, _, he⟩ := he; exact he.elim))⟩
 | halt x w' => cases x <;> simp only [Oper.uponIn] at hh ⊢ <;> exact hh.elim
theorem kO {o : Oper} (hg : o.guard = none) (f : Nat -> Option Bool) : Region.wanted o f = true := by simp [Region.wanted, hg]
theorem El : ∀ (fuel : Nat) (l : List Bool) (a : Act) (w : World), l.length = 6 -> wpAnyIn F n P .any ff (CR fun a w => wpOpIn F n P hN Q 6 (fun a w => Q .normal a w) a w) fuel l.toArray a w -> wpAnyIn F n P .any hN Q (fuel + 1) (l ++ [false]).toArray a w := by
 have hrd : ∀ l : List Bool, l.length = 6 -> xF l = true := fun l hl => by
  have := List.all_eq_true.1 AY l (by rw [← hl]; exact p8 l)
  exact this
 have last : ∀ (l : List Bool) (a : Act) (w : World) (fuel : Nat), l.length = 6 -> l.all id = true -> wpOpIn F n P hN Q 6 (fun a w => Q .normal a w) a w -> wpAnyIn F n P .any hN Q (fuel + 1) (l ++ [false]).toArray a w := fun l a w fuel hl hall h => by
  have hk := hrd l hl
  simp only [xF, Bool.and_eq_true, Bool.or_eq_true, beq_iff_eq, hall, if_true, Bool.not_true] at hk
  have e6 : Region.ready .any hN (l ++ [false]).toArray = [6] := hk.1.1
  have e7 : Region.ready .any hN (l ++ [true]).toArray = [] := by simpa using hk.2
  refine ⟨fun he => (by rw [e6] at he; cases he), fun i hi => ?_⟩
  rw [e6] at hi
  obtain rfl : i = 6 := by simpa using hi
  refine wpOpIn_mono (fun a w hq => ?_) h
  have es : ((l ++ [false]).toArray.setIfInBounds 6 true) = (l ++ [true]).toArray := by
   apply Array.toList_inj.1
   simp [Array.toList_setIfInBounds, List.set_append, hl]
  rw [es]
  cases fuel with
  | zero => exact ⟨e7, hq⟩
  | succ fuel => exact ⟨fun _ => hq, fun i hi => (by rw [e7] at hi; cases hi)⟩
 intro fuel
 induction fuel with
 | zero =>
   intro l a w hl h
   have hk := hrd l hl
   simp only [xF, Bool.and_eq_true, beq_iff_eq] at hk
   have hall : l.all id = true := by rw [hk.1.2]; simpa using h.1
   exact last l a w 0 hl hall h.2
 | succ fuel ih =>
   intro l a w hl h
   have hk := hrd l hl
   simp only [xF, Bool.and_eq_true, beq_iff_eq] at hk
   by_cases hall : l.all id = true
   ·have h0 : Region.ready .any ff l.toArray = [] := by have := hk.1.2; rw [hall] at this; simpa using this.symm
    exact last l a w _ hl hall (h.1 h0)
   ·have e1 : Region.ready .any hN (l ++ [false]).toArray = Region.ready .any ff l.toArray := by have := hk.1.1; rw [if_neg hall] at this; exact this
    have h0 : Region.ready .any ff l.toArray ≠ [] := fun e => hall (by rw [hk.1.2, e]; rfl)
    refine ⟨fun he => by rw [e1] at he; exact (h0 he).elim, fun i hi => ?_⟩
    rw [e1] at hi
    have h6 : i < 6 := by
     obtain ⟨_, o, ho, _⟩ := mem_ready.1 hi
     have := (Array.getElem?_eq_some_iff.1 ho).1
     have hs : ff.size <= 6 := by unfold ff; simp; omega
     omega
    have hw := h.2 i hi
    have hg := List.all_eq_true.1 zy i (List.mem_range.2 h6)
    unfold wpOpIn at hw ⊢
    rw [vG h6] at hg ⊢
    cases hoi : ff[i]? with
    | none => rw [hoi] at hg; simp at hg
    | some o =>
      rw [hoi] at hg hw
      simp only [Bool.and_self, Option.isNone_iff_eq_none] at hg hw ⊢
      rw [if_pos (kO hg _)] at hw ⊢
      refine Oper.wpIn_mono (fun a w hq => ?_) (wA hw)
      have es : ((l ++ [false]).toArray.setIfInBounds i true) = (l.set i true ++ [false]).toArray := by
       apply Array.toList_inj.1
       simp [Array.toList_setIfInBounds, List.set_append, hl, h6]
      rw [es]
      refine ih (l.set i true) a w (by simpa using hl) ?_
      have es2 : l.toArray.setIfInBounds i true = (l.set i true).toArray := by
       apply Array.toList_inj.1; simp
      rw [← es2]; exact hq
end
theorem rA {P : Program} {S : FuncId -> aP} {F : Fence} {n : Nat} {B : ba} {eqs : List TypeId} {ops : Array Oper} {ds : List DOp} (hF : Go.Sx.Open F) (hS : ∀ f, (S f).Ok P f) (hE : ∀ t ∈ eqs, bU P t) (hc : dA P eqs ops = some ds) {K : List ab -> List ac -> Prop} {Q : Exit -> Act -> World -> Prop} {sl : List ab} {lh : List ac} {m : ah} {a : Act} {w : World}
 (hs : eY B m sl lh a w) (h : gI B.w0 S ds sl lh K) (hQ : ∀ sl' lh' m' a' w', eY B m' sl' lh' a' w' -> Ext lh m lh' m' -> K sl' lh' -> Q .normal a' w') : P.follows .mixedOrders = true /\ wpAnyIn F n P .any ops Q ops.size (Array.replicate ops.size false) a { w with drawn := w.drawn + 1 } := by
 unfold dA at hc
 split at hc
 ·cases hc
 ·rename_i xs hxs
  split at hc
  ·rename_i hcond
   cases hc
   simp only [Bool.and_eq_true, beq_iff_eq] at hcond
   obtain ⟨⟨⟨⟨h1, h2⟩, h3⟩, h4⟩, h5⟩ := hcond
   obtain ⟨hw, ht⟩ := h
   have hw' : uI (em ops xs (bl xs 0) xs 0) (fj B.w0 lh sl lh.length (em ops xs (bl xs 0) xs 0)) := fun i d hd => by
    refine ⟨fun hnw => ?_, ?_⟩
    ·unfold wOf
     rw [io, hd]
     have := List.all_eq_true.1 h5 d (List.mem_of_getElem? hd)
     simp [hnw] at this
     simp [this, lw]
    ·have := gZ (ds := em ops xs (bl xs 0) xs 0) (em ops xs (bl xs 0) xs 0) 0 (fun j => by simp) hw i d (by simpa using hd)
     simpa using this
   generalize fj B.w0 lh sl lh.length (em ops xs (bl xs 0) xs 0) = Ws at hw ht hw'
   refine ⟨h1, ?_⟩
   have hcl : d9 ops (Array.replicate ops.size false) := fun k o hk => by
    simp [Array.getElem?_replicate] at hk
    split at hk <;> simp at hk
   have hany := fU hS hw' h2 h4 (em ops xs (bl xs 0) xs 0) 0 _ sl _ (fun j => by simp) h3 hcl ht
   rw [← h4]
   have hext : Ext lh m (lh ++ List.replicate (yj (em ops xs (bl xs 0) xs 0)) .dead) m := ⟨ah.le_refl m, fun k hk => ⟨by rw [List.getElem?_append_left (List.getElem?_eq_some_iff.1 hk).1]; exact hk, rfl⟩⟩
   rw [h4] at hany ⊢
   exact iX hF hS hE hxs (mv ops xs (bl xs 0) xs 0) hQ _ _ sl _ m a _ ⟨hs.1, hs.2.1, (hs.2.2.deads _).drew _⟩ hext hany
  ·cases hc
section
variable {ct : bc} (hT : aX Tryz.prog eqs its ct) {F : Fence} {n : Nat} {ops : Array Oper} {Q : Exit -> Act -> World -> Prop}
variable {B : ba} {N : Nat} {e : Env} {h : List O} {G : List (Nat × Value)} {a : Act} {w : World}
include hT
omit hT in
theorem qM : ∀ {ds : List DOp}, l6 N ds = true -> ∀ o ∈ ds, ∀ d, o.o.dst = some d -> d < N
 | [], _, o, ho, _, _ => by cases ho
 | x :: l, h, o, ho, d, hd => by
   obtain ⟨h1, h2⟩ := sH h
   rcases List.mem_cons.1 ho with rfl | ho
   ·exact h1 d hd
   ·exact qM h2 o ho d hd
theorem y4 (hF : Go.Sx.Open F) {ds : List DOp} {e1 : Env} {h1 : List O} (hc : dA Tryz.prog eqs ops = some ds) (hd : l6 N ds = true) (hk : okG G (ds.map (·.o)) = true) (hs : VS B N e h G a w)
 (hv : sat (bu B.w0 (SV ct)) (jY (iY ct) ds e h fun e h => .ret (e, h)) (fun r => r = (e1, h1))) (hQ : ∀ a' w', VS B N e1 h1 (gC G (ds.map (·.o))) a' w' -> KeepsOthers w w' -> Q .normal a' w') : Tryz.prog.follows .mixedOrders = true /\ wpAnyIn F n Tryz.prog .any ops Q ops.size (Array.replicate ops.size false) a { w with drawn := w.drawn + 1 } := by
 obtain ⟨m, sl, lh, ν, nV, nS, q1, q2, q3, q4, q5, q6⟩ := hs
 have hS := hT.ok hE hI LV
 obtain ⟨hw, ht⟩ := kG (S := SV ct LV) (jE B.w0 ct _ LV) (KA := fun sl' lh' => ∃ ν' nV nS, slR B.w0 ν' N e1 sl' /\ HR B.w0 ν' nV nS h1 lh') hd q4 q5 hv (fun e' h' ν' sl' lh' nV nS _ g1 g2 g3 => by
  have : (e', h') = (e1, h1) := g3
  cases this
  exact ⟨ν', _, _, g1, g2⟩)
 refine rA (B := B.at m lh w []) (S := SV ct LV) hF hS hE hc (sl := sl) (lh := lh) (m := m) ⟨q1, q2, q3.rebase []⟩ ⟨hw, fp hS ds G 0 sl _ (by rw [q4.len]; exact qM hd) hk q6 ht⟩ fun sl' lh' m' a' w' g1 g2 ⟨⟨ν', nV', nS', g3, g4⟩, g5⟩ => ?_
 obtain ⟨g6, g7⟩ := q3.unbase g1.2.2
 exact hQ a' w' ⟨m', sl', lh', ν', nV', nS', g1.1, g1.2.1, g6, g3, g4, g5⟩ g7
end
section
variable {α : Type}
def lC : T α -> T α
 | .ret a => .ret a
 | .br b x y => match b with
   | true => .br true (lC x) y
   | false => .br false x (lC y)
 | .ob _ x => .ob true (lC x)
 | .obi c d x => match c with
   | true => .obi true true (lC x)
   | false => .obi false d (lC x)
 | .obp _ x => .obp True (lC x)
 | .obq a _ x => .obq a a (lC x)
 | .asm p x => .asm p (lC x)
 | t => t
def kE : T α -> Option α
 | .ret a => some a
 | .br b x y => match b with
   | true => kE x
   | false => kE y
 | .ob _ x => kE x
 | .obi _ _ x => kE x
 | .obp _ x => kE x
 | .obq _ _ x => kE x
 | .asm _ x => kE x
 | _ => none
theorem Ae {LP : cg} {a : α} : ∀ t : T α, kE t = some a -> sat LP (lC t) (fun r => r = a) := by
 intro t
 induction t with
 | ret b => intro h; exact Option.some.inj h
 | br b x y hx hy =>
   intro h
   cases b with
   | true => exact ⟨fun _ => hx h, fun e => by cases e⟩
   | false => exact ⟨(fun e => by cases e), fun _ => hy h⟩
 | ob b x hx => intro h; exact ⟨rfl, hx h⟩
 | obi c d x hx =>
   intro h
   cases c with
   | true => exact ⟨fun _ => rfl, hx h⟩
   | false => exact ⟨(fun e => by cases e), hx h⟩
 | obp p x hx => intro h; exact ⟨trivial, hx h⟩
 | obq a b x hx => intro h; exact ⟨rfl, hx h⟩
 | asm p x hx => intro h; exact fun _ => hx h
 | fail n => intro h; cases h
 | loop fr b e h g k hk => intro h; cases h
 | all f hf => intro h; cases h
 | und x y hx hy => intro h; cases h
theorem i3 {LP : cg} {a : α} {t : T α} (h1 : lC t = t) (h2 : kE t = some a) : sat LP t (fun r => r = a) := by
 rw [← h1]; exact Ae t h2
end
noncomputable section
def yP : bc := [(130, .inl G3 uB), (152, .inl Gm uB), (131, .inl Bz uB), (161, .inl A7 uB)]
theorem FW : aX Tryz.prog eqs its yP := .inl Tryz.func130 (by kernel_rfl) (by kernel_rfl) (by kernel_rfl) (.inl Tryz.func152 (by kernel_rfl) (by kernel_rfl) (by kernel_rfl) (.inl Tryz.func131 (by kernel_rfl) (by kernel_rfl) (by kernel_rfl) (.inl Tryz.func161 (by kernel_rfl) (by kernel_rfl) (by kernel_rfl) (.nil))))
def D1 : List Ty := [.sl [.int .i64, .int .i64, .sl [.int .i64]], .fn 95 [] []]
theorem FX (w0 : World) (f : Nat -> List V) : sat (bu w0 (SV yP)) (aY JJ yP uB s94 [.sl 0 f, .fn 95 [] []]) (lE (.tup [])) := nx (by kernel_rfl)
def isZ : Nat -> Prop
 | 0 => True
 | _ + 1 => False
theorem Bw : ∀ {n : Nat}, isZ n -> n = 0
 | 0, _ => rfl
 | _ + 1, h => h.elim
def C94 : aI := mkC D1 (fun
 | [.sl n _, _] => isZ n
 | _ => False) fun _ => .tup []
theorem Gr : (vP C94).Ok Tryz.prog 94 := px (J := JJ) (un := uB) FW hE hI Tryz.func94 (by kernel_rfl) (by kernel_rfl) (by kernel_rfl) rfl (fun w0 ds hp => by
 have hp : cz (hdV ds) = 0 := Bw hp
 show sat _ (aY JJ yP uB s94 [.sl (cz (hdV ds)) _, .fn 95 [] []]) _
 rw [hp]
 exact FX w0 _)
def BX : bc := [(44, .con xB), (94, .con C94)]
theorem me : aX Tryz.prog eqs its BX := .con vO (.con Gr (.nil))
end
abbrev St2 := Env × List O
noncomputable def xsO (l : List Oper) (ops : Array Oper) : List SOp := (aN Tryz.prog eqs ops l).getD []
noncomputable def tr (xs : List SOp) (s : St2) : T St2 := cS (iA BX LV) xs s.1 s.2 fun e h => T.ret (e, h)
noncomputable def rn (xs : List SOp) (s : St2) : St2 := (kE (tr xs s)).getD ([], [])
noncomputable def gd (xs : List SOp) (s : St2) : Prop := lC (tr xs s) = tr xs s /\ kE (tr xs s) = some (rn xs s)
noncomputable def xg : List DOp := (dA Tryz.prog eqs ff).getD []
noncomputable def trD (s : St2) : T St2 := jY (iY BX) xg s.1 s.2 fun e h => T.ret (e, h)
noncomputable def rnD (s : St2) : St2 := (kE (trD s)).getD ([], [])
noncomputable def gdD (s : St2) : Prop := lC (trD s) = trD s /\ kE (trD s) = some (rnD s)
noncomputable def x0 := xsO jo0.toList jo0
noncomputable def x1 := xsO jo1.toList jo1
noncomputable def x2 := xsO jo2.toList jo2
noncomputable def x4 := xsO (jo4.toList.drop 1) jo4
noncomputable def x5 := xsO jo5.toList jo5
noncomputable def x6 := xsO jo6.toList jo6
noncomputable def x7 := xsO jo7.toList jo7
noncomputable def x8 := xsO jo8.toList jo8
noncomputable def x9 := xsO jo9.toList jo9
noncomputable def x10 := xsO yb.toList yb
noncomputable def qU := xsO (gM.toList.take 2) gM
noncomputable def nu := xsO (gM.toList.drop 3) gM
noncomputable def x12 := xsO xc.toList xc
noncomputable def x14 := xsO qV.toList qV
noncomputable def x15 := xsO uY.toList uY
noncomputable def e00 : St2 := ([(0, exS)], [])
noncomputable def sa0 : St2 := rn x2 (rn x1 (rn x0 e00))
noncomputable def sa4 : St2 := rn x4 ((19, .any) :: sa0.1, sa0.2)
noncomputable def sa5 : St2 := rn x5 sa4
noncomputable def i11 (s : St2) : St2 := rn qU (rn x10 (rn x9 s))
noncomputable def i12 (s : St2) : St2 := rn x12 (rn nu ((37, .ns) :: (i11 s).1, (i11 s).2))
noncomputable def inn (s : St2) : St2 := rn x14 (rnD (i12 s))
noncomputable def ent (s : St2) : St2 := rn x8 (rn x7 (rn x6 s))
noncomputable def q00 := ent sa5
noncomputable def q01 := inn q00
noncomputable def q02 := inn q01
noncomputable def q03 := inn q02
noncomputable def sa6 := rn x15 (rn x9 q03)
noncomputable def q10 := ent sa6
noncomputable def q11 := inn q10
noncomputable def q12 := inn q11
noncomputable def sa7 := rn x15 (rn x9 q12)
noncomputable def sa8 := rn x6 sa7
theorem g0 : gd x0 e00 /\ gd x1 (rn x0 e00) /\ gd x2 (rn x1 (rn x0 e00)) := ⟨⟨by kernel_rfl, by kernel_rfl⟩, ⟨by kernel_rfl, by kernel_rfl⟩, ⟨by kernel_rfl, by kernel_rfl⟩⟩
theorem g0b : bb sa0.1 17 = .bool false := by kernel_rfl
noncomputable def GI (s : St2) (x y : Int) : Prop := gd x9 s /\ bb (rn x9 s).1 32 = .bool true /\ gd x10 (rn x9 s) /\ gd qU (rn x10 (rn x9 s)) /\ bb (i11 s).1 36 = .agg [.int .i64 x, .int .i64 y] /\ gd nu ((37, .ns) :: (i11 s).1, (i11 s).2) /\ gd x12 (rn nu ((37, .ns) :: (i11 s).1, (i11 s).2)) /\ bb (i12 s).1 50 = .bool true /\ gdD (i12 s) /\ bb (rnD (i12 s)).1 52 = .agg [.int .i64 x, .int .i64 y] /\ (∃ k, bb (rnD (i12 s)).1 56 = .gs k 1) /\ gd x14 (rnD (i12 s))
def gs1 : V -> Bool
 | .gs _ n => Nat.beq n 1
 | _ => false
theorem CU {v : V} (h : gs1 v = true) : ∃ k, v = .gs k 1 := by
 cases v <;> simp only [gs1] at h <;> first | cases h | skip
 rename_i k n
 have := Nat.eq_of_beq_eq_true h
 subst this; exact ⟨k, rfl⟩
theorem qT {s : St2} {x y : Int} (h1 : gd x9 s) (h2 : bb (rn x9 s).1 32 = .bool true) (h3 : gd x10 (rn x9 s)) (h4 : gd qU (rn x10 (rn x9 s))) (h5 : bb (i11 s).1 36 = .agg [.int .i64 x, .int .i64 y]) (h6 : gd nu ((37, .ns) :: (i11 s).1, (i11 s).2)) (h7 : gd x12 (rn nu ((37, .ns) :: (i11 s).1, (i11 s).2))) (h8 : bb (i12 s).1 50 = .bool true) (h9 : gdD (i12 s)) (h10 : bb (rnD (i12 s)).1 52 = .agg [.int .i64 x, .int .i64 y]) (h11 : gs1 (bb (rnD (i12 s)).1 56) = true) (h12 : gd x14 (rnD (i12 s))) : GI s x y := ⟨h1, h2, h3, h4, h5, h6, h7, h8, h9, h10, CU h11, h12⟩
theorem HH : GI q00 0 0 := qT ⟨by kernel_rfl, by kernel_rfl⟩ (by kernel_rfl) ⟨by kernel_rfl, by kernel_rfl⟩ ⟨by kernel_rfl, by kernel_rfl⟩ (by kernel_rfl) ⟨by kernel_rfl, by kernel_rfl⟩ ⟨by kernel_rfl, by kernel_rfl⟩ (by kernel_rfl) ⟨by kernel_rfl, by kernel_rfl⟩ (by kernel_rfl) (by kernel_rfl) ⟨by kernel_rfl, by kernel_rfl⟩
theorem HX : GI q01 10000 0 := qT ⟨by kernel_rfl, by kernel_rfl⟩ (by kernel_rfl) ⟨by kernel_rfl, by kernel_rfl⟩ ⟨by kernel_rfl, by kernel_rfl⟩ (by kernel_rfl) ⟨by kernel_rfl, by kernel_rfl⟩ ⟨by kernel_rfl, by kernel_rfl⟩ (by kernel_rfl) ⟨by kernel_rfl, by kernel_rfl⟩ (by kernel_rfl) (by kernel_rfl) ⟨by kernel_rfl, by kernel_rfl⟩
theorem GB : GI q02 10000 10000 := qT ⟨by kernel_rfl, by kernel_rfl⟩ (by kernel_rfl) ⟨by kernel_rfl, by kernel_rfl⟩ ⟨by kernel_rfl, by kernel_rfl⟩ (by kernel_rfl) ⟨by kernel_rfl, by kernel_rfl⟩ ⟨by kernel_rfl, by kernel_rfl⟩ (by kernel_rfl) ⟨by kernel_rfl, by kernel_rfl⟩ (by kernel_rfl) (by kernel_rfl) ⟨by kernel_rfl, by kernel_rfl⟩
theorem Gq : GI q10 5000 (-2000) := qT ⟨by kernel_rfl, by kernel_rfl⟩ (by kernel_rfl) ⟨by kernel_rfl, by kernel_rfl⟩ ⟨by kernel_rfl, by kernel_rfl⟩ (by kernel_rfl) ⟨by kernel_rfl, by kernel_rfl⟩ ⟨by kernel_rfl, by kernel_rfl⟩ (by kernel_rfl) ⟨by kernel_rfl, by kernel_rfl⟩ (by kernel_rfl) (by kernel_rfl) ⟨by kernel_rfl, by kernel_rfl⟩
theorem GD : GI q11 5000 2000 := qT ⟨by kernel_rfl, by kernel_rfl⟩ (by kernel_rfl) ⟨by kernel_rfl, by kernel_rfl⟩ ⟨by kernel_rfl, by kernel_rfl⟩ (by kernel_rfl) ⟨by kernel_rfl, by kernel_rfl⟩ ⟨by kernel_rfl, by kernel_rfl⟩ (by kernel_rfl) ⟨by kernel_rfl, by kernel_rfl⟩ (by kernel_rfl) (by kernel_rfl) ⟨by kernel_rfl, by kernel_rfl⟩
theorem Ay : gd x4 ((19, .any) :: sa0.1, sa0.2) := ⟨by kernel_rfl, by kernel_rfl⟩
theorem F7 : gd x5 sa4 := ⟨by kernel_rfl, by kernel_rfl⟩
theorem H3 : gd x6 sa5 /\ bb (rn x6 sa5).1 24 = .bool true /\ gd x7 (rn x6 sa5) /\ gd x8 (rn x7 (rn x6 sa5)) := ⟨⟨by kernel_rfl, by kernel_rfl⟩, (by kernel_rfl), ⟨by kernel_rfl, by kernel_rfl⟩, ⟨by kernel_rfl, by kernel_rfl⟩⟩
theorem Hi : gd x6 sa6 /\ bb (rn x6 sa6).1 24 = .bool true /\ gd x7 (rn x6 sa6) /\ gd x8 (rn x7 (rn x6 sa6)) := ⟨⟨by kernel_rfl, by kernel_rfl⟩, (by kernel_rfl), ⟨by kernel_rfl, by kernel_rfl⟩, ⟨by kernel_rfl, by kernel_rfl⟩⟩
theorem GR : gd x9 q03 /\ bb (rn x9 q03).1 32 = .bool false /\ gd x15 (rn x9 q03) := ⟨⟨by kernel_rfl, by kernel_rfl⟩, (by kernel_rfl), ⟨by kernel_rfl, by kernel_rfl⟩⟩
theorem HA : gd x9 q12 /\ bb (rn x9 q12).1 32 = .bool false /\ gd x15 (rn x9 q12) := ⟨⟨by kernel_rfl, by kernel_rfl⟩, (by kernel_rfl), ⟨by kernel_rfl, by kernel_rfl⟩⟩
theorem gy : gd x6 sa7 /\ bb (rn x6 sa7).1 24 = .bool false := ⟨⟨by kernel_rfl, by kernel_rfl⟩, (by kernel_rfl)⟩
theorem gq0 : gd x0 e00 /\ gd x1 (rn x0 e00) /\ gd x2 (rn x1 (rn x0 e00)) := ⟨⟨by kernel_rfl, by kernel_rfl⟩, ⟨by kernel_rfl, by kernel_rfl⟩, ⟨by kernel_rfl, by kernel_rfl⟩⟩
theorem Gj : aN Tryz.prog eqs jo0 jo0.toList = some x0 /\ bf 81 x0 = true := ⟨by kernel_rfl, by kernel_rfl⟩
theorem HB : aN Tryz.prog eqs jo1 jo1.toList = some x1 /\ bf 81 x1 = true := ⟨by kernel_rfl, by kernel_rfl⟩
theorem GZ : aN Tryz.prog eqs jo2 jo2.toList = some x2 /\ bf 81 x2 = true := ⟨by kernel_rfl, by kernel_rfl⟩
theorem FB : aN Tryz.prog eqs jo4 (jo4.toList.drop 1) = some x4 /\ bf 81 x4 = true := ⟨by kernel_rfl, by kernel_rfl⟩
theorem H2 : aN Tryz.prog eqs jo5 jo5.toList = some x5 /\ bf 81 x5 = true := ⟨by kernel_rfl, by kernel_rfl⟩
theorem GH (m : Value) : okG [(5, m)] x5 = true := by kernel_rfl
theorem Do : aN Tryz.prog eqs jo6 jo6.toList = some x6 /\ bf 81 x6 = true := ⟨by kernel_rfl, by kernel_rfl⟩
theorem DN (m : Value) : okG [(5, m)] x6 = true := by kernel_rfl
theorem Hx : aN Tryz.prog eqs jo7 jo7.toList = some x7 /\ bf 81 x7 = true := ⟨by kernel_rfl, by kernel_rfl⟩
theorem GM (m : Value) : okG [(5, m)] x7 = true := by kernel_rfl
theorem H9 : aN Tryz.prog eqs jo8 jo8.toList = some x8 /\ bf 81 x8 = true := ⟨by kernel_rfl, by kernel_rfl⟩
theorem Hv (m : Value) : okG [(5, m)] x8 = true := by kernel_rfl
theorem E6 : aN Tryz.prog eqs jo9 jo9.toList = some x9 /\ bf 81 x9 = true := ⟨by kernel_rfl, by kernel_rfl⟩
theorem Ew (m : Value) : okG [(5, m)] x9 = true := by kernel_rfl
theorem DX : aN Tryz.prog eqs yb yb.toList = some x10 /\ bf 81 x10 = true := ⟨by kernel_rfl, by kernel_rfl⟩
theorem Fw (m : Value) : okG [(5, m)] x10 = true := by kernel_rfl
theorem xw : aN Tryz.prog eqs gM (gM.toList.take 2) = some qU /\ bf 81 qU = true := ⟨by kernel_rfl, by kernel_rfl⟩
theorem A5 (m : Value) : okG [(5, m)] qU = true := by kernel_rfl
theorem ya : aN Tryz.prog eqs gM (gM.toList.drop 3) = some nu /\ bf 81 nu = true := ⟨by kernel_rfl, by kernel_rfl⟩
theorem CH (m : Value) : okG [(5, m)] nu = true := by kernel_rfl
theorem Gc : aN Tryz.prog eqs xc xc.toList = some x12 /\ bf 81 x12 = true := ⟨by kernel_rfl, by kernel_rfl⟩
theorem Fz (m : Value) : okG [(5, m)] x12 = true := by kernel_rfl
theorem De : aN Tryz.prog eqs qV qV.toList = some x14 /\ bf 81 x14 = true := ⟨by kernel_rfl, by kernel_rfl⟩
theorem E9 (m : Value) : okG [(5, m)] x14 = true := by kernel_rfl
theorem FH : aN Tryz.prog eqs uY uY.toList = some x15 /\ bf 81 x15 = true := ⟨by kernel_rfl, by kernel_rfl⟩
theorem Ds (m : Value) : okG [(5, m)] x15 = true := by kernel_rfl
theorem EZ : dA Tryz.prog eqs ff = some xg /\ l6 81 xg = true := ⟨by kernel_rfl, by kernel_rfl⟩
theorem HG (m : Value) : okG [(5, m)] (xg.map (·.o)) = true := by kernel_rfl
theorem G6 (m : Value) : gC [(5, m)] (xg.map (·.o)) = [(51, m), (5, m)] := by kernel_rfl
theorem If (m : Value) : gC [(5, m)] qU = [(35, m), (5, m)] := by kernel_rfl
theorem f_4 (m : Value) : gC [(19, m)] x4 = [(5, m), (19, m)] := by kernel_rfl
theorem k4 (m : Value) : okG [(19, m)] x4 = true := by kernel_rfl
theorem zx {G : List (Nat × Value)} {o : SOp} {p : Nat × Value} (h : p ∈ G) : p ∈ mvG G o := by
 rcases ib G o with e | ⟨_, _, _, _, _, _, _, e⟩
 ·rw [e]; exact h
 ·rw [e]; exact List.mem_cons_of_mem _ h
theorem kk {p : Nat × Value} : ∀ {xs : List SOp} {G : List (Nat × Value)}, p ∈ G -> p ∈ gC G xs
 | [], _, h => h
 | o :: l, G, h => kk (xs := l) (zx h)
structure MS (B : ba) (r : Nat) (vs : List Value) (w : World) : Prop where
 hp : w.heap[r]? = some (.map (entL jpts vs 0).toArray vs.length)
 ln : ∀ v ∈ vs, ∃ q c, v = .slice q 1 c
 z0 : B.w0.heap.size <= r
 zf : B.wf.heap.size <= r
theorem MS.keep {B : ba} {r : Nat} {vs : List Value} {w w' : World} (h : MS B r vs w) (k : KeepsOthers w w') : MS B r vs w' := ⟨k.same r _ h.hp rfl, h.ln, h.z0, h.zf⟩
theorem aU {a : Act} {d : Nat} {v : Value} (h : a.tmps[d]? = some v) : a.eval (.tmp d) = v := by
 simp [Act.eval, Array.getD_eq_getD_getElem?, h]
noncomputable def oLk : Oper := (gM[2]?).getD default
theorem pc : gM[2]? = some oLk /\ oLk.guard = none /\ oLk.dst = some 37 /\ oLk.op = .lookup 152 (.tmp 35) (.tmp 36) false := ⟨by kernel_rfl, by kernel_rfl, by kernel_rfl, by kernel_rfl⟩
noncomputable def oUp : Oper := (hN[6]?).getD default
theorem oK : hN[6]? = some oUp /\ oUp.guard = none /\ oUp.dst = none /\ oUp.op = .mapUpdate 152 (.tmp 51) (.tmp 52) (.tmp 56) := ⟨by kernel_rfl, by kernel_rfl, by kernel_rfl, by kernel_rfl⟩
theorem xS {o : Oper} {t : TypeId} {x y : Operand} {b : Bool} (ho : o.op = .lookup t x y b) (ro : Option Nat) (ρ : Operand -> Value) : o.semAt ro ρ = (do pure (.value (← Instr.lookup t (ρ x) (ρ y) b))) := by
 rw [Oper.semAt_eq _ _ _ (fun c h => by rw [ho] at h; cases h)]
 unfold execOp
 rw [ho]
theorem xb {o : Oper} {t : TypeId} {x y z : Operand} (ho : o.op = .mapUpdate t x y z) (ro : Option Nat) (ρ : Operand -> Value) : o.semAt ro ρ = (do Instr.mapUpdate t (ρ x) (ρ y) (ρ z); pure .skip) := by
 rw [Oper.semAt_eq _ _ _ (fun c h => by rw [ho] at h; cases h)]
 unfold execOp
 rw [ho]
section
variable {B : ba} {F : Fence} {n : Nat} {Q : Exit -> Act -> World -> Prop} {a : Act} {w : World} {G : List (Nat × Value)}
theorem iB (hF : Go.Sx.Open F) {id : Nat} {ops : Array Oper} {xs : List SOp} {s : St2} (hc : aN Tryz.prog eqs ops ops.toList = some xs /\ bf 81 xs = true) (hk : okG G xs = true) (hs : VS B 81 s.1 s.2 G a w) (hg : gd xs s) (hQ : ∀ a' w', VS B 81 (rn xs s).1 (rn xs s).2 G a' w' -> KeepsOthers w w' -> Q .normal a' w') : (Code.region id ops false).wpIn F n Tryz.prog Q a w := by
 refine wpIn_region ?_
 have := jW me hF (n := n) (ops := ops) (Q := Q) (rest := []) (l := ops.toList) (k := 0) (e1 := (rn xs s).1) (h1 := (rn xs s).2) (by simp) hc.1 hc.2 hk hs (i3 hg.1 hg.2) (fun a' w' g1 g2 => by simpa [wpOpsIn] using hQ a' w' (g1.drop fun p hp => kk hp) g2)
 rw [List.append_nil] at this
 rwa [List.range_eq_range', ← Array.length_toList]
theorem E2 (hF : Go.Sx.Open F) {s : St2} {x y : Int} {r : Nat} {K : Act -> World -> Prop} (hg : GI s x y) {vs : List Value} (hp : jpts[vs.length]? = some (x, y)) (hs : VS B 81 s.1 s.2 [(5, .map (some r))] a w) (hm : MS B r vs w)
 (hQ : ∀ a' w' v, VS B 81 (inn s).1 (inn s).2 [(5, .map (some r))] a' w' -> MS B r (vs ++ [v]) w' -> K a' w') : ww.wpIn F n Tryz.prog (Exit.then K Q) a w := by
 obtain ⟨g1, g2, g3, g4, g5, g6, g7, g8, g9, g10, ⟨k, g11⟩, g12⟩ := hg
 unfold ww
 refine wpIn_seq (iB hF E6 (Ew _) hs g1 fun a1 w1 h1 k1 => ?_)
 have m1 := hm.keep k1
 refine wpIn_seq (wpIn_cond_true (aU (h1.at_bool (.inl g2) (by decide))) (wpIn_skip ?_))
 refine wpIn_seq (wpIn_block (wpIn_seq (iB hF DX (Fw _) h1 g3 fun a2 w2 h2 k2 => ?_)))
 have m2 := m1.keep k2
 refine wpIn_seq (wpIn_region ?_)
 have e11 : List.range gM.size = List.range' 0 (gM.toList.take 2).length ++ [2, 3] := by kernel_rfl
 rw [e11]
 have l11 : (gM.toList.take 2).length = 2 := by kernel_rfl
 refine jW me hF (l := gM.toList.take 2) (k := 0) (xs := qU) (e1 := (i11 s).1) (h1 := (i11 s).2) (fun j hj => by rw [List.getElem?_take, if_pos (by omega)]; simp) xw.1 xw.2 (A5 _) h2 (i3 g4.1 g4.2) fun a3 w3 h3 k3 => ?_
 rw [If] at h3
 have m3 := m2.keep k3
 refine cV (v := .slice none 0 0) (w' := w3) hF pc.1 pc.2.1 ?_ ?_
 ·rw [xS pc.2.2.2, aU (h3.at_raw (v := .map (some r)) (by simp)), aU (h3.at_key g5 (by decide))]
  simp only [Sem.run_bind]
  rw [uP m3.hp (by have := AF hp w3; simpa using this)]
  rfl
 rw [pc.2.2.1]
 have h4 := (h3.drop (G' := [(5, .map (some r))]) (by simp)).put (d := 37) (x := .ns) (v := .slice none 0 0) (by decide) (bP rfl) (fun ν m => ⟨.slice none 0 0, by simp only [vr], by simp only [vrel, bx]; exact ⟨none, rfl, rfl⟩⟩)
 have e12 : [3] = List.range' 3 (gM.toList.drop 3).length ++ [] := by kernel_rfl
 rw [e12]
 refine jW me hF (l := gM.toList.drop 3) (k := 3) (xs := nu) (e1 := (rn nu ((37, .ns) :: (i11 s).1, (i11 s).2)).1) (h1 := (rn nu ((37, .ns) :: (i11 s).1, (i11 s).2)).2) (by intro j hj; simp) ya.1 ya.2 (CH _) h4 (i3 g6.1 g6.2) fun a4 w4 h5 k4 => ?_
 have m4 := m3.keep k4
 have h5 := h5.drop (G' := [(5, .map (some r))]) (fun p hp => kk hp)
 show (Code.seq _ _).wpIn F n Tryz.prog _ a4 w4
 refine wpIn_seq (iB hF Gc (Fz _) h5 g7 fun a5 w5 h6 k5 => ?_)
 have m5 := m4.keep k5
 refine wpIn_cond_true (aU (h6.at_bool (.inl g8) (by decide))) ?_
 obtain ⟨d1, d2⟩ := y4 me hF (n := n) (Q := CR fun a w => wpOpIn F n Tryz.prog hN (Exit.inBlock 3 (Exit.then (Code.wpIn F n Tryz.prog (Code.region 14 qV false) (Exit.then K Q)) (Exit.then K Q))) 6 (fun a w => Exit.inBlock 3 (Exit.then (Code.wpIn F n Tryz.prog (Code.region 14 qV false) (Exit.then K Q)) (Exit.then K Q)) .normal a w) a w) (e1 := (rnD (i12 s)).1) (h1 := (rnD (i12 s)).2) EZ.1 EZ.2 (HG _) h6 (i3 g9.1 g9.2) (fun a6 w6 h7 k6 => by
  rw [G6] at h7
  have m6 := m5.keep k6
  show wpOpIn F n Tryz.prog hN _ 6 _ a6 w6
  unfold wpOpIn
  rw [oK.1]
  simp only
  rw [if_pos (kO oK.2.1 _)]
  obtain ⟨u, b, mm, ν, q1, q2, q3⟩ := h7.at_val g11 (by decide)
  have hu : ∃ q c, u = .slice q 1 c := by
   simp only [vr] at q2
   rcases q2 with ⟨_, hc, _⟩ | ⟨b1, c, e1, _, rfl, _⟩
   ·cases hc
   ·simp only [vrel] at q3
    obtain ⟨q, rfl, _⟩ := q3
    exact ⟨q, c, rfl⟩
  refine ⟨fun f _ => hF.fn f, ?_⟩
  rw [xb oK.2.2.2, aU (h7.at_raw (v := .map (some r)) (by simp)), aU (h7.at_key g10 (by decide)), aU q1]
  simp only [Sem.run_bind]
  rw [yT m6.hp (by have := AF hp w6; simpa using this)]
  show Code.wpIn F n Tryz.prog (Code.region 14 qV false) (Exit.then K Q) (a6.put oUp.dst undef) _
  rw [oK.2.2.1]
  have hw : ∀ m lh, ar B m lh w6 -> ar B m lh (w6.putObj r (.map (((entL jpts vs 0).toArray).push { key := kp x y, val := u, born := vs.length }) (vs.length + 1))) := fun m lh hr => hr.putObj m6.hp rfl m6.zf m6.z0 _
  have h8 := (h7.drop (G' := [(5, .map (some r))]) (by simp)).world hw
  refine iB hF De (E9 _) h8 g12 fun a7 w7 h9 k7 => ?_
  refine hQ a7 w7 u h9 (MS.keep ⟨?_, ?_, m6.z0, m6.zf⟩ k7)
  ·have hlt : r < w6.heap.size := (Array.getElem?_eq_some_iff.1 m6.hp).1
   show (w6.putObj r _).heap[r]? = _
   rw [World.putObj_heap_same hlt]
   have := wK hp u
   simp only [List.push_toArray, List.length_append, List.length_singleton]
   rw [this]
  ·intro v hv
   rcases List.mem_append.1 hv with hv | hv
   ·exact m6.ln v hv
   ·rw [List.mem_singleton.1 hv]; exact hu)
 exact wpIn_region_any d1 (El 6 [false, false, false, false, false, false] a5 _ rfl d2)
end
section
variable {B : ba} {F : Fence} {n : Nat} {Q : Exit -> Act -> World -> Prop} {a : Act} {w : World} {r : Nat}
theorem ET (hF : Go.Sx.Open F) {st : Nat -> St2} {c b : Nat} (hst : ∀ j, j < c -> st (j + 1) = inn (st j)) (hgi : ∀ j, j < c -> ∃ x y, GI (st j) x y /\ jpts[b + j]? = some (x, y)) (hx : gd x9 (st c) /\ bb (rn x9 (st c)).1 32 = .bool false) {vs : List Value} (hl : vs.length = b)
 (hs : VS B 81 (st 0).1 (st 0).2 [(5, .map (some r))] a w) (hm : MS B r vs w) (hQ : ∀ a' w' vs', vs'.length = b + c -> VS B 81 (rn x9 (st c)).1 (rn x9 (st c)).2 [(5, .map (some r))] a' w' -> MS B r vs' w' -> Q .normal a' w') : (Code.block 2 (.loop ww)).wpIn F n Tryz.prog Q a w := by
 refine wpIn_block (cw (I := fun k a w => ∃ j vs, j <= c /\ k = c - j /\ vs.length = b + j /\ VS B 81 (st j).1 (st j).2 [(5, .map (some r))] a w /\ MS B r vs w) ⟨c, 0, vs, Nat.zero_le _, rfl, hl, hs, hm⟩ ?_)
 rintro k a w ⟨j, vs, hj, rfl, hl, hs, hm⟩
 by_cases hlt : j < c
 ·obtain ⟨x, y, hg, hp⟩ := hgi j hlt
  refine E2 hF hg (by rw [hl]; exact hp) hs hm fun a' w' v h1 h2 => ?_
  refine ⟨c - (j + 1), by omega, j + 1, vs ++ [v], hlt, rfl, by simp; omega, ?_, h2⟩
  rw [hst j hlt]; exact h1
 ·have e : j = c := by omega
  subst e
  unfold ww
  refine wpIn_seq (iB hF E6 (Ew _) hs hx.1 fun a1 w1 h1 k1 => ?_)
  refine wpIn_seq (wpIn_cond_false (aU (h1.at_bool (.inl hx.2) (by decide))) (wpIn_exit ?_))
  show Exit.inBlock 2 Q (.exit 2) a1 w1
  simp only [Exit.inBlock, if_true]
  exact hQ a1 w1 vs hl h1 (hm.keep k1)
theorem Fu (hF : Go.Sx.Open F) {s : St2} {K : Act -> World -> Prop} (hg : gd x6 s /\ bb (rn x6 s).1 24 = .bool true /\ gd x7 (rn x6 s) /\ gd x8 (rn x7 (rn x6 s))) {st : Nat -> St2} {c b : Nat} (h0 : st 0 = ent s) (hst : ∀ j, j < c -> st (j + 1) = inn (st j)) (hgi : ∀ j, j < c -> ∃ x y, GI (st j) x y /\ jpts[b + j]? = some (x, y))
 (hx : gd x9 (st c) /\ bb (rn x9 (st c)).1 32 = .bool false /\ gd x15 (rn x9 (st c))) {vs : List Value} (hl : vs.length = b) (hs : VS B 81 s.1 s.2 [(5, .map (some r))] a w) (hm : MS B r vs w)
 (hQ : ∀ a' w' vs', vs'.length = b + c -> VS B 81 (rn x15 (rn x9 (st c))).1 (rn x15 (rn x9 (st c))).2 [(5, .map (some r))] a' w' -> MS B r vs' w' -> K a' w') : uo.wpIn F n Tryz.prog (Exit.then K Q) a w := by
 unfold uo
 refine wpIn_seq (iB hF Do (DN _) hs hg.1 fun a1 w1 h1 k1 => ?_)
 have m1 := hm.keep k1
 refine wpIn_seq (wpIn_cond_true (aU (h1.at_bool (.inl hg.2.1) (by decide))) (wpIn_skip ?_))
 refine wpIn_seq (wpIn_block (wpIn_seq (iB hF Hx (GM _) h1 hg.2.2.1 fun a2 w2 h2 k2 => ?_)))
 have m2 := m1.keep k2
 refine wpIn_seq (iB hF H9 (Hv _) h2 hg.2.2.2 fun a3 w3 h3 k3 => ?_)
 have m3 := m2.keep k3
 refine ET hF hst hgi ⟨hx.1, hx.2.1⟩ hl (by rw [h0]; exact h3) m3 fun a4 w4 vs' hl' h4 m4 => ?_
 show Code.wpIn F n Tryz.prog (Code.region 15 uY false) (Exit.then K Q) a4 w4
 exact iB hF FH (Ds _) h4 hx.2.2 fun a5 w5 h5 k5 => hQ a5 w5 vs' hl' h5 (m4.keep k5)
noncomputable def st0 : Nat -> St2
 | 0 => q00
 | 1 => q01
 | 2 => q02
 | _ => q03
noncomputable def Il : Nat -> St2
 | 0 => q10
 | 1 => q11
 | _ => q12
theorem fill (hF : Go.Sx.Open F) (hs : VS B 81 sa5.1 sa5.2 [(5, .map (some r))] a w) (hm : MS B r [] w)
 (hQ : ∀ a' w' vs', vs'.length = 5 -> VS B 81 (rn x6 sa7).1 (rn x6 sa7).2 [(5, .map (some r))] a' w' -> MS B r vs' w' -> Q .normal a' w') : (Code.block 0 (.loop uo)).wpIn F n Tryz.prog Q a w := by
 refine wpIn_block (cw (I := fun k a w => ∃ vs, MS B r vs w /\ ((k = 2 /\ vs.length = 0 /\ VS B 81 sa5.1 sa5.2 [(5, .map (some r))] a w) ∨ (k = 1 /\ vs.length = 3 /\ VS B 81 sa6.1 sa6.2 [(5, .map (some r))] a w) ∨ (k = 0 /\ vs.length = 5 /\ VS B 81 sa7.1 sa7.2 [(5, .map (some r))] a w))) ⟨2, [], hm, .inl ⟨rfl, rfl, hs⟩⟩ ?_)
 rintro k a w ⟨vs, hm, ⟨rfl, hl, hs⟩ | ⟨rfl, hl, hs⟩ | ⟨rfl, hl, hs⟩⟩
 ·refine Fu hF H3 (st := st0) (c := 3) (b := 0) rfl (fun j hj => ?_) (fun j hj => ?_) GR hl hs hm fun a' w' vs' hl' h' m' => ⟨1, by omega, vs', m', .inr (.inl ⟨rfl, by omega, h'⟩)⟩
  ·match j, hj with
   | 0, _ => rfl
   | 1, _ => rfl
   | 2, _ => rfl
  ·match j, hj with
   | 0, _ => exact ⟨_, _, HH, rfl⟩
   | 1, _ => exact ⟨_, _, HX, rfl⟩
   | 2, _ => exact ⟨_, _, GB, rfl⟩
 ·refine Fu hF Hi (st := Il) (c := 2) (b := 3) rfl (fun j hj => ?_) (fun j hj => ?_) HA hl hs hm fun a' w' vs' hl' h' m' => ⟨0, by omega, vs', m', .inr (.inr ⟨rfl, by omega, h'⟩)⟩
  ·match j, hj with
   | 0, _ => rfl
   | 1, _ => rfl
  ·match j, hj with
   | 0, _ => exact ⟨_, _, Gq, rfl⟩
   | 1, _ => exact ⟨_, _, GD, rfl⟩
 ·unfold uo
  refine wpIn_seq (iB hF Do (DN _) hs gy.1 fun a1 w1 h1 k1 => ?_)
  refine wpIn_seq (wpIn_cond_false (aU (h1.at_bool (.inl gy.2) (by decide))) (wpIn_exit ?_))
  show Exit.inBlock 0 Q (.exit 0) a1 w1
  simp only [Exit.inBlock, if_true]
  exact hQ a1 w1 vs hl h1 (hm.keep k1)
end
section
variable {B : ba} {N : Nat} {e : Env} {h : List O} {G : List (Nat × Value)} {a : Act} {w : World}
theorem VS.env (hs : VS B N e h G a w) {e' : Env} (he : ∀ d, bb e' d = .any ∨ bb e' d = bb e d) : VS B N e' h G a w :=
 let ⟨m, sl, lh, ν, nV, nS, h1, h2, h3, h4, h5, h6⟩ := hs
 ⟨m, sl, lh, ν, nV, nS, h1, h2, h3, ⟨h4.len, fun i => by
   rcases he i with e | e
   ·rw [e]; simp only [vr]
   ·rw [e]; exact h4.at' i⟩, h5, h6⟩
def wk : List Nat -> Env -> Env
 | [], e => e
 | d :: ds, e => (d, .any) :: wk ds e
theorem yp {e : Env} {d : Nat} : ∀ {ds : List Nat}, d ∈ ds -> bb (wk ds e) d = .any
 | x :: ds, hm => by
   simp only [wk, cE]
   split
   ·rfl
   ·rcases List.mem_cons.1 hm with e | hm
    ·contradiction
    ·exact yp hm
theorem Au {e : Env} {d : Nat} : ∀ (ds : List Nat), bb (wk ds e) d = .any ∨ bb (wk ds e) d = bb e d
 | [] => .inr rfl
 | x :: ds => by
   simp only [wk, cE]
   split
   ·exact .inl rfl
   ·exact Au ds
theorem VS.rw {ds : List Nat} (hs : VS B N (wk ds e) h G a w) {d : Nat} (hm : d ∈ ds) (hd : d < N) (hg : uE G (some d)) (v : Value) : VS B N (wk ds e) h ((d, v) :: G) (a.put (some d) v) w :=
 (hs.raw hd hg v).env fun i => by
   rw [cE]
   split
   ·rename_i e; subst e; exact .inl (yp hm)
   ·exact .inr rfl
theorem vH {F : Fence} {n : Nat} {P : Program} {ops : Array Oper} {Q : Exit -> Act -> World -> Prop} {rest : List Nat} {k : Nat} {o : Oper} {w' : World} (hF : Go.Sx.Open F) (ho : ops[k]? = some o) (hg : o.guard = none) (hd : o.dst = none) (hr : (o.semAt F.round a.eval).run P w = .ok .skip w') (h : wpOpsIn F n P ops Q rest a w') : wpOpsIn F n P ops Q (k :: rest) a w := by
 simp only [wpOpsIn, ho]
 rw [if_pos (by simp [Region.wanted, hg])]
 refine ⟨fun f _ => hF.fn f, ?_⟩
 rw [hr]
 show wpOpsIn F n P ops Q rest (a.put o.dst undef) w'
 rw [hd]; exact h
end
section
variable {o : Oper} {t : TypeId} {x y : Operand} {i : Nat} {ro : Option Nat} {ρ : Operand -> Value} {w : World}
theorem rJ (ho : o.op = .move x ∨ o.op = .assign x) : (o.semAt ro ρ).run Tryz.prog w = .ok (.value (ρ x)) w := by
 rcases ho with ho | ho
 all_goals
  rw [Oper.semAt_eq _ _ _ (fun c h => by rw [ho] at h; cases h)]
  unfold execOp
  rw [ho]
  rfl
theorem il {s : Sem Value} {v : Value} {w' : World} (h : s.run Tryz.prog w = .ok v w') : (do let u ← s; pure (Next.value u) : Sem Next).run Tryz.prog w = .ok (.value v) w' := by
 simp only [Sem.run_bind, h, Result.andThen]
 rfl
theorem oH (ho : o.op = .extract x i) {vs : Array Value} {v : Value} (hx : ρ x = .tuple vs) (hv : vs[i]? = some v) : (o.semAt ro ρ).run Tryz.prog w = .ok (.value v) w := by
 rw [Oper.semAt_eq _ _ _ (fun c h => by rw [ho] at h; cases h)]
 unfold execOp
 rw [ho]
 refine il ?_
 rw [hx]
 simp only [Instr.extract, hv]
 rfl
theorem B0 (ho : o.op = .range 152 x) {r clk : Nat} {es : Array MapEntry} (hx : ρ x = .map (some r)) (hb : w.heap[r]? = some (.map es clk)) : (o.semAt ro ρ).run Tryz.prog w = .ok (.value (.pointer (some ⟨w.heap.size, 0, none⟩))) (w.alloc (.mapIter (some r) clk #[] clk)) := by
 rw [Oper.semAt_eq _ _ _ (fun c h => by rw [ho] at h; cases h)]
 unfold execOp
 rw [ho]
 refine il ?_
 rw [hx]
 simp [Instr.range, af CK, MapKept.run_getObj_map hb, Result.andThen]
theorem wP (ho : o.op = .next x false) {v : Value} {p : Value} {w' : World} (hx : ρ x = p) (hr : (Instr.next p false o.type).run Tryz.prog w = .ok v w') : (o.semAt ro ρ).run Tryz.prog w = .ok (.value v) w' := by
 rw [Oper.semAt_eq _ _ _ (fun c h => by rw [ho] at h; cases h)]
 unfold execOp
 rw [ho]
 refine il ?_
 rw [hx]; exact hr
theorem BA (ho : o.op = .entry x) {v : Value} {p : Value} {w' : World} (hx : ρ x = p) (hr : (Instr.entry p).run Tryz.prog w = .ok v w') : (o.semAt ro ρ).run Tryz.prog w = .ok (.value v) w' := by
 rw [Oper.semAt_eq _ _ _ (fun c h => by rw [ho] at h; cases h)]
 unfold execOp
 rw [ho]
 refine il ?_
 rw [hx]; exact hr
theorem CJ (ho : o.op = .alloc 72) : (o.semAt ro ρ).run Tryz.prog w = .ok (.value (.pointer (some ⟨w.heap.size, 0, none⟩))) (w.alloc (.cells #[.int .i64 0, .int .i64 0] 72)) := by
 rw [Oper.semAt_eq _ _ _ (fun c h => by rw [ho] at h; cases h)]
 unfold execOp
 rw [ho]
 refine il ?_
 have hz : (zeroValue 72).run Tryz.prog w = .ok (.agg #[.int .i64 0, .int .i64 0]) w := by kernel_rfl
 simp only [Instr.alloc, Sem.run_bind, hz, Result.andThen]
 rfl
theorem Bu (ho : o.op = .store 72 x y) {p q : Int} (hx : ρ x = .pointer (some ⟨w.heap.size, 0, none⟩)) (hy : ρ y = kp p q) : (o.semAt ro ρ).run Tryz.prog (w.alloc (.cells #[.int .i64 0, .int .i64 0] 72)) = .ok .skip (w.alloc (.cells #[.int .i64 p, .int .i64 q] 72)) := by
 rw [Oper.semAt_eq _ _ _ (fun c h => by rw [ho] at h; cases h)]
 unfold execOp
 rw [ho]
 simp only [hx, hy, kp]
 simp only [Sem.run_bind]
 rw [run_storeAt_new w 72 _ _ (by kernel_rfl) (by rfl) (by kernel_rfl)]
 rfl
end
noncomputable def oo (ops : Array Oper) (k : Nat) : Oper := (ops[k]?).getD default
theorem Im (ρ : Operand -> Value) : execOp ρ (oo fE 1) = execOp (fun _ => ρ (.tmp 66)) (oo fE 1) := by kernel_rfl
theorem yi (q : Option Addr) (c : Nat) (w : World) : (execOp (fun _ => .slice q 1 c) (oo fE 1)).run Tryz.prog w = .ok (.value (.int .i64 1)) w := by kernel_rfl
theorem oGt (ρ : Operand -> Value) : execOp ρ (oo fE 2) = execOp (fun x => match x with | .tmp _ => ρ (.tmp 67) | .const v => ρ (.const v) | _ => undef) (oo fE 2) := by kernel_rfl
theorem yN (w : World) : (execOp (fun x => match x with | .tmp _ => .int .i64 1 | .const v => v | _ => undef) (oo fE 2)).run Tryz.prog w = .ok (.value (.bool false)) w := by kernel_rfl
section
variable {B : ba} {F : Fence} {n : Nat} {Q : Exit -> Act -> World -> Prop} {a : Act} {w : World} {r : Nat}
theorem p17 : jQ[0]? = some (oo jQ 0) /\ (oo jQ 0).guard = none /\ (oo jQ 0).dst = some 59 /\ (oo jQ 0).op = .move (.tmp 5) /\ jQ[1]? = some (oo jQ 1) /\ (oo jQ 1).guard = none /\ (oo jQ 1).dst = some 60 /\ (oo jQ 1).op = .range 152 (.tmp 59) := ⟨by kernel_rfl, by kernel_rfl, by kernel_rfl, by kernel_rfl, by kernel_rfl, by kernel_rfl, by kernel_rfl, by kernel_rfl⟩
theorem p18 : kl[0]? = some (oo kl 0) /\ (oo kl 0).guard = none /\ (oo kl 0).dst = some 61 /\ (oo kl 0).op = .next (.tmp 60) false /\ kl[1]? = some (oo kl 1) /\ (oo kl 1).guard = none /\ (oo kl 1).dst = some 62 /\ (oo kl 1).op = .extract (.tmp 61) 0 := ⟨by kernel_rfl, by kernel_rfl, by kernel_rfl, by kernel_rfl, by kernel_rfl, by kernel_rfl, by kernel_rfl, by kernel_rfl⟩
theorem Hw : cW[0]? = some (oo cW 0) /\ (oo cW 0).guard = none /\ (oo cW 0).dst = some 63 /\ (oo cW 0).op = .entry (.tmp 60) /\ cW[1]? = some (oo cW 1) /\ (oo cW 1).guard = none /\ (oo cW 1).dst = some 64 /\ (oo cW 1).op = .extract (.tmp 63) 0 /\ cW[2]? = some (oo cW 2) /\ (oo cW 2).guard = none /\ (oo cW 2).dst = some 65 /\ (oo cW 2).op = .extract (.tmp 63) 1 := ⟨by kernel_rfl, by kernel_rfl, by kernel_rfl, by kernel_rfl, by kernel_rfl, by kernel_rfl, by kernel_rfl, by kernel_rfl, by kernel_rfl, by kernel_rfl, by kernel_rfl, by kernel_rfl⟩
theorem GK : cW[3]? = some (oo cW 3) /\ (oo cW 3).guard = none /\ (oo cW 3).dst = some 12 /\ (oo cW 3).op = .alloc 72 /\ cW[4]? = some (oo cW 4) /\ (oo cW 4).guard = none /\ (oo cW 4).dst = none /\ (oo cW 4).op = .store 72 (.tmp 12) (.tmp 64) /\ cW[5]? = some (oo cW 5) /\ (oo cW 5).guard = none /\ (oo cW 5).dst = some 13 /\ (oo cW 5).op = .assign (.tmp 65) := ⟨by kernel_rfl, by kernel_rfl, by kernel_rfl, by kernel_rfl, by kernel_rfl, by kernel_rfl, by kernel_rfl, by kernel_rfl, by kernel_rfl, by kernel_rfl, by kernel_rfl, by kernel_rfl⟩
theorem p20 : fE[0]? = some (oo fE 0) /\ (oo fE 0).guard = none /\ (oo fE 0).dst = some 66 /\ (oo fE 0).op = .move (.tmp 13) /\ fE[1]? = some (oo fE 1) /\ (oo fE 1).guard = none /\ (oo fE 1).dst = some 67 /\ fE[2]? = some (oo fE 2) /\ (oo fE 2).guard = none /\ (oo fE 2).dst = some 68 := ⟨by kernel_rfl, by kernel_rfl, by kernel_rfl, by kernel_rfl, by kernel_rfl, by kernel_rfl, by kernel_rfl, by kernel_rfl, by kernel_rfl, by kernel_rfl⟩
theorem Gb {ops : Array Oper} {k : Nat} {ro : Option Nat} {ρ : Operand -> Value} (h : (match (oo ops k).op with | .defer _ => true | _ => false) = false) : (oo ops k).semAt ro ρ = execOp ρ (oo ops k) := Oper.semAt_eq _ _ _ fun c e => by rw [e] at h; cases h
end
end Go.Dx
namespace Go.Dx
open Go.Sx Go.Proofs
open Go.ChangeMaps (setBlock)
theorem jq : ∀ (ps : List (Int × Int)) (vs : List Value) (k : Nat) (e : MapEntry), e ∈ entL ps vs k -> k <= e.born /\ e.born < k + vs.length /\ (∃ x y, e.key = kp x y) /\ e.val ∈ vs
 | p :: ps, v :: vs, k, e, he => by
   simp only [entL] at he
   rcases List.mem_cons.1 he with rfl | he
   ·exact ⟨Nat.le_refl _, by simp, ⟨_, _, rfl⟩, by simp⟩
   ·obtain ⟨h1, h2, h3, h4⟩ := jq ps vs (k + 1) e he
    exact ⟨by omega, by simp; omega, h3, by simp [h4]⟩
 | [], _, _, _, he => by simp [entL] at he
 | _ :: _, [], _, _, he => by simp [entL] at he
theorem mG : ∀ (ps : List (Int × Int)) (vs : List Value) (k : Nat), ((entL ps vs k).map (·.born)).Nodup
 | p :: ps, v :: vs, k => by
   simp only [entL, List.map_cons, List.nodup_cons]
   refine ⟨fun hm => ?_, mG ps vs (k + 1)⟩
   obtain ⟨e, he, hb⟩ := List.mem_map.1 hm
   have := (jq ps vs (k + 1) e he).1
   omega
 | [], _, _ => by simp [entL]
 | _ :: _, [], _ => by simp [entL]
def dd4 : List Nat := [59, 60, 61, 62, 63, 64, 65, 12, 13, 66, 67, 68]
section
variable {B : ba} {F : Fence} {n : Nat} {Q : Exit -> Act -> World -> Prop} {a : Act} {w : World} {r : Nat}
theorem MS.put {vs : List Value} (h : MS B r vs w) {ri : Nat} (hne : ri ≠ r) (o : Obj) : MS B r vs (setBlock w ri o) := ⟨by simp only [setBlock, Array.getElem?_setIfInBounds]; rw [if_neg hne]; exact h.hp, h.ln, h.z0, h.zf⟩
theorem MS.push {vs : List Value} (h : MS B r vs w) (o : Obj) : MS B r vs (w.alloc o) := ⟨by
 have : r < w.heap.size := (Array.getElem?_eq_some_iff.1 h.hp).1
 simp only [World.alloc, Array.getElem?_push]; rw [if_neg (by omega)]; exact h.hp, h.ln, h.z0, h.zf⟩
structure L4 (B : ba) (r : Nat) (vs : List Value) (e : Env) (h : List O) (ri : Nat) (seen : Array Nat) (c0 : Nat) (a : Act) (w : World) : Prop where
 st : VS B 81 (wk dd4 e) h [(60, .pointer (some ⟨ri, 0, none⟩))] a w
 ms : MS B r vs w
 it : w.heap[ri]? = some (.mapIter (some r) vs.length seen c0)
 le : vs.length <= c0
 z0 : B.w0.heap.size <= ri
 zf : B.wf.heap.size <= ri
 ne : ri ≠ r
theorem zJ {m : ah} {lh : List ac} {w1 : World} (hw : w1 = w ∨ w1 = w.drew) (h : ar B m lh w) : ar B m lh w1 := by
 rcases hw with rfl | rfl
 ·exact h
 ·exact h.drew _
theorem zE {w1 : World} (hw : w1 = w ∨ w1 = w.drew) : w1.heap = w.heap := by
 rcases hw with rfl | rfl <;> rfl
theorem AN (hF : Go.Sx.Open F) {vs : List Value} {e : Env} {h : List O} {ri c0 : Nat} {seen : Array Nat} {K : Act -> World -> Prop} (H : L4 B r vs e h ri seen c0 a w)
 (hK : ∀ a' w' seen' c0', (leftOf (entL jpts vs 0).toArray seen').size < (leftOf (entL jpts vs 0).toArray seen).size -> L4 B r vs e h ri seen' c0' a' w' -> K a' w') (hQ : ∀ a' w', VS B 81 (wk dd4 e) h [] a' w' -> Q (.exit 4) a' w') : xN.wpIn F n Tryz.prog (Exit.then K Q) a w := by
 obtain ⟨q1, q2, q3, q4, q5, q6, q7, q8⟩ := p18
 unfold xN
 refine wpIn_seq (wpIn_region ?_)
 rw [show List.range kl.size = [0, 1] by kernel_rfl]
 have hold : ∀ x ∈ (entL jpts vs 0).toArray.toList, x.born < vs.length := fun x hx => by have := (jq _ _ _ x hx).2.1; omega
 rcases run_next_at (P := Tryz.prog) w (oo kl 0).type ri r vs.length c0 seen _ _ H.it H.ms.hp hold H.le with ⟨h0, hr⟩ | ⟨x, hx, w1, hw, hr⟩
 ·refine cV hF q1 q2 (wP q4 (aU (H.st.at_raw (by simp))) hr) ?_
  rw [q3]
  have s1 := H.st.rw (d := 61) (by decide) (by decide) (bP rfl) (.tuple #[.bool false])
  refine cV (v := .bool false) hF q5 q6 (oH q8 (aU (s1.at_raw (.head _))) rfl) ?_
  rw [q7]
  have s2 := s1.rw (d := 62) (by decide) (by decide) (bP rfl) (.bool false)
  show Code.wpIn F n Tryz.prog _ _ _ _
  refine wpIn_seq (wpIn_cond_false (aU (s2.at_raw (by simp))) (wpIn_exit ?_))
  exact hQ _ _ (s2.drop (by simp))
 ·refine cV hF q1 q2 (wP q4 (aU (H.st.at_raw (by simp))) hr) ?_
  rw [q3]
  obtain ⟨y1, y2⟩ := mem_left hx
  obtain ⟨_, _, ⟨kx, ky, hkey⟩, hval⟩ := jq _ _ _ x y1
  obtain ⟨vq, vc, hv⟩ := H.ms.ln _ hval
  have hh := zE hw
  have hit : w1.heap[ri]? = some (.mapIter (some r) vs.length seen c0) := by rw [hh]; exact H.it
  have hsz : ri < w1.heap.size := (Array.getElem?_eq_some_iff.1 hit).1
  have m1 : MS B r vs w1 := ⟨by rw [hh]; exact H.ms.hp, H.ms.ln, H.ms.z0, H.ms.zf⟩
  have m2 := m1.put H.ne (.mapIter (some r) vs.length (seen.push x.born) vs.length)
  have t0 := H.st.world (w' := setBlock w1 ri (.mapIter (some r) vs.length (seen.push x.born) vs.length)) fun m lh hm => (zJ hw hm).putObj hit rfl H.zf H.z0 _
  generalize hw2 : setBlock w1 ri (.mapIter (some r) vs.length (seen.push x.born) vs.length) = w2 at m2 t0 ⊢
  have hit2 : w2.heap[ri]? = some (.mapIter (some r) vs.length (seen.push x.born) vs.length) := by
   rw [← hw2]; simp [setBlock, hsz]
  have s1 := t0.rw (d := 61) (by decide) (by decide) (bP rfl) (.tuple #[.bool true, x.key, x.val])
  refine cV (v := .bool true) hF q5 q6 (oH q8 (aU (s1.at_raw (.head _))) rfl) ?_
  rw [q7]
  have s2 := (s1.rw (d := 62) (by decide) (by decide) (bP rfl) (.bool true)).drop (G' := [(62, .bool true), (60, .pointer (some ⟨ri, 0, none⟩))]) (by simp)
  show Code.wpIn F n Tryz.prog _ _ _ _
  refine wpIn_seq (wpIn_cond_true (aU (s2.at_raw (by simp))) (wpIn_skip ?_))
  refine wpIn_block (wpIn_seq (wpIn_region ?_))
  obtain ⟨a1, a2, a3, a4, a5, a6, a7, a8, a9, a10, a11, a12⟩ := Hw
  obtain ⟨b1, b2, b3, b4, b5, b6, b7, b8, b9, b10, b11, b12⟩ := GK
  rw [show List.range cW.size = [0, 1, 2, 3, 4, 5] by kernel_rfl]
  refine cV hF a1 a2 (BA a4 (aU (s2.at_raw (by simp))) (run_entry_at w2 ri r vs.length seen _ _ x hit2 m2.hp y1 (mG _ _ _))) ?_
  rw [a3]
  have s3 := (s2.rw (d := 63) (by decide) (by decide) (bP rfl) (.tuple #[x.key, x.val])).drop (G' := [(63, .tuple #[x.key, x.val]), (60, .pointer (some ⟨ri, 0, none⟩))]) (by simp)
  refine cV (v := x.key) hF a5 a6 (oH a8 (aU (s3.at_raw (.head _))) rfl) ?_
  rw [a7]
  have s4 := s3.rw (d := 64) (by decide) (by decide) (bP rfl) x.key
  refine cV (v := x.val) hF a9 a10 (oH a12 (aU (s4.at_raw (.tail _ (.head _)))) rfl) ?_
  rw [a11]
  have s5 := (s4.rw (d := 65) (by decide) (by decide) (bP rfl) x.val).drop (G' := [(65, x.val), (64, x.key), (60, .pointer (some ⟨ri, 0, none⟩))]) (by simp)
  refine cV hF b1 b2 (CJ b4) ?_
  rw [b3]
  have s6 := s5.rw (d := 12) (by decide) (by decide) (bP rfl) (.pointer (some ⟨w2.heap.size, 0, none⟩))
  refine vH hF b5 b6 b7 (Bu (w := w2) b8 (aU (s6.at_raw (by simp))) (by rw [← hkey]; exact aU (s6.at_raw (by simp)))) ?_
  have m3 := m2.push (.cells #[.int .i64 kx, .int .i64 ky] 72)
  have s7 := (s6.world (w' := w2.alloc (.cells #[.int .i64 kx, .int .i64 ky] 72)) fun m lh hm => hm.junk _).drop (G' := [(65, x.val), (60, .pointer (some ⟨ri, 0, none⟩))]) (by simp)
  have hit3 : (w2.alloc (.cells #[.int .i64 kx, .int .i64 ky] 72)).heap[ri]? = some (.mapIter (some r) vs.length (seen.push x.born) vs.length) := by
   have : ri < w2.heap.size := (Array.getElem?_eq_some_iff.1 hit2).1
   simp only [World.alloc, Array.getElem?_push]; rw [if_neg (by omega)]; exact hit2
  generalize w2.alloc (.cells #[.int .i64 kx, .int .i64 ky] 72) = w3 at m3 s7 hit3 ⊢
  refine cV hF b9 b10 (rJ (.inr b12)) ?_
  rw [b11, aU (d := 65) (s7.at_raw (v := x.val) (by simp))]
  have s8 := (s7.rw (d := 13) (by decide) (by decide) (bP rfl) (x.val)).drop (G' := [(13, x.val), (60, .pointer (some ⟨ri, 0, none⟩))]) (by simp)
  show Code.wpIn F n Tryz.prog _ _ _ _
  obtain ⟨c1, c2, c3, c4, c5, c6, c7, c8, c9, c10⟩ := p20
  refine wpIn_seq (wpIn_region ?_)
  rw [show List.range fE.size = [0, 1, 2] by kernel_rfl]
  refine cV hF c1 c2 (rJ (.inl c4)) ?_
  rw [c3, aU (d := 13) (s8.at_raw (v := x.val) (by simp))]
  have s9 := s8.rw (d := 66) (by decide) (by decide) (bP rfl) (x.val)
  refine cV hF c5 c6 (v := .int .i64 1) (w' := w3) ?_ ?_
  ·rw [Gb (by kernel_rfl), Im, aU (d := 66) (s9.at_raw (v := x.val) (by simp)), hv]
   exact yi _ _ _
  rw [c7]
  have s10 := s9.rw (d := 67) (by decide) (by decide) (bP rfl) (.int .i64 1)
  refine cV hF c8 c9 (v := .bool false) (w' := w3) ?_ ?_
  ·rw [Gb (by kernel_rfl), oGt, aU (d := 67) (s10.at_raw (v := .int .i64 1) (by simp))]
   exact yN _
  rw [c10]
  have s11 := (s10.rw (d := 68) (by decide) (by decide) (bP rfl) (.bool false)).drop (G' := [(68, .bool false), (60, .pointer (some ⟨ri, 0, none⟩))]) (by simp)
  show Code.wpIn F n Tryz.prog _ _ _ _
  refine wpIn_cond_false (aU (s11.at_raw (by simp))) (wpIn_skip ?_)
  exact hK _ _ (seen.push x.born) vs.length (left_shrinks _ _ _ hx) ⟨s11.drop (by simp), m3, hit3, Nat.le_refl _, H.z0, H.zf, H.ne⟩
end
end Go.Dx
namespace Go.Dx
open Go.Sx Go.Proofs
section
variable {B : ba} {F : Fence} {n : Nat} {Q : Exit -> Act -> World -> Prop} {a : Act} {w : World} {r : Nat}
theorem VS.size {N : Nat} {e : Env} {h : List O} {G : List (Nat × Value)} (hs : VS B N e h G a w) : B.w0.heap.size <= w.heap.size /\ B.wf.heap.size <= w.heap.size :=
 let ⟨m, sl, lh, ν, nV, nS, h1, h2, h3, h4, h5, h6⟩ := hs; ⟨h3.size, h3.fsize⟩
theorem Fs (hF : Go.Sx.Open F) {vs : List Value} {e : Env} {h : List O} (hs : VS B 81 e h [(5, .map (some r))] a w) (hm : MS B r vs w) (hQ : ∀ a' w', VS B 81 (wk dd4 e) h [] a' w' -> Q .normal a' w') : (Code.seq (.region 17 jQ false) (.block 4 (.loop xN))).wpIn F n Tryz.prog Q a w := by
 obtain ⟨q1, q2, q3, q4, q5, q6, q7, q8⟩ := p17
 refine wpIn_seq (wpIn_region ?_)
 rw [show List.range jQ.size = [0, 1] by kernel_rfl]
 have s0 := hs.env (e' := wk dd4 e) fun d => Au dd4
 refine cV (v := .map (some r)) hF q1 q2 (by rw [rJ (.inl q4), aU (d := 5) (s0.at_raw (.head _))]) ?_
 rw [q3]
 have s1 := s0.rw (d := 59) (by decide) (by decide) (bP rfl) (.map (some r))
 refine cV hF q5 q6 (B0 q8 (aU (s1.at_raw (.head _))) hm.hp) ?_
 rw [q7]
 have s2 := ((s1.world (w' := w.alloc (.mapIter (some r) vs.length #[] vs.length)) fun m lh hm => hm.junk _).rw (d := 60) (by decide) (by decide) (bP rfl) (.pointer (some ⟨w.heap.size, 0, none⟩))).drop (G' := [(60, .pointer (some ⟨w.heap.size, 0, none⟩))]) (by simp)
 have hr : r < w.heap.size := (Array.getElem?_eq_some_iff.1 hm.hp).1
 show Code.wpIn F n Tryz.prog _ _ _ _
 refine wpIn_block (cw (I := fun k a w => ∃ ri seen c0, k = (leftOf (entL jpts vs 0).toArray seen).size /\ L4 B r vs e h ri seen c0 a w) ⟨_, _, #[], _, rfl, s2, hm.push _, by simp only [World.alloc, Array.getElem?_push_size], Nat.le_refl _, hs.size.1, hs.size.2, by omega⟩ ?_)
 rintro k a' w' ⟨ri, seen, c0, rfl, H⟩
 refine AN hF H (fun a2 w2 seen' c0' hlt H' => ⟨_, hlt, ri, seen', c0', rfl, H'⟩) fun a2 w2 h2 => ?_
 show Exit.inBlock 4 Q (.exit 4) a2 w2
 simp only [Exit.inBlock, if_true]
 exact hQ a2 w2 h2
end
noncomputable def x16 := xsO uX.toList uX
noncomputable def x23 := xsO vy.toList vy
noncomputable def sb0 : St2 := rn x16 sa8
noncomputable def f83 : Nat -> List V := fun _ => al [.int .i64, .int .i64, .sl [.int .i64]] []
noncomputable def wL := xsO (iz.toList.take 1) iz
noncomputable def wh := xsO (iz.toList.drop 1) iz
noncomputable def sb1 : St2 := (wk dd4 sb0.1, sb0.2)
noncomputable def ye : St2 := rn wL sb1
noncomputable def C5 : St2 := ((78, .sl 0 f83) :: ye.1, ye.2)
noncomputable def sb2 : St2 := rn wh C5
noncomputable def sb3 : St2 := rn x23 sb2
theorem VS.nil {B : ba} {N : Nat} {e : Env} {h : List O} {G : List (Nat × Value)} {a : Act} {w : World} (hs : VS B N e h G a w) {d : Nat} (hd : bb e d = .ns) (f : Nat -> List V) : VS B N ((d, .sl 0 f) :: e) h G a w :=
 let ⟨m, sl, lh, ν, nV, nS, h1, h2, h3, h4, h5, h6⟩ := hs
 ⟨m, sl, lh, ν, nV, nS, h1, h2, h3, ⟨h4.len, fun i => by
   rw [cE]
   split
   ·rename_i e
    subst e
    have := h4.at' i
    rw [hd] at this
    simp only [vr] at this ⊢
    exact ⟨none, 0, 0, this, Nat.le_refl _, Nat.zero_le _, trivial, fun i hi => absurd hi (Nat.not_lt_zero _)⟩
   ·exact h4.at' i⟩, h5, h6⟩
theorem AV : bb ye.1 78 = .ns := by kernel_rfl
theorem Ga : aN Tryz.prog eqs uX uX.toList = some x16 /\ bf 81 x16 = true := ⟨by kernel_rfl, by kernel_rfl⟩
theorem F6 (m : Value) : okG [(5, m)] x16 = true := by kernel_rfl
theorem vR : aN Tryz.prog eqs iz (iz.toList.take 1) = some wL /\ bf 81 wL = true := ⟨by kernel_rfl, by kernel_rfl⟩
theorem xv : aN Tryz.prog eqs iz (iz.toList.drop 1) = some wh /\ bf 81 wh = true := ⟨by kernel_rfl, by kernel_rfl⟩
theorem EH : aN Tryz.prog eqs vy vy.toList = some x23 /\ bf 81 x23 = true := ⟨by kernel_rfl, by kernel_rfl⟩
theorem gq : ∀ xs : List SOp, okG [] xs = true
 | [] => rfl
 | o :: l => by
   rcases ib [] o with e | ⟨_, _, _, _, _, _, e, _⟩
   ·simp [okG, AQ, e, gq l]
   ·simp [mg] at e
theorem Bn : gd x16 sa8 := ⟨by kernel_rfl, by kernel_rfl⟩
theorem sE : gd wL sb1 := ⟨by kernel_rfl, by kernel_rfl⟩
theorem sZ : gd wh C5 := ⟨by kernel_rfl, by kernel_rfl⟩
theorem C3 : gd x23 sb2 := ⟨by kernel_rfl, by kernel_rfl⟩
theorem AM : bb sb3.1 2 = .ns /\ bb sb3.1 3 = .int .i64 0 := ⟨by kernel_rfl, by kernel_rfl⟩
noncomputable def oMk : Oper := oo jo4 0
theorem BR : jo4[0]? = some oMk /\ oMk.guard = none /\ oMk.dst = some 19 /\ oMk.op = .makeMap 152 none := ⟨by kernel_rfl, by kernel_rfl, by kernel_rfl, by kernel_rfl⟩
section
variable {B : ba} {F : Fence} {n : Nat} {Q : Exit -> Act -> World -> Prop} {a : Act} {w : World} {r : Nat}
theorem CQ {o : Oper} {ro : Option Nat} {ρ : Operand -> Value} (ho : o.op = .makeMap 152 none) : (o.semAt ro ρ).run Tryz.prog w = .ok (.value (.map (some w.heap.size))) (w.alloc (.map #[] 0)) := by
 rw [Oper.semAt_eq _ _ _ (fun c h => by rw [ho] at h; cases h)]
 unfold execOp
 rw [ho]
 exact il (run_makeMap_plain _ 152)
noncomputable def xr : Code := .seq (.region 0 jo0 false) (.seq (.seq (.region 1 jo1 false) (.seq (.region 2 jo2 false) (.cond (.tmp 17) (.seq (.region 3 jo3 false) .ret) .skip)))
 (.seq (.region 4 jo4 false) (.seq (.seq (.region 5 jo5 false) (.block 0 (.loop uo))) (.seq (.region 16 uX false) (.seq (.seq (.region 17 jQ false) (.block 4 (.loop xN))) (.seq (.region 22 iz false) (.seq (.region 23 vy false) .ret)))))))
theorem B8 (hF : Go.Sx.Open F) (hs : VS B 81 e00.1 e00.2 [] a w) (hQ : ∀ a' w', VS B 81 sb3.1 sb3.2 [] a' w' -> Q .ret a' w') : xr.wpIn F n Tryz.prog Q a w := by
 unfold xr
 refine wpIn_seq (iB hF Gj (gq _) hs gq0.1 fun a1 w1 h1 k1 => ?_)
 refine wpIn_seq (wpIn_seq (iB hF HB (gq _) h1 gq0.2.1 fun a2 w2 h2 k2 => ?_))
 refine wpIn_seq (iB hF GZ (gq _) h2 gq0.2.2 fun a3 w3 h3 k3 => ?_)
 refine wpIn_cond_false (aU (h3.at_bool (.inl g0b) (by decide))) (wpIn_skip ?_)
 refine wpIn_seq (wpIn_region ?_)
 obtain ⟨m1, m2, m3, m4⟩ := BR
 rw [show List.range jo4.size = 0 :: (List.range' 1 (jo4.toList.drop 1).length ++ []) by kernel_rfl]
 refine cV hF m1 m2 (CQ m4) ?_
 rw [m3]
 have hz := h3.size
 have h4 := (h3.world (w' := w3.alloc (.map #[] 0)) fun m lh hm => hm.junk _).raw (d := 19) (by decide) (bP rfl) (.map (some w3.heap.size))
 have hm : MS B w3.heap.size [] (w3.alloc (.map #[] 0)) := ⟨by simp only [World.alloc, Array.getElem?_push_size]; rfl, by simp, hz.1, hz.2⟩
 refine jW me hF (l := jo4.toList.drop 1) (k := 1) (xs := x4) (e1 := sa4.1) (h1 := sa4.2) (fun j hj => by simp [Nat.add_comm]) FB.1 FB.2 (k4 _) h4 (i3 Ay.1 Ay.2) fun a5 w5 h5 k5 => ?_
 rw [f_4] at h5
 have h5 := h5.drop (G' := [(5, .map (some w3.heap.size))]) (by simp)
 have hm := hm.keep k5
 show Code.wpIn F n Tryz.prog _ _ _ _
 refine wpIn_seq (wpIn_seq (iB hF H2 (GH _) h5 F7 fun a6 w6 h6 k6 => ?_))
 refine fill hF h6 (hm.keep k6) fun a7 w7 vs hl h7 hm => ?_
 show Code.wpIn F n Tryz.prog _ _ _ _
 refine wpIn_seq (iB hF Ga (F6 _) h7 Bn fun a8 w8 h8 k8 => ?_)
 refine wpIn_seq (Fs hF h8 (hm.keep k8) fun a9 w9 h9 => ?_)
 refine wpIn_seq (wpIn_region ?_)
 rw [show List.range iz.size = List.range' 0 (iz.toList.take 1).length ++ (List.range' 1 (iz.toList.drop 1).length ++ []) by kernel_rfl]
 have l22 : (iz.toList.take 1).length = 1 := by kernel_rfl
 refine jW me hF (l := iz.toList.take 1) (k := 0) (xs := wL) (e1 := ye.1) (h1 := ye.2) (fun j hj => by rw [List.getElem?_take, if_pos (by omega)]; simp) vR.1 vR.2 (gq _) h9 (i3 sE.1 sE.2) fun a10 w10 h10 k10 => ?_
 have h11 := (h10.drop (G' := []) (by simp)).nil AV f83
 refine jW me hF (l := iz.toList.drop 1) (k := 1) (xs := wh) (e1 := sb2.1) (h1 := sb2.2) (fun j hj => by simp [Nat.add_comm]) xv.1 xv.2 (gq _) h11 (i3 sZ.1 sZ.2) fun a12 w12 h12 k12 => ?_
 show Code.wpIn F n Tryz.prog _ _ _ _
 refine wpIn_seq (iB hF EH (gq _) (h12.drop (G' := []) (by simp)) C3 fun a13 w13 h13 k13 => ?_)
 exact wpIn_ret (hQ _ _ h13)
end
noncomputable def r41 : V := .tup [.sl 0 (fun _ => []), .int .i64 0]
noncomputable def xh : aI := atC [([exS], r41)]
theorem yu : Tryz.f41.ntmps = 81 /\ Tryz.f41.results.toList = [.tmp 2, .tmp 3] := ⟨by kernel_rfl, by kernel_rfl⟩
theorem zI {w : World} {vs : List Value} {xs : List ab} (hv : ae (fun _ => none) xs vs) (hx : vrs w [] Nu.nil [exS] xs) : Calls Tryz.prog 41 vs.toArray w fun e w' => e = .returned (.tuple #[.slice none 0 0, .int .i64 0]) /\ ∃ m lh, ar ⟨w, w, fun _ => False, []⟩ m lh w' := by
 refine (callsIn_wide (n := 0)).1 (callsIn_of_wp_marks Tryz.func41 rq trivial (B8 nY (B := ⟨w, w, fun _ => False, []⟩) ?_ fun a' w' hs => ?_))
 ·have hl := aF hx
  have hl1 : xs.length = 1 := hl
  refine ⟨fun _ => none, xs ++ List.replicate (81 - xs.length) .any, [], Nu.nil, 0, 0, ?_, rfl, ar.start w, ⟨by simp; omega, fun i => ?_⟩, HR.none w, fun p hp => by cases hp⟩
  ·rw [yu.1]
   simp only [Array.toList_append, Array.toList_replicate, List.size_toArray]
   rw [bh hv]
   exact bG (by simpa using hv) (cd _ _)
  ·have := lJ (w0 := w) (j := 0) (i := i) (rest := List.replicate (81 - xs.length) .any) hx (fun _ _ => trivial)
   rw [Nat.zero_add] at this
   exact this
 ·obtain ⟨u2, b2, mm, ν, q1, q2, q3⟩ := hs.at_val AM.1 (by decide)
  obtain ⟨u3, b3, mm', ν', q4, q5, q6⟩ := hs.at_val AM.2 (by decide)
  have e2 : u2 = .slice none 0 0 := by
   simp only [vr] at q2
   subst q2
   simp only [vrel, bx] at q3
   obtain ⟨q, rfl, rfl⟩ := q3
   rfl
  have e3 : u3 = .int .i64 0 := by
   simp only [vr] at q5
   subst q5
   simp only [vrel] at q6
   exact q6
  obtain ⟨m, sl, lh, ν, nV, nS, h1, h2, h3, h4, h5, h6⟩ := hs
  show LeavesInM Fence.wide 0 Tryz.prog Tryz.f41 a'.tmps _ a'.defers .returning w'
  rw [h2]
  refine ⟨.tuple #[.slice none 0 0, .int .i64 0], gS (vs := [.slice none 0 0, .int .i64 0]) ?_, rfl, m, lh, h3⟩
  rw [yu.2]
  have g2 : a'.tmps.getD 2 undef = .slice none 0 0 := by rw [Array.getD_eq_getD_getElem?, q1, e2]; rfl
  have g3 : a'.tmps.getD 3 undef = .int .i64 0 := by rw [Array.getD_eq_getD_getElem?, q4, e3]; rfl
  simp only [List.mapM_cons, List.mapM_nil]
  rw [aa (a := a'.tmps.getD 2 undef) (w' := w') rfl, aa (a := [a'.tmps.getD 3 undef]) (w' := w') rfl, g2, g3]
  rfl
theorem sL {ds : List V} {d : List V × List V} {p : Prop} {r : V} (h : xh ds = some (d, p, r)) : eqL (eqD 8) ds [exS] = true /\ r = r41 := by
 simp only [xh, atC] at h
 cases hb : eqL (eqD 8) ds [exS] with
 | true =>
   rw [hb] at h
   simp only [cond_true, Option.some.injEq, Prod.mk.injEq] at h
   exact ⟨rfl, h.2.2.symm⟩
 | false => rw [hb] at h; cases h
theorem AP : ∀ ds d p r, xh ds = some (d, p, r) -> d.1 = d.2 -> p -> okL 3 r := fun ds d p r h _ _ => by
 obtain ⟨_, rfl⟩ := sL h
 exact ⟨0, _, rfl, Nat.zero_le _, fun i hi => absurd hi (Nat.not_lt_zero _), by kernel_rfl⟩
theorem G7 : (vL 3 87 xh).Ok Tryz.prog 41 := by
 refine ⟨fun B m lh w args vs K hrel hargs hsp => ?_, fun _ _ _ _ _ hk ⟨ds, d, p, r, n, g, h1, h2, h3, h4, h5, h6⟩ => ⟨ds, d, p, r, n, g, h1, h2, h3, h4, h5, fun x new hx => hk _ _ (h6 x new hx)⟩, fun _ _ lh _ ⟨_, _, _, _, _, _, _, _, _, h4, h5, h6⟩ => let ⟨x, new, hx⟩ := exL (ty := 87) h4 h5 lh; h6 x new hx⟩
 obtain ⟨ds, d, p, r, n, g, h1, h2, _, h4, h5, h6⟩ := hsp
 obtain ⟨hb, rfl⟩ := sL h2
 have h1' := j5 (fun v x a => mT 8 v x a) _ _ _ hb h1
 obtain ⟨args', g1, g2⟩ := eV hrel [exS] args vs h1' hargs
 refine ⟨⟨Tryz.f41, Tryz.func41, by kernel_rfl, by rw [rq]; rfl⟩, ?_⟩
 refine (zI g1 g2).mono fun ee w' ⟨he, m1, lh1, hr⟩ => ?_
 have hn : n = 0 := by simp only [r41, ny, Option.some.injEq, Prod.mk.injEq] at h4; exact h4.1.symm
 refine ⟨_, tn (.slice none 0 0) r41, m, lh, he, ?_, Ext.refl _ _, hrel.back hr, ?_⟩
 ·simp only [r41, tn, dF, toA, vrel, ae, bx]
  exact ⟨_, rfl, _, _, rfl, ⟨none, rfl, rfl⟩, _, _, rfl, rfl, rfl⟩
 ·have := h6 (.slice none 0 0) [] (.inl ⟨hn, rfl⟩)
  rwa [List.append_nil] at this
end Go.Dx
namespace Go.Dx
open Go.IntKind (i64 u64 u8)
open Go.Sx Go.Proofs
noncomputable section
def xq : bc := [(41, .conL 3 87 xh AP), (19, .con C19), (44, .con xB), (25, .con AI), (22, .con AG), (15, .con As), (30, .con Ar), (32, .con Ai), (81, .con Ao), (55, .con C55), (61, .con C61), (74, .con C74), (108, .con yS), (46, .con C46), (111, .con wH), (56, .con C56), (47, .con C47), (145, .con xY), (140, .con xK), (49, .con C49), (123, .con xI), (80, .con C80), (23, .con C23), (62, .con C62), (68, .con C68), (63, .con C63), (69, .con C69), (117, .inl zb u0), (116, .inl zq u0), (115, .con xn), (114, .con yz), (147, .con xH), (64, .con C64), (66, .con C66), (113, .con vv), (65, .con C65), (67, .con C67), (53, .con C53), (45, .con C45), (119, .con vp), (121, .con vu), (99, .con C99), (148, .con u9), (149, .con vk), (112, .con uF), (118, .con uV), (120, .con uA), (133, .con vx), (103, .con uD), (100, .con vl), (134, .con uL), (135, .con u6), (78, .con C78), (54, .con C54), (48, .con C48), (102, .con vh), (84, .con C84), (85, .con C85), (127, .con uy), (101, .con va), (86, .con C86), (162, .con uu), (146, .con vz), (83, .inl s83 u0), (17, .inl s17 uB), (34, .inl s34 uB), (35, .inl s35 uB), (37, .inl s37 uB), (40, .inl s40 uB), (43, .inl s43 uB), (89, .inl s89 uB), (90, .inl s90 uB), (57, .inl s57 uB), (109, .inl Fb uB), (139, .inl Fr uB), (163, .inl EP uB), (177, .inl FQ uB), (141, .inl Dy uB), (142, .inl EG uB), (143, .inl Dm uB), (131, .inl Bz uB), (161, .inl A7 uB), (129, .inl Fg uB)]
theorem Ca : aX Tryz.prog eqs its xq := .conL G7 (.con G1 (.con vO (.con Cw (.con Bj (.con Cg (.con Ch (.con AT (.con BP (.con B4 (.con Bt (.con CZ (.con wE (.con Cb (.con tJ (.con y5 (.con Ab (.con sS (.con sV (.con zm (.con tq (.con zL (.con zP (.con zO (.con zQ (.con zW (.con zp (.inl Tryz.func117 (by kernel_rfl) (by kernel_rfl) (by kernel_rfl) (.inl Tryz.func116 (by kernel_rfl) (by kernel_rfl) (by kernel_rfl) (.con sM (.con tE (.con sD (.con yK (.con yL (.con q9 (.con vX (.con wG (.con vN (.con xt (.con p9 (.con qY (.con v6 (.con rr (.con qF (.con qn (.con pI (.con qx (.con pC (.con pD (.con pU (.con qJ (.con qO (.con wQ (.con wp (.con wa (.con pN (.con xZ (.con wX (.con pW (.con pS (.con yf (.con qL (.con tg (.inl Tryz.func83 (by kernel_rfl) (by kernel_rfl) (by kernel_rfl) (.inl Tryz.func17 (by kernel_rfl) (by kernel_rfl) (by kernel_rfl) (.inl Tryz.func34 (by kernel_rfl) (by kernel_rfl) (by kernel_rfl) (.inl Tryz.func35 (by kernel_rfl) (by kernel_rfl) (by kernel_rfl) (.inl Tryz.func37 (by kernel_rfl) (by kernel_rfl) (by kernel_rfl) (.inl Tryz.func40 (by kernel_rfl) (by kernel_rfl) (by kernel_rfl) (.inl Tryz.func43 (by kernel_rfl) (by kernel_rfl) (by kernel_rfl) (.inl Tryz.func89 (by kernel_rfl) (by kernel_rfl) (by kernel_rfl) (.inl Tryz.func90 (by kernel_rfl) (by kernel_rfl) (by kernel_rfl) (.inl Tryz.func57 (by kernel_rfl) (by kernel_rfl) (by kernel_rfl) (.inl Tryz.func109 (by kernel_rfl) (by kernel_rfl) (by kernel_rfl) (.inl Tryz.func139 (by kernel_rfl) (by kernel_rfl) (by kernel_rfl) (.inl Tryz.func163 (by kernel_rfl) (by kernel_rfl) (by kernel_rfl) (.inl Tryz.func177 (by kernel_rfl) (by kernel_rfl) (by kernel_rfl) (.inl Tryz.func141 (by kernel_rfl) (by kernel_rfl) (by kernel_rfl) (.inl Tryz.func142 (by kernel_rfl) (by kernel_rfl) (by kernel_rfl) (.inl Tryz.func143 (by kernel_rfl) (by kernel_rfl) (by kernel_rfl) (.inl Tryz.func131 (by kernel_rfl) (by kernel_rfl) (by kernel_rfl) (.inl Tryz.func161 (by kernel_rfl) (by kernel_rfl) (by kernel_rfl) (.inl Tryz.func129 (by kernel_rfl) (by kernel_rfl) (by kernel_rfl) (.nil)))))))))))))))))))))))))))))))))))))))))))))))))))))))))))))))))))))))))))))))))))
theorem F8 (w0 : World) : sat (bu w0 (SV xq)) (aY JJ xq uB s14 []) (lE (.bool true)) := nx (by kernel_rfl)
def tys14 : List Ty := []
theorem ok14 : (vP (lawC tys14)).Ok Tryz.prog 14 := px (J := JJ) (un := uB) Ca hE hI Tryz.func14 (by kernel_rfl) (by kernel_rfl) (by kernel_rfl) rfl (fun w0 ds hp => F8 w0)
end
end Go.Dx
