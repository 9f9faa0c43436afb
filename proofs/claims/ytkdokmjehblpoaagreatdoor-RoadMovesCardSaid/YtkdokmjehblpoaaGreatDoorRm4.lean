/- Part 4 of a proof. No conditions. -/
import Derived.Test.YtkdokmjehblpoaaGreatDoorRm3
import Derived.Test.YtkdokmjehblpoaaGreatDoorChecked
import Derived.IntWalk
import Derived.WalkKit
import Derived.Ground.NamesProg
import Derived.Shelf.Strings.SlTrimAscii
import Derived.Laws.MathBits
set_option maxRecDepth 100000
set_option linter.unusedVariables false
set_option linter.unusedSimpArgs false
namespace Go.Dx
abbrev jv0 (l : List V) : Int := iv (hdV l)
abbrev jv1 (l : List V) : Int := iv (hdV (tlV l))
abbrev jv2 (l : List V) : Int := iv (hdV (tlV (tlV l)))
abbrev jv3 (l : List V) : Int := iv (hdV (tlV (tlV (tlV l))))
abbrev jv4 (l : List V) : Int := iv (hdV (tlV (tlV (tlV (tlV l)))))
abbrev jv5 (l : List V) : Int := iv (hdV (tlV (tlV (tlV (tlV (tlV l))))))
theorem dqt {p : Prop} [inst : Decidable p] (h : p) : decide p = true := decide_eq_true h
theorem dqf {p : Prop} [inst : Decidable p] (h : ¬p) : decide p = false := decide_eq_false h
theorem imn {a b : Int} (h : 0 <= a) (g : 0 <= b) : 0 <= a * b := Int.mul_nonneg h g
theorem iml {a b c : Int} (h : a <= b) (g : 0 <= c) : c * a <= c * b := Int.mul_le_mul_of_nonneg_left h g
def iR : Nat -> Nat -> Rho -> Rho
 | _, 0, l => l
 | k, n + 1, l => some (some k) :: iR (k + 1) n l
def rdP (ct : bj) (un : Unr) (j : JJ) (l : Lp JJ) (s : Env × List O × Option Sx.Ex) : T (cr JJ) := rdT ct un j l s.1 s.2.1 s.2.2
abbrev vi (n : Int) : V := .int .i64 n
abbrev tp2 : List Ty := [Ty.int IntKind.i64, Ty.int IntKind.i64]
abbrev tp4 : List Ty := [Ty.int IntKind.i64, Ty.int IntKind.i64, Ty.int IntKind.i64, Ty.int IntKind.i64]
abbrev tp1 : List Ty := [Ty.int IntKind.i64]
abbrev tyR : List Ty := [Ty.str, Ty.int IntKind.i64, Ty.sl [Ty.int IntKind.i64, Ty.int IntKind.i64], Ty.int IntKind.i64]
abbrev tyF : List Ty := [Ty.int IntKind.i64, Ty.int IntKind.i64, Ty.int IntKind.i64, Ty.int IntKind.i64, Ty.sl [Ty.int IntKind.i64, Ty.int IntKind.i64, Ty.int IntKind.i64, Ty.int IntKind.i64]]
abbrev tyC : List Ty := [Ty.str, Ty.int IntKind.i64, Ty.int IntKind.i64, Ty.int IntKind.i64, Ty.int IntKind.i64, Ty.int IntKind.i64]
abbrev tyT : List Ty := [Ty.int IntKind.i64, Ty.int IntKind.i64, Ty.int IntKind.i64, Ty.int IntKind.i64, Ty.int IntKind.i64]
abbrev scV (n0 : Nat) (f0 : FnV) (n2 : Nat) (f2 : FnV) (n4 : Nat) (f4 : FnV) (n6 : Nat) (f6 : FnV) : V := .agg [.sl n0 (elV tyR f0), .sl n2 (elV tyT f2), .sl n4 (elV tyF f4), .sl n6 (elV tyC f6)]
end Go.Dx
namespace Go.Dx
open Go.IntKind (i64 u64 u8)
open Go.Sx Go.Proofs
def eqs : List TypeId := [68, 29, 72, 192, 95]
theorem hE : ∀ t ∈ eqs, cW Tryz.prog t := by
 intro t ht
 simp only [eqs, List.mem_cons, List.not_mem_nil, or_false] at ht
 rcases ht with rfl | rfl | rfl | rfl | rfl
 ·exact eW (by kernel_rfl) (by kernel_rfl) (by kernel_rfl) (by kernel_rfl) (by kernel_rfl)
 ·exact eW (by kernel_rfl) (by kernel_rfl) (by kernel_rfl) (by kernel_rfl) (by kernel_rfl)
 ·exact t8 3 2 (by kernel_rfl) (by kernel_rfl) (by kernel_rfl) (by kernel_rfl) (by kernel_rfl) (by kernel_rfl)
 ·exact eW (by kernel_rfl) (by kernel_rfl) (by kernel_rfl) (by kernel_rfl) (by kernel_rfl)
 ·exact eW (by kernel_rfl) (by kernel_rfl) (by kernel_rfl) (by kernel_rfl) (by kernel_rfl)
theorem hI : nK Tryz.prog eqs its := by
 intro it ht
 simp only [its, List.mem_cons, List.not_mem_nil, or_false] at ht
 subst ht
 exact ⟨_, Tryz.func128, by kernel_rfl, by kernel_rfl⟩
def u0 : Unr := fun _ => 0
noncomputable def fnQ (fn : Func) (sf : aP) (ts : List Ty) : Bool × Option aP × Bool × Bool := (fn.name == "runtime.NumGoroutine", eV Tryz.prog eqs its fn, eC sf.ntmps sf.body, fp ts)
theorem oV {fn : Func} {sf : aP} {ts : List Ty} (h : fnQ fn sf ts = (false, some sf, true, true)) : (fn.name == "runtime.NumGoroutine") = false /\ eV Tryz.prog eqs its fn = some sf /\ eC sf.ntmps sf.body = true /\ fp ts = true := by
 have h1 := congrArg Prod.fst h
 have h2 := congrArg (fun x => x.2.1) h
 have h3 := congrArg (fun x => x.2.2.1) h
 have h4 := congrArg (fun x => x.2.2.2) h
 exact ⟨h1, h2, h3, h4⟩
section
variable {ct : bj} {f : FuncId} {fn : Func} {sf : aP} {un : Unr} {ts : List Ty} {pre : List V -> Prop} {r : List V -> V}
theorem mkE (hT : bb Tryz.prog eqs its ct) (hf : Tryz.prog.funcs[f]? = some fn) (hk : fnQ fn sf ts = (false, some sf, true, true)) (h : ∀ ds, pre (aq ts ds) -> Run ct (be JJ ct un sf (aq ts ds)) (r (aq ts ds))) : (vP (mkC ts pre r)).Ok Tryz.prog f :=
 CT (J := JJ) (un := un) hT hE hI hf (oV hk).1 (oV hk).2.1 (oV hk).2.2.1 (oV hk).2.2.2 fun w0 ds hp => h ds hp hT.dst w0
end
end Go.Dx
namespace Go.Dx
open Go.IntKind (i64 u64 u8)
open Go.Sx Go.Proofs
def wA : bj := []
theorem sB : bb Tryz.prog eqs its wA := .nil
def m84 (x0 x1 x2 x3 : Int) : RT Empty := .ret (V.agg [vi (i64.wrap (x0 - x2)), vi (i64.wrap (x1 - x3))])
theorem Ii (x0 x1 x2 x3 : Int) : Fit noD (be JJ wA u0 s84 [V.agg [vi x0, vi x1], V.agg [vi x2, vi x3]]) (m84 x0 x1 x2 x3) := ⟨by kernel_rfl, by kernel_rfl⟩
def aG (x0 x2 : Int) : Int := i64.wrap (x0 - x2)
def aH (x1 x3 : Int) : Int := i64.wrap (x1 - x3)
def R84 (x0 x1 x2 x3 : Int) : V := .agg [.int i64 (aG x0 x2), .int i64 (aH x1 x3)]
theorem M2 (x0 x1 x2 x3 : Int) : evR noE (m84 x0 x1 x2 x3) (R84 x0 x1 x2 x3) := ao (by unfold R84 aG aH; rfl)
def C84 : aX := mkC [.agg tp2, .agg tp2] (fun _ => True) fun
 | [.agg [.int _ x0, .int _ x1], .agg [.int _ x2, .int _ x3]] => R84 x0 x1 x2 x3
 | _ => .any
theorem wu : (vP C84).Ok Tryz.prog 84 := mkE sB Tryz.func84 (by kernel_rfl) fun ds hp => rf0 (Ii ..) (M2 _ _ _ _)
def m85 (x0 x1 x2 x3 : Int) : RT Empty := .ret (vi (i64.wrap (i64.wrap (x0 * x2) + i64.wrap (x1 * x3))))
theorem Iy (x0 x1 x2 x3 : Int) : Fit noD (be JJ wA u0 s85 [V.agg [vi x0, vi x1], V.agg [vi x2, vi x3]]) (m85 x0 x1 x2 x3) := ⟨by kernel_rfl, by kernel_rfl⟩
def dk (x0 x1 x2 x3 : Int) : Int := i64.wrap (i64.wrap (x0 * x2) + i64.wrap (x1 * x3))
def R85 (x0 x1 x2 x3 : Int) : V := .int i64 (dk x0 x1 x2 x3)
theorem LW (x0 x1 x2 x3 : Int) : evR noE (m85 x0 x1 x2 x3) (R85 x0 x1 x2 x3) := ao (by unfold R85 dk; rfl)
def C85 : aX := mkC [.agg tp2, .agg tp2] (fun _ => True) fun
 | [.agg [.int _ x0, .int _ x1], .agg [.int _ x2, .int _ x3]] => R85 x0 x1 x2 x3
 | _ => .any
theorem wD : (vP C85).Ok Tryz.prog 85 := mkE sB Tryz.func85 (by kernel_rfl) fun ds hp => rf0 (Iy ..) (LW _ _ _ _)
def JX (x0 x1 x2 x3 : Int) : RT Empty := .ret (vi (i64.wrap (i64.wrap (x0 * x3) - i64.wrap (x1 * x2))))
theorem GA (x0 x1 x2 x3 : Int) : Fit noD (be JJ wA u0 LB [V.agg [vi x0, vi x1], V.agg [vi x2, vi x3]]) (JX x0 x1 x2 x3) := ⟨by kernel_rfl, by kernel_rfl⟩
def b9 (x0 x1 x2 x3 : Int) : Int := i64.wrap (i64.wrap (x0 * x3) - i64.wrap (x1 * x2))
def Gp (x0 x1 x2 x3 : Int) : V := .int i64 (b9 x0 x1 x2 x3)
theorem H9 (x0 x1 x2 x3 : Int) : evR noE (JX x0 x1 x2 x3) (Gp x0 x1 x2 x3) := ao (by unfold Gp b9; rfl)
def uX : aX := mkC [.agg tp2, .agg tp2] (fun _ => True) fun
 | [.agg [.int _ x0, .int _ x1], .agg [.int _ x2, .int _ x3]] => Gp x0 x1 x2 x3
 | _ => .any
theorem pi : (vP uX).Ok Tryz.prog 127 := mkE sB Tryz.func127 (by kernel_rfl) fun ds hp => rf0 (GA ..) (H9 _ _ _ _)
def Kg (x0 x1 x2 : Int) : RT Empty := .ret (V.agg [vi (i64.wrap (x2 * x0)), vi (i64.wrap (x2 * x1))])
theorem HV (x0 x1 x2 : Int) : Fit noD (be JJ wA u0 Nf [V.agg [vi x0, vi x1], vi x2]) (Kg x0 x1 x2) := ⟨by kernel_rfl, by kernel_rfl⟩
def cq (x0 x2 : Int) : Int := i64.wrap (x2 * x0)
def co (x1 x2 : Int) : Int := i64.wrap (x2 * x1)
def HG (x0 x1 x2 : Int) : V := .agg [.int i64 (cq x0 x2), .int i64 (co x1 x2)]
theorem If (x0 x1 x2 : Int) : evR noE (Kg x0 x1 x2) (HG x0 x1 x2) := ao (by unfold HG cq co; rfl)
def uC : aX := mkC [.agg tp2, .int .i64] (fun _ => True) fun
 | [.agg [.int _ x0, .int _ x1], .int _ x2] => HG x0 x1 x2
 | _ => .any
theorem rf : (vP uC).Ok Tryz.prog 101 := mkE sB Tryz.func101 (by kernel_rfl) fun ds hp => rf0 (HV ..) (If _ _ _)
def m86 (x0 x1 x2 : Int) : RT Empty := .obi (.obi (.obi (.ret (V.bool (bif decide (x0 < x1) then true else decide (x2 < x0))))))
theorem Js (x0 x1 x2 : Int) : Fit noD (be JJ wA u0 s86 [vi x0, vi x1, vi x2]) (m86 x0 x1 x2) := ⟨by kernel_rfl, by kernel_rfl⟩
def aK (x0 x1 x2 : Int) : Bool := bif decide (x0 < x1) then true else decide (x2 < x0)
def R86 (x0 x1 x2 : Int) : V := .bool (aK x0 x1 x2)
theorem Lj (x0 x1 x2 : Int) : evR noE (m86 x0 x1 x2) (R86 x0 x1 x2) := af (af (af (ao (by unfold R86 aK; rfl))))
def C86 : aX := mkC [.int .i64, .int .i64, .int .i64] (fun _ => True) fun
 | [.int _ x0, .int _ x1, .int _ x2] => R86 x0 x1 x2
 | _ => .any
theorem wo : (vP C86).Ok Tryz.prog 86 := mkE sB Tryz.func86 (by kernel_rfl) fun ds hp => rf0 (Js ..) (Lj _ _ _)
def dX (x0 x1 x2 : Int) : Bool := bif decide (x1 <= x0) then decide (x0 <= x2) else false
def bG (x0 x2 : Int) : Int := i64.wrap (x0 - x2)
def bH (x1 x3 : Int) : Int := i64.wrap (x1 - x3)
def pT (x0 x1 x2 x3 : Int) : Int := i64.wrap (i64.wrap (x0 * x2) + i64.wrap (x1 * x3))
def jV (x0 x1 x2 x3 : Int) : Int := i64.wrap (i64.wrap (x0 * x3) - i64.wrap (x1 * x2))
def tj (x0 : Int) : Int := max x0 (i64.wrap (0 - x0))
def nq (x0 : Int) : Int := max (-1) (min 1 x0)
def KE (x0 x1 : Int) : RT Empty := .obt (.obt (.obt (.obt (.obt (.ret (V.tup [V.int u64 (u64.wrap (u64.wrap (u64.wrap (x0.fdiv (2 ^ 32) * x1.fdiv (2 ^ 32)) + (u64.wrap (u64.wrap (x0.fdiv (2 ^ 32) * bits BinOp.and u64 x1 4294967295) + (u64.wrap (bits BinOp.and u64 x0 4294967295 * bits BinOp.and u64 x1 4294967295)).fdiv (2 ^ 32))).fdiv (2 ^ 32)) + (u64.wrap (bits BinOp.and u64 (u64.wrap (u64.wrap (x0.fdiv (2 ^ 32) * bits BinOp.and u64 x1 4294967295) + (u64.wrap (bits BinOp.and u64 x0 4294967295 * bits BinOp.and u64 x1 4294967295)).fdiv (2 ^ 32))) 4294967295 + u64.wrap (bits BinOp.and u64 x0 4294967295 * x1.fdiv (2 ^ 32)))).fdiv (2 ^ 32))), V.int u64 (u64.wrap (x0 * x1))]))))))
theorem FI (x0 x1 : Int) : Fit noD (be JJ wA u0 MV [V.int u64 x0, V.int u64 x1]) (KE x0 x1) := ⟨by kernel_rfl, by kernel_rfl⟩
def mQ (x0 x1 : Int) : Int := u64.wrap (u64.wrap (u64.wrap (x0.fdiv (2 ^ 32) * x1.fdiv (2 ^ 32)) + (u64.wrap (u64.wrap (x0.fdiv (2 ^ 32) * bits BinOp.and u64 x1 4294967295) + (u64.wrap (bits BinOp.and u64 x0 4294967295 * bits BinOp.and u64 x1 4294967295)).fdiv (2 ^ 32))).fdiv (2 ^ 32)) + (u64.wrap (bits BinOp.and u64 (u64.wrap (u64.wrap (x0.fdiv (2 ^ 32) * bits BinOp.and u64 x1 4294967295) + (u64.wrap (bits BinOp.and u64 x0 4294967295 * bits BinOp.and u64 x1 4294967295)).fdiv (2 ^ 32))) 4294967295 + u64.wrap (bits BinOp.and u64 x0 4294967295 * x1.fdiv (2 ^ 32)))).fdiv (2 ^ 32))
def nI (x0 x1 : Int) : Int := u64.wrap (x0 * x1)
def Gf (x0 x1 : Int) : V := .tup [.int u64 (mQ x0 x1), .int u64 (nI x0 x1)]
theorem Ix (x0 x1 : Int) : evR noE (KE x0 x1) (Gf x0 x1) := ae (ae (ae (ae (ae (ao (by unfold Gf mQ nI; rfl))))))
def uG : aX := mkC [.int .u64, .int .u64] (fun _ => True) fun
 | [.int _ x0, .int _ x1] => Gf x0 x1
 | _ => .any
theorem po : (vP uG).Ok Tryz.prog 162 := mkE sB Tryz.func162 (by kernel_rfl) fun ds hp => rf0 (FI ..) (Ix _ _)
def tV : bj := [(84, .con C84), (85, .con C85), (127, .con uX), (101, .con uC), (86, .con C86), (162, .con uG)]
theorem nX : bb Tryz.prog eqs its tV := .con wu (.con wD (.con pi (.con rf (.con wo (.con po (.nil))))))
def IX (x0 x1 : Int) : RT Empty := .obc (.obt (.ret (V.agg [V.int u64 (mQ (u64.wrap x0) (u64.wrap x1)), V.int u64 (nI (u64.wrap x0) (u64.wrap x1))])))
theorem GQ (x0 x1 : Int) : Fit noD (be JJ tV u0 Lo [vi x0, vi x1]) (IX x0 x1) := ⟨by kernel_rfl, by kernel_rfl⟩
def jf (x0 x1 : Int) : Int := mQ (u64.wrap x0) (u64.wrap x1)
def iY (x0 x1 : Int) : Int := nI (u64.wrap x0) (u64.wrap x1)
def G1 (x0 x1 : Int) : V := .agg [.int u64 (jf x0 x1), .int u64 (iY x0 x1)]
theorem IN (x0 x1 : Int) : evR noE (IX x0 x1) (G1 x0 x1) := ar (ae (ao (by unfold G1 jf iY; rfl)))
def wd : aX := mkC tp2 (fun _ => True) fun
 | [.int _ x0, .int _ x1] => G1 x0 x1
 | _ => .any
theorem pr : (vP wd).Ok Tryz.prog 134 := mkE nX Tryz.func134 (by kernel_rfl) fun ds hp => rf0 (GQ ..) (IN _ _)
def KT (x0 x1 x2 x3 : Int) : RT Empty := .obi (.obi (.obi (.obi (.obi (.obi (.obi (.obi (.obi (.obi (.obi (.obi (.obi (.obi (.obi (.obi (.obi (.ret (V.bool (bif bif x0 == x2 && (x1 == x3 && true) then true else decide (x0 < x2) then true else bif x0 == x2 then decide (x1 < x3) else false)))))))))))))))))))
theorem Gz (x0 x1 x2 x3 : Int) : Fit noD (be JJ tV u0 LG [V.agg [V.int u64 x0, V.int u64 x1], V.agg [V.int u64 x2, V.int u64 x3]]) (KT x0 x1 x2 x3) := ⟨by kernel_rfl, by kernel_rfl⟩
def mH (x0 x1 x2 x3 : Int) : Bool := bif bif x0 == x2 && (x1 == x3 && true) then true else decide (x0 < x2) then true else bif x0 == x2 then decide (x1 < x3) else false
def F0 (x0 x1 x2 x3 : Int) : V := .bool (mH x0 x1 x2 x3)
theorem Kk (x0 x1 x2 x3 : Int) : evR noE (KT x0 x1 x2 x3) (F0 x0 x1 x2 x3) := af (af (af (af (af (af (af (af (af (af (af (af (af (af (af (af (af (ao (by unfold F0 mH; rfl))))))))))))))))))
def v8 : aX := mkC [.agg [.int .u64, .int .u64], .agg [.int .u64, .int .u64]] (fun _ => True) fun
 | [.agg [.int _ x0, .int _ x1], .agg [.int _ x2, .int _ x3]] => F0 x0 x1 x2 x3
 | _ => .any
theorem rb : (vP v8).Ok Tryz.prog 135 := mkE nX Tryz.func135 (by kernel_rfl) fun ds hp => rf0 (Gz ..) (Kk _ _ _ _)
def G7 (x0 x1 x2 x3 : Int) : Bool := bif decide (x2 < x0) then true else bif x0 == x2 then decide (x3 < x1) else false
def Dq (x0 x1 : Int) : Int := u64.wrap (u64.wrap (u64.wrap (u64.wrap ((u64.wrap x0).tdiv 4294967296) * u64.wrap ((u64.wrap x1).tdiv 4294967296)) + u64.wrap ((u64.wrap (u64.wrap (u64.wrap ((u64.wrap x0).tdiv 4294967296) * (u64.wrap x1).tmod 4294967296) + u64.wrap ((u64.wrap ((u64.wrap x0).tmod 4294967296 * (u64.wrap x1).tmod 4294967296)).tdiv 4294967296))).tdiv 4294967296)) + u64.wrap ((u64.wrap (u64.wrap ((u64.wrap x0).tmod 4294967296 * u64.wrap ((u64.wrap x1).tdiv 4294967296)) + (u64.wrap (u64.wrap (u64.wrap ((u64.wrap x0).tdiv 4294967296) * (u64.wrap x1).tmod 4294967296) + u64.wrap ((u64.wrap ((u64.wrap x0).tmod 4294967296 * (u64.wrap x1).tmod 4294967296)).tdiv 4294967296))).tmod 4294967296)).tdiv 4294967296))
def Ck (x0 x1 : Int) : Int := u64.wrap (u64.wrap (u64.wrap (u64.wrap ((u64.wrap x0).tmod 4294967296 * u64.wrap ((u64.wrap x1).tdiv 4294967296)) + (u64.wrap (u64.wrap (u64.wrap ((u64.wrap x0).tdiv 4294967296) * (u64.wrap x1).tmod 4294967296) + u64.wrap ((u64.wrap ((u64.wrap x0).tmod 4294967296 * (u64.wrap x1).tmod 4294967296)).tdiv 4294967296))).tmod 4294967296) * 4294967296) + (u64.wrap ((u64.wrap x0).tmod 4294967296 * (u64.wrap x1).tmod 4294967296)).tmod 4294967296)
def m78 (x0 x1 x2 x3 x4 x5 : Int) : RT Empty := .obc (.obt (.obc (.obt (.obc (.obt (.ret (vi (b9 (aG x2 x0) (aH x3 x1) (aG x4 x0) (aH x5 x1)))))))))
theorem Jr (x0 x1 x2 x3 x4 x5 : Int) : Fit noD (be JJ tV u0 s78 [V.agg [vi x0, vi x1, vi x2, vi x3], V.agg [vi x4, vi x5]]) (m78 x0 x1 x2 x3 x4 x5) := ⟨by kernel_rfl, by kernel_rfl⟩
def bo (x0 x1 x2 x3 x4 x5 : Int) : Int := b9 (aG x2 x0) (aH x3 x1) (aG x4 x0) (aH x5 x1)
def R78 (x0 x1 x2 x3 x4 x5 : Int) : V := .int i64 (bo x0 x1 x2 x3 x4 x5)
theorem MZ (x0 x1 x2 x3 x4 x5 : Int) : evR noE (m78 x0 x1 x2 x3 x4 x5) (R78 x0 x1 x2 x3 x4 x5) := ar (ae (ar (ae (ar (ae (ao (by unfold R78 bo; rfl)))))))
def C78 : aX := mkC [.agg tp4, .agg tp2] (fun _ => True) fun
 | [.agg [.int _ x0, .int _ x1, .int _ x2, .int _ x3], .agg [.int _ x4, .int _ x5]] => R78 x0 x1 x2 x3 x4 x5
 | _ => .any
theorem wS : (vP C78).Ok Tryz.prog 78 := mkE nX Tryz.func78 (by kernel_rfl) fun ds hp => rf0 (Jr ..) (MZ _ _ _ _ _ _)
def m54 (x0 x1 x2 x3 : Int) : RT Empty := .ret (V.agg [vi x0, vi x1, vi x2, vi x1, vi x2, vi x3, vi x0, vi x3])
theorem Kh (x0 x1 x2 x3 : Int) : Fit noD (be JJ tV u0 s54 [V.agg [vi x0, vi x1, vi x2, vi x3]]) (m54 x0 x1 x2 x3) := ⟨by kernel_rfl, by kernel_rfl⟩
def R54 (x0 x1 x2 x3 : Int) : V := .agg [.int i64 (x0), .int i64 (x1), .int i64 (x2), .int i64 (x1), .int i64 (x2), .int i64 (x3), .int i64 (x0), .int i64 (x3)]
theorem Np (x0 x1 x2 x3 : Int) : evR noE (m54 x0 x1 x2 x3) (R54 x0 x1 x2 x3) := ao (by unfold R54 ; rfl)
def C54 : aX := mkC [.agg tp4] (fun _ => True) fun
 | [.agg [.int _ x0, .int _ x1, .int _ x2, .int _ x3]] => R54 x0 x1 x2 x3
 | _ => .any
theorem w9 : (vP C54).Ok Tryz.prog 54 := mkE nX Tryz.func54 (by kernel_rfl) fun ds hp => rf0 (Kh ..) (Np _ _ _ _)
def m48 (s0 : ByteArray) (x1 x2 x3 x4 x5 x6 x7 x8 x9 x10 : Int) : RT Empty := .obc (.obt (.ret (V.agg [vi x1, vi x2, vi x3, vi (max 0 (i64.wrap (x3 - x10))), vi (i64.wrap (x3 - x9)), vi (cq x6 x3), vi (co x7 x3), vi (i64.wrap (x8 * x3)), V.bool (decide (x3 < x9))])))
theorem ID (s0 : ByteArray) (x1 x2 x3 x4 x5 x6 x7 x8 x9 x10 : Int) : Fit noD (be JJ tV u0 s48 [V.agg [V.str s0, vi x1, vi x2, vi x3, vi x4, vi x5], V.agg [vi x6, vi x7, vi x8, vi x9, vi x10]]) (m48 s0 x1 x2 x3 x4 x5 x6 x7 x8 x9 x10) := ⟨by kernel_rfl, by kernel_rfl⟩
def ge (x3 x10 : Int) : Int := max 0 (i64.wrap (x3 - x10))
def gE (x3 x9 : Int) : Int := i64.wrap (x3 - x9)
def gx (x3 x6 : Int) : Int := cq x6 x3
def gw (x3 x7 : Int) : Int := co x7 x3
def gF (x3 x8 : Int) : Int := i64.wrap (x8 * x3)
def em (x3 x9 : Int) : Bool := decide (x3 < x9)
def R48 (s0 : ByteArray) (x1 x2 x3 x4 x5 x6 x7 x8 x9 x10 : Int) : V := .agg [.int i64 (x1), .int i64 (x2), .int i64 (x3), .int i64 (ge x3 x10), .int i64 (gE x3 x9), .int i64 (gx x3 x6), .int i64 (gw x3 x7), .int i64 (gF x3 x8), .bool (em x3 x9)]
theorem Mt (s0 : ByteArray) (x1 x2 x3 x4 x5 x6 x7 x8 x9 x10 : Int) : evR noE (m48 s0 x1 x2 x3 x4 x5 x6 x7 x8 x9 x10) (R48 s0 x1 x2 x3 x4 x5 x6 x7 x8 x9 x10) := ar (ae (ao (by unfold R48 ge gE gx gw gF em; rfl)))
def C48 : aX := mkC [.agg tyC, .agg tyT] (fun _ => True) fun
 | [.agg [.str s0, .int _ x1, .int _ x2, .int _ x3, .int _ x4, .int _ x5], .agg [.int _ x6, .int _ x7, .int _ x8, .int _ x9, .int _ x10]] => R48 s0 x1 x2 x3 x4 x5 x6 x7 x8 x9 x10
 | _ => .any
theorem wk : (vP C48).Ok Tryz.prog 48 := mkE nX Tryz.func48 (by kernel_rfl) fun ds hp => rf0 (ID ..) (Mt _ _ _ _ _ _ _ _ _ _ _)
def KC (x0 x1 x2 x3 x4 x5 x6 x7 : Int) (b8 : Bool) (x9 x10 x11 : Int) : RT Empty := .obc (.obt (.ret (V.agg [vi (i64.wrap (i64.wrap (x2 * x0) + i64.wrap (x11 * aG x9 x0))), vi (i64.wrap (i64.wrap (x2 * x1) + i64.wrap (x11 * aH x10 x1)))])))
theorem F3 (x0 x1 x2 x3 x4 x5 x6 x7 : Int) (b8 : Bool) (x9 x10 x11 : Int) : Fit noD (be JJ tV u0 Md [V.agg [vi x0, vi x1, vi x2, vi x3, vi x4, vi x5, vi x6, vi x7, V.bool b8], V.agg [vi x9, vi x10], vi x11]) (KC x0 x1 x2 x3 x4 x5 x6 x7 b8 x9 x10 x11) := ⟨by kernel_rfl, by kernel_rfl⟩
def aV (x0 x2 x9 x11 : Int) : Int := i64.wrap (i64.wrap (x2 * x0) + i64.wrap (x11 * aG x9 x0))
def aT (x1 x2 x10 x11 : Int) : Int := i64.wrap (i64.wrap (x2 * x1) + i64.wrap (x11 * aH x10 x1))
def HT (x0 x1 x2 x3 x4 x5 x6 x7 : Int) (b8 : Bool) (x9 x10 x11 : Int) : V := .agg [.int i64 (aV x0 x2 x9 x11), .int i64 (aT x1 x2 x10 x11)]
theorem Jh (x0 x1 x2 x3 x4 x5 x6 x7 : Int) (b8 : Bool) (x9 x10 x11 : Int) : evR noE (KC x0 x1 x2 x3 x4 x5 x6 x7 b8 x9 x10 x11) (HT x0 x1 x2 x3 x4 x5 x6 x7 b8 x9 x10 x11) := ar (ae (ao (by unfold HT aV aT; rfl)))
def vc : aX := mkC [.agg [.int .i64, .int .i64, .int .i64, .int .i64, .int .i64, .int .i64, .int .i64, .int .i64, .bool], .agg tp2, .int .i64] (fun _ => True) fun
 | [.agg [.int _ x0, .int _ x1, .int _ x2, .int _ x3, .int _ x4, .int _ x5, .int _ x6, .int _ x7, .bool b8], .agg [.int _ x9, .int _ x10], .int _ x11] => HT x0 x1 x2 x3 x4 x5 x6 x7 b8 x9 x10 x11
 | _ => .any
theorem pW : (vP vc).Ok Tryz.prog 102 := mkE nX Tryz.func102 (by kernel_rfl) fun ds hp => rf0 (F3 ..) (Jh _ _ _ _ _ _ _ _ _ _ _ _)
def A6 (x3 x10 : Int) : Int := i64.wrap (x3 - min x10 x3)
def Ba (x3 x9 : Int) : Int := i64.wrap (x3 - x9)
def Dj (x3 x6 : Int) : Int := i64.wrap (x3 * x6)
def CZ (x3 x7 : Int) : Int := i64.wrap (x3 * x7)
def Bd (x3 x8 : Int) : Int := i64.wrap (x3 * x8)
def m29 (b0 : Bool) (x1 x2 x3 x4 : Int) : RT Empty := .br (b0) (.ret (V.tup [vi (i64.wrap (i64.wrap (0 - x4) + x1)), vi (i64.wrap (x3 + x2))])) (.ret (V.tup [vi (i64.wrap (x3 + x1)), vi (i64.wrap (x4 + x2))]))
theorem Ic (b0 : Bool) (x1 x2 x3 x4 : Int) : Fit noD (be JJ tV u0 s29 [V.agg [V.bool b0, vi x1, vi x2], vi x3, vi x4]) (m29 b0 x1 x2 x3 x4) := ⟨by kernel_rfl, by kernel_rfl⟩
def bg (b0 : Bool) (x1 x3 x4 : Int) : Int := bif b0 then i64.wrap (i64.wrap (0 - x4) + x1) else i64.wrap (x3 + x1)
def bh (b0 : Bool) (x2 x3 x4 : Int) : Int := bif b0 then i64.wrap (x3 + x2) else i64.wrap (x4 + x2)
def R29 (b0 : Bool) (x1 x2 x3 x4 : Int) : V := .tup [.int i64 (bg b0 x1 x3 x4), .int i64 (bh b0 x2 x3 x4)]
theorem Ls (b0 : Bool) (x1 x2 x3 x4 : Int) : evR noE (m29 b0 x1 x2 x3 x4) (R29 b0 x1 x2 x3 x4) := aO (fun h0 => ao (by unfold R29 bg bh; try rw [h0]; rfl)) (fun h0 => ao (by unfold R29 bg bh; try rw [h0]; rfl))
def C29 : aX := mkC [.agg [.bool, .int .i64, .int .i64], .int .i64, .int .i64] (fun _ => True) fun
 | [.agg [.bool b0, .int _ x1, .int _ x2], .int _ x3, .int _ x4] => R29 b0 x1 x2 x3 x4
 | _ => .any
theorem wR : (vP C29).Ok Tryz.prog 29 := mkE nX Tryz.func29 (by kernel_rfl) fun ds hp => rf0 (Ic ..) (Ls _ _ _ _ _)
end Go.Dx
namespace Go.Dx
open Go.IntKind (i64 u64 u8)
open Go.Sx
theorem cX {n : Nat} {P : Nat -> Prop} (h : ∀ i, i <= n -> (i < n -> P (i + 1)) -> P i) : ∀ i, i <= n -> P i := by
 have key : ∀ k i, i + k = n -> P i := by
  intro k
  induction k with
  | zero => intro i e; exact h i (by omega) fun h => by omega
  | succ k ih => intro i e; exact h i (by omega) fun _ => ih (i + 1) (by omega)
 exact fun i hi => key (n - i) i (by omega)
theorem av {x : Int} (h1 : -9223372036854775808 <= x) (h2 : x <= 9223372036854775807) : i64.wrap x = x := IntWalk.i64_in _ (by omega)
theorem ol {i n : Nat} (h : i < n) (hn : n <= 9223372036854775807) : i64.wrap ((i : Int) + 1) = ((i + 1 : Nat) : Int) := by
 rw [av (by omega) (by omega)]; omega
theorem AP {n : Nat} {p : Nat -> Bool} : iJ n p = true ↔ ∀ i, i < n -> p i = true := ⟨cE, jh⟩
theorem pj {n : Nat} {p : Nat -> Bool} (i : Nat) (hi : i < n) (h : p i = false) : iJ n p = false := by
 cases hb : iJ n p with
 | false => rfl
 | true => rw [cE hb i hi] at h; cases h
def xx (p : Nat -> Bool) : Nat -> Nat -> Int
 | 0, _ => -1
 | k + 1, i => bif p i then (i : Int) else xx p k (i + 1)
def idx (n : Nat) (p : Nat -> Bool) : Int := xx p n 0
theorem rC {p : Nat -> Bool} : ∀ (k i : Nat), (∀ j, i <= j -> j < i + k -> p j = false) -> xx p k i = -1
 | 0, _, _ => rfl
 | k + 1, i, h => by simp only [xx, h i (Nat.le_refl _) (by omega), cond_false]; exact rC k (i + 1) fun j h1 h2 => h j (by omega) (by omega)
theorem sG {p : Nat -> Bool} {j : Nat} (hj : p j = true) : ∀ (k i : Nat), i <= j -> j < i + k -> (∀ l, i <= l -> l < j -> p l = false) -> xx p k i = j
 | 0, i, h1, h2, _ => by omega
 | k + 1, i, h1, h2, h => by
   by_cases e : i = j
   ·subst e; simp only [xx, hj, cond_true]
   ·simp only [xx, h i (Nat.le_refl _) (by omega), cond_false]
    exact sG hj k (i + 1) (by omega) (by omega) fun l h3 h4 => h l (by omega) h4
theorem mA {n : Nat} {p : Nat -> Bool} (h : ∀ j, j < n -> p j = false) : idx n p = -1 := rC n 0 fun j _ h2 => h j (by omega)
theorem mu {n : Nat} {p : Nat -> Bool} {j : Nat} (hj : p j = true) (h1 : j < n) (h : ∀ l, l < j -> p l = false) : idx n p = j := sG hj n 0 (by omega) (by omega) fun l _ h4 => h l h4
theorem pC {n : Nat} {p : Nat -> Bool} : (idx n p = -1 /\ ∀ j, j < n -> p j = false) ∨ ∃ j, j < n /\ idx n p = (j : Int) /\ p j = true /\ ∀ l, l < j -> p l = false := by
 by_cases h : ∀ j, j < n -> p j = false
 ·exact .inl ⟨mA h, h⟩
 ·right
  have : ∃ j, j < n /\ p j = true := by
   simp only [Classical.not_forall] at h
   obtain ⟨j, hj, hp⟩ := h
   exact ⟨j, hj, by simpa using hp⟩
  have key : ∀ m, (∃ j, j < m /\ j < n /\ p j = true) -> ∃ j, j < n /\ p j = true /\ ∀ l, l < j -> p l = false := by
   intro m
   induction m with
   | zero => rintro ⟨j, hj, _⟩; omega
   | succ m ih =>
     rintro ⟨j, hj, hn, hp⟩
     by_cases hm : ∃ j, j < m /\ j < n /\ p j = true
     ·exact ih hm
     ·refine ⟨j, hn, hp, fun l hl => ?_⟩
      cases hb : p l with
      | false => rfl
      | true => exact (hm ⟨l, by omega, by omega, hb⟩).elim
  obtain ⟨j, hj, hp⟩ := this
  obtain ⟨j, h1, h2, h3⟩ := key n ⟨j, hj, hj, hp⟩
  exact ⟨j, h1, mu h2 h1 h3, h2, h3⟩
def exB (n : Nat) (p : Nat -> Bool) : Bool := !iJ n fun i => !p i
theorem kt {n : Nat} {p : Nat -> Bool} : decide (0 <= idx n p) = exB n p := by
 rcases pC (n := n) (p := p) with ⟨h1, h2⟩ | ⟨j, h1, h2, h3, _⟩
 ·rw [h1]; unfold exB; rw [jh fun i hi => by rw [h2 i hi]; rfl]; rfl
 ·rw [h2]; unfold exB; rw [pj j h1 (by rw [h3]; rfl)]; simp
section
variable {S : Type} {step : S -> RT S} {r : V}
theorem Ev.st {s : S} (h0 : cG (step s) = true) (h : evR (Ev step) (step s) r) : Ev step s r := Ev.of h0 h
end
end Go.Dx
namespace Go.Dx
open Go.IntKind (i64 u64 u8)
open Go.Sx
section
variable {S : Type} {step : S -> RT S}
theorem nE {L : Int -> S} {n : Nat} {p : Nat -> Bool} (hn : n <= 9223372036854775807)
 (hst : ∀ i : Nat, step (L i) = .br (decide ((i : Int) < (n : Int))) (.ob (decide (0 <= (i : Int) /\ (i : Int) < (n : Int))) (.obc (.obt (.br (p i) (.ret (.int .i64 i)) (.next [] (L (i64.wrap ((i : Int) + 1))) []))))) (.ret (.int .i64 (-1)))) :
 Ev step (L 0) (.int .i64 (idx n p)) := by
 have key := cX (n := n) (P := fun i => (∀ j, j < i -> p j = false) -> Ev step (L i) (.int .i64 (idx n p))) fun i hi ih hj => by
  refine Ev.of (by rw [hst]; rfl) ?_
  rw [hst]
  refine aO (fun h => ?_) (fun h => ?_)
  ·have hlt : i < n := by simpa using h
   refine al (by simpa using hlt) (ar (ae (aO (fun hb => ao ?_) (fun hb => aN ?_))))
   ·rw [mu hb hlt hj]
   ·rw [ol hlt hn]
    exact ih hlt fun j h1 => by
     by_cases e : j = i
     ·subst e; exact hb
     ·exact hj j (by omega)
  ·have : i = n := by have : ¬ i < n := by simpa using h
                      omega
   subst this
   refine ao ?_
   rw [mA hj]
 exact key 0 (Nat.zero_le _) fun j hj => by omega
end
end Go.Dx
namespace Go.Dx
open Go.IntKind (i64 u64 u8)
open Go.Sx
theorem JQ {n : Nat} (hn : n <= 9223372036854775807) (p : Nat -> Bool) {P : Int -> Prop} (hstep : ∀ i : Nat, i < n -> (∀ j, j < i -> p j = false) -> (p i = false -> P (i64.wrap ((i : Int) + 1))) -> P i) (hend : (∀ j, j < n -> p j = false) -> P n) : P 0 := by
 have key := cX (n := n) (P := fun i => (∀ j, j < i -> p j = false) -> P i) fun i hi ih hj => by
  by_cases hlt : i < n
  ·refine hstep i hlt hj fun hp => ?_
   rw [ol hlt hn]
   exact ih hlt fun j h1 => by
    by_cases e : j = i
    ·subst e; exact hp
    ·exact hj j (by omega)
  ·have : i = n := by omega
   subst this; exact hend hj
 exact key 0 (Nat.zero_le _) fun j hj => by omega
section
variable {S : Type} {Nx : S -> V -> Prop} {r : V} {x y : RT S} {i n : Nat}
theorem B5 (h : i < n) (hx : evR Nx x r) : evR Nx (.br (decide ((i : Int) < (n : Int))) x y) r := ⟨fun _ => hx, fun k => by have := of_decide_eq_false k; omega⟩
theorem nJ (hy : evR Nx y r) : evR Nx (.br (decide ((n : Int) < (n : Int))) x y) r := ⟨(fun k => by have := of_decide_eq_true k; omega), fun _ => hy⟩
theorem Ca (h : i < n) (hx : evR Nx x r) : evR Nx (.ob (decide (0 <= (i : Int) /\ (i : Int) < (n : Int))) x) r := ⟨decide_eq_true (by omega), hx⟩
theorem cg {b : Bool} (h : b = true) (hx : evR Nx x r) : evR Nx (.br b x y) r := ⟨fun _ => hx, fun k => by rw [h] at k; cases k⟩
theorem cI {b : Bool} (h : b = false) (hy : evR Nx y r) : evR Nx (.br b x y) r := ⟨(fun k => by rw [h] at k; cases k), fun _ => hy⟩
end
end Go.Dx
namespace Go.Dx
open Go.IntKind (i64 u64 u8)
theorem bD {n : Nat} {p : Nat -> Bool} (i : Nat) (hi : i < n) (h : p i = true) : exB n p = true := by
 unfold exB; rw [pj i hi (by rw [h]; rfl)]; rfl
theorem dV {n : Nat} {p : Nat -> Bool} (h : ∀ i, i < n -> p i = false) : exB n p = false := by
 unfold exB; rw [jh fun i hi => by rw [h i hi]; rfl]; rfl
theorem ks {n : Nat} {p : Nat -> Bool} : exB n p = true ↔ ∃ i, i < n /\ p i = true := by
 constructor
 ·intro h
  apply Classical.byContradiction
  intro hn
  rw [dV fun i hi => by
   cases hp : p i with
   | false => rfl
   | true => exact (hn ⟨i, hi, hp⟩).elim] at h
  cases h
 ·rintro ⟨i, hi, h⟩; exact bD i hi h
end Go.Dx
namespace Go.Dx
open Go.IntKind (i64 u64 u8)
open Go.Sx
def eO (n : Nat) (c : Nat -> Int) : Int := bif idx n (fun i => c i != 0) == -1 then 0 else idx n fun i => c i != 0
def cN (n : Nat) (c : Nat -> Int) : Int := bif idx n (fun i => c i != 0) == -1 then 0 else c (idx n fun i => c i != 0).toNat
theorem qc {n : Nat} {c : Nat -> Int} (h : ∀ j, j < n -> (c j != 0) = false) : eO n c = 0 /\ cN n c = 0 := by
 unfold eO cN; rw [mA h]; exact ⟨rfl, rfl⟩
theorem pY {n : Nat} {c : Nat -> Int} {i : Nat} (hi : i < n) (hc : (c i != 0) = true) (h : ∀ j, j < i -> (c j != 0) = false) : eO n c = i /\ cN n c = c i := by
 unfold eO cN; rw [mu hc hi h]
 have : ((i : Int) == -1) = false := by rw [beq_eq_false_iff_ne]; omega
 rw [this]; exact ⟨rfl, rfl⟩
section
variable {S : Type} {step : S -> RT S}
theorem mb {L : Int -> S} {n : Nat} {c : Nat -> Int} {Q : Nat -> Prop} {ρ : Rho} (W : Nat -> RT S -> RT S) (hW : ∀ i x r, Q i -> evR (Ev step) x r -> evR (Ev step) (W i x) r) (hWn : ∀ i x, cG (W i x) = cG x) (hn : n <= 9223372036854775807) (hQ : ∀ i, i < n -> Q i)
 (hst : ∀ i : Nat, step (L i) = .br (decide ((i : Int) < (n : Int))) (.ob (decide (0 <= (i : Int) /\ (i : Int) < (n : Int))) (.ob (decide (0 <= (i : Int) /\ (i : Int) <= (n : Int))) (W i (.br (c i != 0) (.ret (.tup [.int .i64 i, .int .i64 (c i)])) (.next ρ (L (i64.wrap ((i : Int) + 1))) []))))) (.ret (.tup [.int .i64 0, .int .i64 0]))) :
 Ev step (L 0) (.tup [.int .i64 (eO n c), .int .i64 (cN n c)]) :=
 JQ hn (fun i => c i != 0) (P := fun i => Ev step (L i) (.tup [.int .i64 (eO n c), .int .i64 (cN n c)])) (fun i hlt hj next => Ev.of (by rw [hst]; simp only [cG, hWn, Bool.and_self]) (by
  rw [hst]
  refine B5 hlt (Ca hlt (al (decide_eq_true (by omega)) (hW i _ _ (hQ i hlt) (aO (fun hb => ao ?_) (fun hb => aN (next hb))))))
  rw [(pY hlt hb hj).1, (pY hlt hb hj).2])) (fun hj => Ev.of (by rw [hst]; simp only [cG, hWn, Bool.and_self]) (by
  rw [hst]
  refine nJ (ao ?_)
  rw [(qc hj).1, (qc hj).2]))
end
def cw (n : Nat) (f : Nat -> List V) : Prop := ∀ i, i < n -> (sv (hdV (f i))).size <= 9223372036854775807
end Go.Dx
namespace Go.Dx
open Go.IntKind (i64 u64 u8)
theorem ng {b : Bool} (h : (!!b) = true) : (!b) = false := by cases b <;> first | rfl | cases h
end Go.Dx
namespace Go.Dx
open Go.IntKind (i64 u64 u8)
open Go.Sx Go.Proofs
def C7 : bj := (134, .con wd) :: (135, .con v8) :: (78, .con C78) :: (54, .con C54) :: (48, .con C48) :: (102, .con vc) :: (29, .con C29) :: tV
theorem yW : bb Tryz.prog eqs its C7 := .con pr (.con rb (.con wS (.con w9 (.con wk (.con pW (.con wR (nX)))))))
def Ko (x0 x1 x2 x3 x4 x5 x6 : Int) : RT Empty := .obc (.obt (.obc (.obt (.obc (.obt (.obc (.obt (.br (decide (dk (aG x4 x0) (aH x5 x1) (aG x2 x0) (aH x3 x1) <= 0)) (.obc (.obt (.ret (V.bool (decide (dk (aG x4 x0) (aH x5 x1) (aG x4 x0) (aH x5 x1) <= i64.wrap (x6 * x6))))))) (.br (decide (dk (aG x2 x0) (aH x3 x1) (aG x2 x0) (aH x3 x1) <= dk (aG x4 x0) (aH x5 x1) (aG x2 x0) (aH x3 x1))) (.obc (.obt (.obc (.obt (.ret (V.bool (decide (dk (aG x4 x2) (aH x5 x3) (aG x4 x2) (aH x5 x3) <= i64.wrap (x6 * x6))))))))) (.obc (.obt (.obc (.obt (.obc (.obt (.obc (.obt (.ret (V.bool (mH (jf (max (b9 (aG x2 x0) (aH x3 x1) (aG x4 x0) (aH x5 x1)) (i64.wrap (0 - b9 (aG x2 x0) (aH x3 x1) (aG x4 x0) (aH x5 x1)))) (max (b9 (aG x2 x0) (aH x3 x1) (aG x4 x0) (aH x5 x1)) (i64.wrap (0 - b9 (aG x2 x0) (aH x3 x1) (aG x4 x0) (aH x5 x1))))) (iY (max (b9 (aG x2 x0) (aH x3 x1) (aG x4 x0) (aH x5 x1)) (i64.wrap (0 - b9 (aG x2 x0) (aH x3 x1) (aG x4 x0) (aH x5 x1)))) (max (b9 (aG x2 x0) (aH x3 x1) (aG x4 x0) (aH x5 x1)) (i64.wrap (0 - b9 (aG x2 x0) (aH x3 x1) (aG x4 x0) (aH x5 x1))))) (jf (i64.wrap (x6 * x6)) (dk (aG x2 x0) (aH x3 x1) (aG x2 x0) (aH x3 x1))) (iY (i64.wrap (x6 * x6)) (dk (aG x2 x0) (aH x3 x1) (aG x2 x0) (aH x3 x1)))))))))))))))))))))))
theorem Hs (x0 x1 x2 x3 x4 x5 x6 : Int) : Fit noD (be JJ C7 u0 Nc [V.agg [vi x0, vi x1, vi x2, vi x3], V.agg [vi x4, vi x5], vi x6]) (Ko x0 x1 x2 x3 x4 x5 x6) := ⟨by kernel_rfl, by kernel_rfl⟩
def eq (x0 x1 x2 x3 x4 x5 x6 : Int) : Bool := bif decide (dk (aG x4 x0) (aH x5 x1) (aG x2 x0) (aH x3 x1) <= 0) then decide (dk (aG x4 x0) (aH x5 x1) (aG x4 x0) (aH x5 x1) <= i64.wrap (x6 * x6)) else bif decide (dk (aG x2 x0) (aH x3 x1) (aG x2 x0) (aH x3 x1) <= dk (aG x4 x0) (aH x5 x1) (aG x2 x0) (aH x3 x1)) then decide (dk (aG x4 x2) (aH x5 x3) (aG x4 x2) (aH x5 x3) <= i64.wrap (x6 * x6)) else mH (jf (max (b9 (aG x2 x0) (aH x3 x1) (aG x4 x0) (aH x5 x1)) (i64.wrap (0 - b9 (aG x2 x0) (aH x3 x1) (aG x4 x0) (aH x5 x1)))) (max (b9 (aG x2 x0) (aH x3 x1) (aG x4 x0) (aH x5 x1)) (i64.wrap (0 - b9 (aG x2 x0) (aH x3 x1) (aG x4 x0) (aH x5 x1))))) (iY (max (b9 (aG x2 x0) (aH x3 x1) (aG x4 x0) (aH x5 x1)) (i64.wrap (0 - b9 (aG x2 x0) (aH x3 x1) (aG x4 x0) (aH x5 x1)))) (max (b9 (aG x2 x0) (aH x3 x1) (aG x4 x0) (aH x5 x1)) (i64.wrap (0 - b9 (aG x2 x0) (aH x3 x1) (aG x4 x0) (aH x5 x1))))) (jf (i64.wrap (x6 * x6)) (dk (aG x2 x0) (aH x3 x1) (aG x2 x0) (aH x3 x1))) (iY (i64.wrap (x6 * x6)) (dk (aG x2 x0) (aH x3 x1) (aG x2 x0) (aH x3 x1)))
def Bi (x0 x1 x2 x3 x4 x5 x6 : Int) : V := .bool (eq x0 x1 x2 x3 x4 x5 x6)
theorem K7 (x0 x1 x2 x3 x4 x5 x6 : Int) : evR noE (Ko x0 x1 x2 x3 x4 x5 x6) (Bi x0 x1 x2 x3 x4 x5 x6) := ar (ae (ar (ae (ar (ae (ar (ae (aO (fun h0 => ar (ae (ao (by unfold Bi eq; try rw [h0]; rfl)))) (fun h0 => aO (fun h1 => ar (ae (ar (ae (ao (by unfold Bi eq; try rw [h0]; try rw [h1]; rfl)))))) (fun h1 => ar (ae (ar (ae (ar (ae (ar (ae (ao (by unfold Bi eq; try rw [h0]; try rw [h1]; rfl)))))))))))))))))))
def vZ : aX := mkC [.agg tp4, .agg tp2, .int .i64] (fun _ => True) fun
 | [.agg [.int _ x0, .int _ x1, .int _ x2, .int _ x3], .agg [.int _ x4, .int _ x5], .int _ x6] => Bi x0 x1 x2 x3 x4 x5 x6
 | _ => .any
theorem q7 : (vP vZ).Ok Tryz.prog 103 := mkE yW Tryz.func103 (by kernel_rfl) fun ds hp => rf0 (Hs ..) (K7 _ _ _ _ _ _ _)
def FP (x0 x1 x2 x3 x4 x5 x6 : Int) : Bool := bif decide (pT (bG x0 x2) (bH x1 x3) (bG x4 x2) (bH x5 x3) <= 0) then decide (pT (bG x0 x2) (bH x1 x3) (bG x0 x2) (bH x1 x3) <= i64.wrap (x6 * x6)) else bif decide (pT (bG x4 x2) (bH x5 x3) (bG x4 x2) (bH x5 x3) <= pT (bG x0 x2) (bH x1 x3) (bG x4 x2) (bH x5 x3)) then decide (pT (bG x0 x4) (bH x1 x5) (bG x0 x4) (bH x1 x5) <= i64.wrap (x6 * x6)) else !G7 (Dq (tj (jV (bG x4 x2) (bH x5 x3) (bG x0 x2) (bH x1 x3))) (tj (jV (bG x4 x2) (bH x5 x3) (bG x0 x2) (bH x1 x3)))) (Ck (tj (jV (bG x4 x2) (bH x5 x3) (bG x0 x2) (bH x1 x3))) (tj (jV (bG x4 x2) (bH x5 x3) (bG x0 x2) (bH x1 x3)))) (Dq (i64.wrap (x6 * x6)) (pT (bG x4 x2) (bH x5 x3) (bG x4 x2) (bH x5 x3))) (Ck (i64.wrap (x6 * x6)) (pT (bG x4 x2) (bH x5 x3) (bG x4 x2) (bH x5 x3)))
def FV (x0 x1 x2 x3 x4 x5 x6 x7 : Int) : Bool := bif !jV (bG x4 x2) (bH x5 x3) (bG x6 x2) (bH x7 x3) == 0 then bif bif bif decide (0 <= nq (jV (bG x4 x2) (bH x5 x3) (bG x0 x2) (bH x1 x3))) then decide (0 <= nq (jV (bG x6 x4) (bH x7 x5) (bG x0 x4) (bH x1 x5))) else false then decide (0 <= nq (jV (bG x2 x6) (bH x3 x7) (bG x0 x6) (bH x1 x7))) else false then true else bif bif decide (nq (jV (bG x4 x2) (bH x5 x3) (bG x0 x2) (bH x1 x3)) <= 0) then decide (nq (jV (bG x6 x4) (bH x7 x5) (bG x0 x4) (bH x1 x5)) <= 0) else false then decide (nq (jV (bG x2 x6) (bH x3 x7) (bG x0 x6) (bH x1 x7)) <= 0) else false else false
def m77 (b0 : Bool) (x1 x2 x3 x4 : Int) : RT Empty := .obt (.obt (.obc (.obt (.ret (V.agg [vi (bg b0 x1 x3 x4), vi (bh b0 x2 x3 x4)])))))
theorem Ke (b0 : Bool) (x1 x2 x3 x4 : Int) : Fit noD (be JJ C7 u0 s77 [V.agg [V.bool b0, vi x1, vi x2], V.agg [vi x3, vi x4]]) (m77 b0 x1 x2 x3 x4) := ⟨by kernel_rfl, by kernel_rfl⟩
def nM (b0 : Bool) (x1 x3 x4 : Int) : Int := bg b0 x1 x3 x4
def og (b0 : Bool) (x2 x3 x4 : Int) : Int := bh b0 x2 x3 x4
def R77 (b0 : Bool) (x1 x2 x3 x4 : Int) : V := .agg [.int i64 (nM b0 x1 x3 x4), .int i64 (og b0 x2 x3 x4)]
theorem LA (b0 : Bool) (x1 x2 x3 x4 : Int) : evR noE (m77 b0 x1 x2 x3 x4) (R77 b0 x1 x2 x3 x4) := ae (ae (ar (ae (ao (by unfold R77 nM og; rfl)))))
def C77 : aX := mkC [.agg [.bool, .int .i64, .int .i64], .agg tp2] (fun _ => True) fun
 | [.agg [.bool b0, .int _ x1, .int _ x2], .agg [.int _ x3, .int _ x4]] => R77 b0 x1 x2 x3 x4
 | _ => .any
theorem wX : (vP C77).Ok Tryz.prog 77 := mkE yW Tryz.func77 (by kernel_rfl) fun ds hp => rf0 (Ke ..) (LA _ _ _ _ _)
def I1 (x0 : Int) : RT Empty := .obc (.obt (.ret (V.bool (aK x0 (-100000) 100000))))
theorem Gu (x0 : Int) : Fit noD (be JJ C7 u0 Mu [vi x0]) (I1 x0) := ⟨by kernel_rfl, by kernel_rfl⟩
def tO (x0 : Int) : Bool := aK x0 (-100000) 100000
def Gw (x0 : Int) : V := .bool (tO x0)
theorem KR (x0 : Int) : evR noE (I1 x0) (Gw x0) := ar (ae (ao (by unfold Gw tO; rfl)))
def vC : aX := mkC tp1 (fun _ => True) fun
 | [.int _ x0] => Gw x0
 | _ => .any
theorem qU : (vP vC).Ok Tryz.prog 100 := mkE yW Tryz.func100 (by kernel_rfl) fun ds hp => rf0 (Gu ..) (KR _)
def xi : bj := (103, .con vZ) :: (77, .con C77) :: (100, .con vC) :: C7
theorem uI : bb Tryz.prog eqs its xi := .con q7 (.con wX (.con qU (yW)))
def Jk (s0 : ByteArray) (x1 : Int) (n2 : Nat) (f2 : FnV) (x4 : Int) (s5 : ByteArray) (x6 : Int) (n7 : Nat) (f7 : FnV) (x9 : Int) : RT Empty := .ret (V.bool (s0.toList == s5.toList))
theorem HI (s0 : ByteArray) (x1 : Int) (n2 : Nat) (f2 : FnV) (x4 : Int) (s5 : ByteArray) (x6 : Int) (n7 : Nat) (f7 : FnV) (x9 : Int) : Fit noD (be JJ xi u0 M9 [V.agg [V.str s0, vi x1, V.sl n2 (elV tp2 f2), vi x4], V.pd [V.str s5, vi x6, V.sl n7 (elV tp2 f7), vi x9]]) (Jk s0 x1 n2 f2 x4 s5 x6 n7 f7 x9) := ⟨by kernel_rfl, by kernel_rfl⟩
def tZ (s0 : ByteArray) (s5 : ByteArray) : Bool := s0.toList == s5.toList
def FM (s0 : ByteArray) (x1 : Int) (n2 : Nat) (f2 : FnV) (x4 : Int) (s5 : ByteArray) (x6 : Int) (n7 : Nat) (f7 : FnV) (x9 : Int) : V := .bool (tZ s0 s5)
theorem KH (s0 : ByteArray) (x1 : Int) (n2 : Nat) (f2 : FnV) (x4 : Int) (s5 : ByteArray) (x6 : Int) (n7 : Nat) (f7 : FnV) (x9 : Int) : evR noE (Jk s0 x1 n2 f2 x4 s5 x6 n7 f7 x9) (FM s0 x1 n2 f2 x4 s5 x6 n7 f7 x9) := ao (by unfold FM tZ; rfl)
def vV : aX := mkC [.agg tyR, .pd tyR] (fun _ => True) fun
 | [.agg [.str s0, .int _ x1, .sl n2 f2, .int _ x4], .pd [.str s5, .int _ x6, .sl n7 f7, .int _ x9]] => FM s0 x1 n2 f2 x4 s5 x6 n7 f7 x9
 | _ => .any
theorem pV : (vP vV).Ok Tryz.prog 112 := mkE uI Tryz.func112 (by kernel_rfl) fun ds hp => rf0 (HI ..) (KH _ _ _ _ _ _ _ _ _ _)
def Je (x0 x1 x2 x3 : Int) : RT Empty := .obc (.obt (.obi (.obi (.obi (.br (!aK x1 1 1000) (.ob (!aK x1 1 1000) (.ob (!aK x1 1 1000) (.obc (.obt (.obi (.br (!aK x0 0 (i64.wrap (x1 - 1))) (.ob (!aK x0 0 (i64.wrap (x1 - 1))) (.obc (.obt (.obi (.obi (.obi (.br (!aK x3 1 1000) (.ob (!aK x3 1 1000) (.ob (!aK x3 1 1000) (.obc (.obt (.ret (V.bool (aK x2 0 (i64.wrap (x3 - 1))))))))) (.ret (V.kb true))))))))) (.ret (V.kb true)))))))) (.ret (V.kb true)))))))
theorem GI (x0 x1 x2 x3 : Int) : Fit noD (be JJ xi u0 LJ [V.agg [vi x0, vi x1, vi x2, vi x3]]) (Je x0 x1 x2 x3) := ⟨by kernel_rfl, by kernel_rfl⟩
def iq (x0 x1 x2 x3 : Int) : Bool := bif !aK x1 1 1000 then bif !aK x0 0 (i64.wrap (x1 - 1)) then bif !aK x3 1 1000 then aK x2 0 (i64.wrap (x3 - 1)) else true else true else true
def AJ (x0 x1 x2 x3 : Int) : V := .bool (iq x0 x1 x2 x3)
theorem IM (x0 x1 x2 x3 : Int) : evR noE (Je x0 x1 x2 x3) (AJ x0 x1 x2 x3) := ar (ae (af (af (af (aO (fun h0 => al (by first | assumption | (fail)) (al (by first | assumption | (fail)) (ar (ae (af (aO (fun h1 => al (by first | assumption | (fail)) (ar (ae (af (af (af (aO (fun h2 => al (by first | assumption | (fail)) (al (by first | assumption | (fail)) (ar (ae (ao (by unfold AJ iq; try rw [h0]; try rw [h1]; try rw [h2]; rfl)))))) (fun h2 => ao (by unfold AJ iq; try rw [h0]; try rw [h1]; try rw [h2]; rfl))))))))) (fun h1 => ao (by unfold AJ iq; try rw [h0]; try rw [h1]; rfl)))))))) (fun h0 => ao (by unfold AJ iq; try rw [h0]; rfl)))))))
def vN : aX := mkC [.agg tp4] (fun _ => True) fun
 | [.agg [.int _ x0, .int _ x1, .int _ x2, .int _ x3]] => AJ x0 x1 x2 x3
 | _ => .any
theorem qO : (vP vN).Ok Tryz.prog 118 := mkE uI Tryz.func118 (by kernel_rfl) fun ds hp => rf0 (GI ..) (IM _ _ _ _)
def K6 (s0 : ByteArray) (x1 x2 x3 x4 x5 : Int) (s6 : ByteArray) (x7 x8 x9 x10 x11 : Int) : RT Empty := .ret (V.bool (s0.toList == s6.toList))
theorem HJ (s0 : ByteArray) (x1 x2 x3 x4 x5 : Int) (s6 : ByteArray) (x7 x8 x9 x10 x11 : Int) : Fit noD (be JJ xi u0 M7 [V.agg [V.str s0, vi x1, vi x2, vi x3, vi x4, vi x5], V.pd [V.str s6, vi x7, vi x8, vi x9, vi x10, vi x11]]) (K6 s0 x1 x2 x3 x4 x5 s6 x7 x8 x9 x10 x11) := ⟨by kernel_rfl, by kernel_rfl⟩
def tq (s0 : ByteArray) (s6 : ByteArray) : Bool := s0.toList == s6.toList
def Hi (s0 : ByteArray) (x1 x2 x3 x4 x5 : Int) (s6 : ByteArray) (x7 x8 x9 x10 x11 : Int) : V := .bool (tq s0 s6)
theorem Jt (s0 : ByteArray) (x1 x2 x3 x4 x5 : Int) (s6 : ByteArray) (x7 x8 x9 x10 x11 : Int) : evR noE (K6 s0 x1 x2 x3 x4 x5 s6 x7 x8 x9 x10 x11) (Hi s0 x1 x2 x3 x4 x5 s6 x7 x8 x9 x10 x11) := ao (by unfold Hi tq; rfl)
def wj : aX := mkC [.agg tyC, .pd tyC] (fun _ => True) fun
 | [.agg [.str s0, .int _ x1, .int _ x2, .int _ x3, .int _ x4, .int _ x5], .pd [.str s6, .int _ x7, .int _ x8, .int _ x9, .int _ x10, .int _ x11]] => Hi s0 x1 x2 x3 x4 x5 s6 x7 x8 x9 x10 x11
 | _ => .any
theorem pM : (vP wj).Ok Tryz.prog 120 := mkE uI Tryz.func120 (by kernel_rfl) fun ds hp => rf0 (HJ ..) (Jt _ _ _ _ _ _ _ _ _ _ _ _)
def F51 (n0 : Nat) (f0 : FnV) : Bool := iJ n0 fun i => dX (jv0 (f0 i)) (-100000) 100000
inductive uK where
 | L0 (ia0 : Int)
def Hc (n0 : Nat) (f0 : FnV) : uK -> Env × List O × Option Ex
 | .L0 ia0 => ([(8, vi ia0), (7, vi (↑n0 : Int)), (6, V.sl n0 (elV tp1 f0)), (4, vi 0), (0, V.sl n0 (elV tp1 f0)), (1, V.fn 100 [] [])], [], none)
def I6 : uK -> JJ
 | .L0 ia0 => (0, [])
def Fb (n0 : Nat) (f0 : FnV) : T (cr JJ) := be JJ xi u0 Lx [V.sl n0 (elV tp1 f0), V.fn 100 [] []]
def yy (n0 : Nat) (f0 : FnV) (cx : List Cx) : Lp JJ := lpT (atT (Fb n0 f0) [])
def Ld (n0 : Nat) (f0 : FnV) : JJ -> Lp JJ
 | (0, cx) => yy n0 f0 cx
 | (_, cx) => yy n0 f0 cx
def M1 (n0 : Nat) (f0 : FnV) : LD JJ uK := ⟨I6, Ld n0 f0, Hc n0 f0⟩
def Cr (n0 : Nat) (f0 : FnV) : uK -> RT uK
 | .L0 ia0 => .br (decide (ia0 < (↑n0 : Int))) (.ob (decide (0 <= ia0 /\ ia0 < (↑n0 : Int))) (.obc (.obt (.br (tO (jv0 (f0 ia0.toNat))) (.ret (vi ia0)) (.next [] (uK.L0 (i64.wrap (ia0 + 1))) []))))) (.ret (vi (-1)))
def HO (n0 : Nat) (f0 : FnV) : RT uK := .asm (true = true -> n0 <= 9223372036854775807) (.enter [] (uK.L0 (0)) [])
theorem Hv (n0 : Nat) (f0 : FnV) : je xi u0 (M1 n0 f0) (Fb n0 f0) (HO n0 f0) (Cr n0 f0) := ⟨⟨by kernel_rfl, by kernel_rfl⟩, fun s => by cases s <;> exact ⟨by kernel_rfl, by kernel_rfl⟩⟩
def Aq (n0 : Nat) (f0 : FnV) : Int   := idx n0 fun ii => tO (jv0 (f0 ii))
theorem DD (n0 : Nat) (f0 : FnV) : evR (Ev (Cr n0 f0)) (HO n0 f0) (.int .i64 (Aq n0 f0)) := bE fun hn => aF (nE hn fun i => rfl)
theorem Iu (n0 : Nat) (f0 : FnV) : evR (Ev (Cr n0 f0)) (HO n0 f0) (.int .i64 (Aq n0 (elV tp1 f0))) := DD n0 f0
def vJ : aX := mkC [.sl tp1, .fn 100 [] []] (fun _ => True) fun
 | [.sl n0 f0, .fn _ [] []] => .int .i64 (Aq n0 f0)
 | _ => .any
theorem qb : (vP vJ).Ok Tryz.prog 133 := mkE uI Tryz.func133 (by kernel_rfl) fun ds hp => rfs (Hv ..) (Iu _ _)
def tE : bj := (112, .con vV) :: (118, .con vN) :: (120, .con wj) :: (133, .con vJ) :: xi
theorem vm : bb Tryz.prog eqs its tE := .con pV (.con qO (.con pM (.con qb (uI))))
def m99 (n0 : Nat) (f0 : FnV) : RT Empty := .obc (.obt (.ret (V.bool (decide (0 <= Aq n0 (elV tp1 f0))))))
theorem Ku (n0 : Nat) (f0 : FnV) : Fit noD (be JJ tE u0 s99 [V.sl n0 (elV tp1 f0), V.fn 100 [] []]) (m99 n0 f0) := ⟨by kernel_rfl, by kernel_rfl⟩
def vb (n0 : Nat) (f0 : FnV) : Bool := decide (0 <= Aq n0 (elV tp1 f0))
def R99 (n0 : Nat) (f0 : FnV) : V := .bool (vb n0 f0)
theorem LN (n0 : Nat) (f0 : FnV) : evR noE (m99 n0 f0) (R99 n0 f0) := ar (ae (ao (by unfold R99 vb; rfl)))
def C99 : aX := mkC [.sl tp1, .fn 100 [] []] (fun _ => True) fun
 | [.sl n0 f0, .fn _ [] []] => R99 n0 f0
 | _ => .any
theorem xS : (vP C99).Ok Tryz.prog 99 := mkE vm Tryz.func99 (by kernel_rfl) fun ds hp => rf0 (Ku ..) (LN _ _)
inductive vK where
 | L0 (ia0 : Int)
def GO (n0 : Nat) (f0 : FnV) (s2 : ByteArray) (x3 : Int) (n4 : Nat) (f4 : FnV) (x6 : Int) : vK -> Env × List O × Option Ex
 | .L0 ia0 => ([(8, vi ia0), (7, vi (↑n0 : Int)), (6, V.sl n0 (elV tyR f0)), (4, vi 0), (0, V.sl n0 (elV tyR f0)), (1, V.fn 112 [] [V.pd [V.str s2, vi x3, V.sl n4 (elV tp2 f4), vi x6]])], [], none)
def J3 : vK -> JJ
 | .L0 ia0 => (0, [])
def Fy (n0 : Nat) (f0 : FnV) (s2 : ByteArray) (x3 : Int) (n4 : Nat) (f4 : FnV) (x6 : Int) : T (cr JJ) := be JJ tE u0 MD [V.sl n0 (elV tyR f0), V.fn 112 [] [V.pd [V.str s2, vi x3, V.sl n4 (elV tp2 f4), vi x6]]]
def zi (n0 : Nat) (f0 : FnV) (s2 : ByteArray) (x3 : Int) (n4 : Nat) (f4 : FnV) (x6 : Int) (cx : List Cx) : Lp JJ := lpT (atT (Fy n0 f0 s2 x3 n4 f4 x6) [])
def Kp (n0 : Nat) (f0 : FnV) (s2 : ByteArray) (x3 : Int) (n4 : Nat) (f4 : FnV) (x6 : Int) : JJ -> Lp JJ
 | (0, cx) => zi n0 f0 s2 x3 n4 f4 x6 cx
 | (_, cx) => zi n0 f0 s2 x3 n4 f4 x6 cx
def Mr (n0 : Nat) (f0 : FnV) (s2 : ByteArray) (x3 : Int) (n4 : Nat) (f4 : FnV) (x6 : Int) : LD JJ vK := ⟨J3, Kp n0 f0 s2 x3 n4 f4 x6, GO n0 f0 s2 x3 n4 f4 x6⟩
def Bq (n0 : Nat) (f0 : FnV) (s2 : ByteArray) (x3 : Int) (n4 : Nat) (f4 : FnV) (x6 : Int) : vK -> RT vK
 | .L0 ia0 => .br (decide (ia0 < (↑n0 : Int))) (.ob (decide (0 <= ia0 /\ ia0 < (↑n0 : Int))) (.obc (.obt (.br (tZ (sv (hdV (f0 ia0.toNat))) s2) (.ret (vi ia0)) (.next [] (vK.L0 (i64.wrap (ia0 + 1))) []))))) (.ret (vi (-1)))
def Ht (n0 : Nat) (f0 : FnV) (s2 : ByteArray) (x3 : Int) (n4 : Nat) (f4 : FnV) (x6 : Int) : RT vK := .asm (true = true -> n0 <= 9223372036854775807) (.enter [] (vK.L0 (0)) [])
theorem Gv (n0 : Nat) (f0 : FnV) (s2 : ByteArray) (x3 : Int) (n4 : Nat) (f4 : FnV) (x6 : Int) : je tE u0 (Mr n0 f0 s2 x3 n4 f4 x6) (Fy n0 f0 s2 x3 n4 f4 x6) (Ht n0 f0 s2 x3 n4 f4 x6) (Bq n0 f0 s2 x3 n4 f4 x6) := ⟨⟨by kernel_rfl, by kernel_rfl⟩, fun s => by cases s <;> exact ⟨by kernel_rfl, by kernel_rfl⟩⟩
def AT (n0 : Nat) (f0 : FnV) (s2 : ByteArray) : Int   := idx n0 fun ii => tZ (sv (hdV (f0 ii))) s2
theorem EV (n0 : Nat) (f0 : FnV) (s2 : ByteArray) (x3 : Int) (n4 : Nat) (f4 : FnV) (x6 : Int) : evR (Ev (Bq n0 f0 s2 x3 n4 f4 x6)) (Ht n0 f0 s2 x3 n4 f4 x6) (.int .i64 (AT n0 f0 s2)) := bE fun hn => aF (nE hn fun i => rfl)
theorem JT (n0 : Nat) (f0 : FnV) (s2 : ByteArray) (x3 : Int) (n4 : Nat) (f4 : FnV) (x6 : Int) : evR (Ev (Bq n0 f0 s2 x3 n4 f4 x6)) (Ht n0 f0 s2 x3 n4 f4 x6) (.int .i64 (AT n0 (elV tyR f0) s2)) := EV n0 f0 s2 x3 n4 f4 x6
def vl : aX := mkC [.sl tyR, .fn 112 [] [.pd tyR]] (fun _ => True) fun
 | [.sl n0 f0, .fn _ [] [.pd [.str s2, .int _ x3, .sl n4 f4, .int _ x6]]] => .int .i64 (AT n0 f0 s2)
 | _ => .any
theorem oZ : (vP vl).Ok Tryz.prog 129 := mkE vm Tryz.func129 (by kernel_rfl) fun ds hp => rfs (Gv ..) (JT _ _ _ _ _ _ _)
inductive u3 where
 | L0 (ia0 : Int)
def H5 (n0 : Nat) (f0 : FnV) : u3 -> Env × List O × Option Ex
 | .L0 ia0 => ([(8, vi ia0), (7, vi (↑n0 : Int)), (6, V.sl n0 (elV tp4 f0)), (4, vi 0), (0, V.sl n0 (elV tp4 f0)), (1, V.fn 118 [] [])], [], none)
def Jo : u3 -> JJ
 | .L0 ia0 => (0, [])
def Fm (n0 : Nat) (f0 : FnV) : T (cr JJ) := be JJ tE u0 MK [V.sl n0 (elV tp4 f0), V.fn 118 [] []]
def yp (n0 : Nat) (f0 : FnV) (cx : List Cx) : Lp JJ := lpT (atT (Fm n0 f0) [])
def J0 (n0 : Nat) (f0 : FnV) : JJ -> Lp JJ
 | (0, cx) => yp n0 f0 cx
 | (_, cx) => yp n0 f0 cx
def Nw (n0 : Nat) (f0 : FnV) : LD JJ u3 := ⟨Jo, J0 n0 f0, H5 n0 f0⟩
def A5 (n0 : Nat) (f0 : FnV) : u3 -> RT u3
 | .L0 ia0 => .br (decide (ia0 < (↑n0 : Int))) (.ob (decide (0 <= ia0 /\ ia0 < (↑n0 : Int))) (.obc (.obt (.br (iq (jv0 (f0 ia0.toNat)) (jv1 (f0 ia0.toNat)) (jv2 (f0 ia0.toNat)) (jv3 (f0 ia0.toNat))) (.ret (vi ia0)) (.next [] (u3.L0 (i64.wrap (ia0 + 1))) []))))) (.ret (vi (-1)))
def HZ (n0 : Nat) (f0 : FnV) : RT u3 := .asm (true = true -> n0 <= 9223372036854775807) (.enter [] (u3.L0 (0)) [])
theorem Hj (n0 : Nat) (f0 : FnV) : je tE u0 (Nw n0 f0) (Fm n0 f0) (HZ n0 f0) (A5 n0 f0) := ⟨⟨by kernel_rfl, by kernel_rfl⟩, fun s => by cases s <;> exact ⟨by kernel_rfl, by kernel_rfl⟩⟩
def Ak (n0 : Nat) (f0 : FnV) : Int   := idx n0 fun ii => iq (jv0 (f0 ii)) (jv1 (f0 ii)) (jv2 (f0 ii)) (jv3 (f0 ii))
theorem EW (n0 : Nat) (f0 : FnV) : evR (Ev (A5 n0 f0)) (HZ n0 f0) (.int .i64 (Ak n0 f0)) := bE fun hn => aF (nE hn fun i => rfl)
theorem Jp (n0 : Nat) (f0 : FnV) : evR (Ev (A5 n0 f0)) (HZ n0 f0) (.int .i64 (Ak n0 (elV tp4 f0))) := EW n0 f0
def uY : aX := mkC [.sl tp4, .fn 118 [] []] (fun _ => True) fun
 | [.sl n0 f0, .fn _ [] []] => .int .i64 (Ak n0 f0)
 | _ => .any
theorem pg : (vP uY).Ok Tryz.prog 148 := mkE vm Tryz.func148 (by kernel_rfl) fun ds hp => rfs (Hj ..) (Jp _ _)
inductive uv where
 | L0 (ia0 : Int)
def Hk (n0 : Nat) (f0 : FnV) (s2 : ByteArray) (x3 x4 x5 x6 x7 : Int) : uv -> Env × List O × Option Ex
 | .L0 ia0 => ([(8, vi ia0), (7, vi (↑n0 : Int)), (6, V.sl n0 (elV tyC f0)), (4, vi 0), (0, V.sl n0 (elV tyC f0)), (1, V.fn 120 [] [V.pd [V.str s2, vi x3, vi x4, vi x5, vi x6, vi x7]])], [], none)
def Ka : uv -> JJ
 | .L0 ia0 => (0, [])
def E4 (n0 : Nat) (f0 : FnV) (s2 : ByteArray) (x3 x4 x5 x6 x7 : Int) : T (cr JJ) := be JJ tE u0 Lz [V.sl n0 (elV tyC f0), V.fn 120 [] [V.pd [V.str s2, vi x3, vi x4, vi x5, vi x6, vi x7]]]
def xX (n0 : Nat) (f0 : FnV) (s2 : ByteArray) (x3 x4 x5 x6 x7 : Int) (cx : List Cx) : Lp JJ := lpT (atT (E4 n0 f0 s2 x3 x4 x5 x6 x7) [])
def KG (n0 : Nat) (f0 : FnV) (s2 : ByteArray) (x3 x4 x5 x6 x7 : Int) : JJ -> Lp JJ
 | (0, cx) => xX n0 f0 s2 x3 x4 x5 x6 x7 cx
 | (_, cx) => xX n0 f0 s2 x3 x4 x5 x6 x7 cx
def MI (n0 : Nat) (f0 : FnV) (s2 : ByteArray) (x3 x4 x5 x6 x7 : Int) : LD JJ uv := ⟨Ka, KG n0 f0 s2 x3 x4 x5 x6 x7, Hk n0 f0 s2 x3 x4 x5 x6 x7⟩
def Du (n0 : Nat) (f0 : FnV) (s2 : ByteArray) (x3 x4 x5 x6 x7 : Int) : uv -> RT uv
 | .L0 ia0 => .br (decide (ia0 < (↑n0 : Int))) (.ob (decide (0 <= ia0 /\ ia0 < (↑n0 : Int))) (.obc (.obt (.br (tq (sv (hdV (f0 ia0.toNat))) s2) (.ret (vi ia0)) (.next [] (uv.L0 (i64.wrap (ia0 + 1))) []))))) (.ret (vi (-1)))
def Gq (n0 : Nat) (f0 : FnV) (s2 : ByteArray) (x3 x4 x5 x6 x7 : Int) : RT uv := .asm (true = true -> n0 <= 9223372036854775807) (.enter [] (uv.L0 (0)) [])
theorem GS (n0 : Nat) (f0 : FnV) (s2 : ByteArray) (x3 x4 x5 x6 x7 : Int) : je tE u0 (MI n0 f0 s2 x3 x4 x5 x6 x7) (E4 n0 f0 s2 x3 x4 x5 x6 x7) (Gq n0 f0 s2 x3 x4 x5 x6 x7) (Du n0 f0 s2 x3 x4 x5 x6 x7) := ⟨⟨by kernel_rfl, by kernel_rfl⟩, fun s => by cases s <;> exact ⟨by kernel_rfl, by kernel_rfl⟩⟩
def AA (n0 : Nat) (f0 : FnV) (s2 : ByteArray) : Int   := idx n0 fun ii => tq (sv (hdV (f0 ii))) s2
theorem EM (n0 : Nat) (f0 : FnV) (s2 : ByteArray) (x3 x4 x5 x6 x7 : Int) : evR (Ev (Du n0 f0 s2 x3 x4 x5 x6 x7)) (Gq n0 f0 s2 x3 x4 x5 x6 x7) (.int .i64 (AA n0 f0 s2)) := bE fun hn => aF (nE hn fun i => rfl)
theorem Jy (n0 : Nat) (f0 : FnV) (s2 : ByteArray) (x3 x4 x5 x6 x7 : Int) : evR (Ev (Du n0 f0 s2 x3 x4 x5 x6 x7)) (Gq n0 f0 s2 x3 x4 x5 x6 x7) (.int .i64 (AA n0 (elV tyC f0) s2)) := EM n0 f0 s2 x3 x4 x5 x6 x7
def uz : aX := mkC [.sl tyC, .fn 120 [] [.pd tyC]] (fun _ => True) fun
 | [.sl n0 f0, .fn _ [] [.pd [.str s2, .int _ x3, .int _ x4, .int _ x5, .int _ x6, .int _ x7]]] => .int .i64 (AA n0 f0 s2)
 | _ => .any
theorem qh : (vP uz).Ok Tryz.prog 149 := mkE vm Tryz.func149 (by kernel_rfl) fun ds hp => rfs (GS ..) (Jy _ _ _ _ _ _ _ _)
def Aw : bj := (99, .con C99) :: (129, .con vl) :: (148, .con uY) :: (149, .con uz) :: tE
theorem uU : bb Tryz.prog eqs its Aw := .con xS (.con oZ (.con pg (.con qh (vm))))
def m45 (n0 : Nat) (f0 : FnV) : RT Empty := .obc (.obt (.ret (V.bool (vb n0 (elV tp1 f0)))))
theorem IY (n0 : Nat) (f0 : FnV) : Fit noD (be JJ Aw u0 s45 [V.sl n0 (elV tp1 f0)]) (m45 n0 f0) := ⟨by kernel_rfl, by kernel_rfl⟩
def dG (n0 : Nat) (f0 : FnV) : Bool := vb n0 (elV tp1 f0)
def R45 (n0 : Nat) (f0 : FnV) : V := .bool (dG n0 f0)
theorem MN (n0 : Nat) (f0 : FnV) : evR noE (m45 n0 f0) (R45 n0 f0) := ar (ae (ao (by unfold R45 dG; rfl)))
def C45 : aX := mkC [.sl tp1] (fun _ => True) fun
 | [.sl n0 f0] => R45 n0 f0
 | _ => .any
theorem w7 : (vP C45).Ok Tryz.prog 45 := mkE uU Tryz.func45 (by kernel_rfl) fun ds hp => rf0 (IY ..) (MN _ _)
def m90 (n0 : Nat) (f0 : FnV) (s2 : ByteArray) (x3 : Int) (n4 : Nat) (f4 : FnV) (x6 : Int) : RT Empty := .obc (.obt (.ret (V.bool (decide (0 <= AT n0 (elV tyR f0) s2)))))
theorem K9 (n0 : Nat) (f0 : FnV) (s2 : ByteArray) (x3 : Int) (n4 : Nat) (f4 : FnV) (x6 : Int) : Fit noD (be JJ Aw u0 s90 [V.sl n0 (elV tyR f0), V.fn 112 [] [V.pd [V.str s2, vi x3, V.sl n4 (elV tp2 f4), vi x6]]]) (m90 n0 f0 s2 x3 n4 f4 x6) := ⟨by kernel_rfl, by kernel_rfl⟩
def ox (n0 : Nat) (f0 : FnV) (s2 : ByteArray) : Bool := decide (0 <= AT n0 (elV tyR f0) s2)
def R90 (n0 : Nat) (f0 : FnV) (s2 : ByteArray) (x3 : Int) (n4 : Nat) (f4 : FnV) (x6 : Int) : V := .bool (ox n0 f0 s2)
theorem MT (n0 : Nat) (f0 : FnV) (s2 : ByteArray) (x3 : Int) (n4 : Nat) (f4 : FnV) (x6 : Int) : evR noE (m90 n0 f0 s2 x3 n4 f4 x6) (R90 n0 f0 s2 x3 n4 f4 x6) := ar (ae (ao (by unfold R90 ox; rfl)))
def C90 : aX := mkC [.sl tyR, .fn 112 [] [.pd tyR]] (fun _ => True) fun
 | [.sl n0 f0, .fn _ [] [.pd [.str s2, .int _ x3, .sl n4 f4, .int _ x6]]] => R90 n0 f0 s2 x3 n4 f4 x6
 | _ => .any
theorem wQ : (vP C90).Ok Tryz.prog 90 := mkE uU Tryz.func90 (by kernel_rfl) fun ds hp => rf0 (K9 ..) (MT _ _ _ _ _ _ _)
def Jb (n0 : Nat) (f0 : FnV) : RT Empty := .obc (.obt (.ret (V.bool (decide (0 <= Ak n0 (elV tp4 f0))))))
theorem H3 (n0 : Nat) (f0 : FnV) : Fit noD (be JJ Aw u0 Nl [V.sl n0 (elV tp4 f0), V.fn 118 [] []]) (Jb n0 f0) := ⟨by kernel_rfl, by kernel_rfl⟩
def mS (n0 : Nat) (f0 : FnV) : Bool := decide (0 <= Ak n0 (elV tp4 f0))
def Ga (n0 : Nat) (f0 : FnV) : V := .bool (mS n0 f0)
theorem Ir (n0 : Nat) (f0 : FnV) : evR noE (Jb n0 f0) (Ga n0 f0) := ar (ae (ao (by unfold Ga mS; rfl)))
def vF : aX := mkC [.sl tp4, .fn 118 [] []] (fun _ => True) fun
 | [.sl n0 f0, .fn _ [] []] => Ga n0 f0
 | _ => .any
theorem qV : (vP vF).Ok Tryz.prog 119 := mkE uU Tryz.func119 (by kernel_rfl) fun ds hp => rf0 (H3 ..) (Ir _ _)
def Ky (n0 : Nat) (f0 : FnV) (s2 : ByteArray) (x3 x4 x5 x6 x7 : Int) : RT Empty := .obc (.obt (.ret (V.bool (decide (0 <= AA n0 (elV tyC f0) s2)))))
theorem G5 (n0 : Nat) (f0 : FnV) (s2 : ByteArray) (x3 x4 x5 x6 x7 : Int) : Fit noD (be JJ Aw u0 LC [V.sl n0 (elV tyC f0), V.fn 120 [] [V.pd [V.str s2, vi x3, vi x4, vi x5, vi x6, vi x7]]]) (Ky n0 f0 s2 x3 x4 x5 x6 x7) := ⟨by kernel_rfl, by kernel_rfl⟩
def mM (n0 : Nat) (f0 : FnV) (s2 : ByteArray) : Bool := decide (0 <= AA n0 (elV tyC f0) s2)
def F6 (n0 : Nat) (f0 : FnV) (s2 : ByteArray) (x3 x4 x5 x6 x7 : Int) : V := .bool (mM n0 f0 s2)
theorem Lb (n0 : Nat) (f0 : FnV) (s2 : ByteArray) (x3 x4 x5 x6 x7 : Int) : evR noE (Ky n0 f0 s2 x3 x4 x5 x6 x7) (F6 n0 f0 s2 x3 x4 x5 x6 x7) := ar (ae (ao (by unfold F6 mM; rfl)))
def uM : aX := mkC [.sl tyC, .fn 120 [] [.pd tyC]] (fun _ => True) fun
 | [.sl n0 f0, .fn _ [] [.pd [.str s2, .int _ x3, .int _ x4, .int _ x5, .int _ x6, .int _ x7]]] => F6 n0 f0 s2 x3 x4 x5 x6 x7
 | _ => .any
theorem o5 : (vP uM).Ok Tryz.prog 121 := mkE uU Tryz.func121 (by kernel_rfl) fun ds hp => rf0 (G5 ..) (Lb _ _ _ _ _ _ _ _)
def AR : bj := (45, .con C45) :: (90, .con C90) :: (119, .con vF) :: (121, .con uM) :: Aw
theorem uq : bb Tryz.prog eqs its AR := .con w7 (.con wQ (.con qV (.con o5 (uU))))
def H8 (x0 x1 : Int) : RT Empty := .obt (.obt (.obc (.obt (.ret (V.bool (dG 2 (elV tp1 (bn [vi x0, vi x1] 0 1))))))))
theorem Gg (x0 x1 : Int) : Fit noD (be JJ AR u0 Mc [V.agg [vi x0, vi x1]]) (H8 x0 x1) := ⟨by kernel_rfl, by kernel_rfl⟩
def ny (x0 x1 : Int) : Bool := dG 2 (elV tp1 (bn [vi x0, vi x1] 0 1))
def Gk (x0 x1 : Int) : V := .bool (ny x0 x1)
theorem IG (x0 x1 : Int) : evR noE (H8 x0 x1) (Gk x0 x1) := ae (ae (ar (ae (ao (by unfold Gk ny; rfl)))))
def uH : aX := mkC [.agg tp2] (fun _ => True) fun
 | [.agg [.int _ x0, .int _ x1]] => Gk x0 x1
 | _ => .any
theorem qd : (vP uH).Ok Tryz.prog 113 := mkE uq Tryz.func113 (by kernel_rfl) fun ds hp => rf0 (Gg ..) (IG _ _)
def m65 (n0 : Nat) (f0 : FnV) (x2 x3 x4 x5 x6 : Int) : RT Empty := .obc (.obt (.obi (.br (!dG 2 (elV tp1 (bn [vi x2, vi x3] 0 1))) (.ob (!dG 2 (elV tp1 (bn [vi x2, vi x3] 0 1))) (.obc (.obt (.obi (.obi (.obi (.br (!aK x4 1 20000) (.ob (!aK x4 1 20000) (.ob (!aK x4 1 20000) (.obc (.obt (.obi (.br (!aK x5 0 (i64.wrap (x6 - 1))) (.ob (!aK x5 0 (i64.wrap (x6 - 1))) (.obc (.obt (.br (aK x6 1 1000) (.ret (vi 7)) (.ret (vi 0)))))) (.ret (vi 7)))))))) (.ret (vi 7))))))))) (.ret (vi 7)))))
theorem I7 (n0 : Nat) (f0 : FnV) (x2 x3 x4 x5 x6 : Int) : Fit noD (be JJ AR u0 s65 [V.sl n0 (elV tyT f0), V.agg [vi x2, vi x3, vi x4, vi x5, vi x6]]) (m65 n0 f0 x2 x3 x4 x5 x6) := ⟨by kernel_rfl, by kernel_rfl⟩
def kl (x2 x3 x4 x5 x6 : Int) : Int := bif !dG 2 (elV tp1 (bn [vi x2, vi x3] 0 1)) then bif !aK x4 1 20000 then bif !aK x5 0 (i64.wrap (x6 - 1)) then bif aK x6 1 1000 then 7 else 0 else 7 else 7 else 7
def R65 (n0 : Nat) (f0 : FnV) (x2 x3 x4 x5 x6 : Int) : V := .int i64 (kl x2 x3 x4 x5 x6)
theorem Mj (n0 : Nat) (f0 : FnV) (x2 x3 x4 x5 x6 : Int) : evR noE (m65 n0 f0 x2 x3 x4 x5 x6) (R65 n0 f0 x2 x3 x4 x5 x6) := ar (ae (af (aO (fun h0 => al (by first | assumption | (fail)) (ar (ae (af (af (af (aO (fun h1 => al (by first | assumption | (fail)) (al (by first | assumption | (fail)) (ar (ae (af (aO (fun h2 => al (by first | assumption | (fail)) (ar (ae (aO (fun h3 => ao (by unfold R65 kl; try rw [h0]; try rw [h1]; try rw [h2]; try rw [h3]; rfl)) (fun h3 => ao (by unfold R65 kl; try rw [h0]; try rw [h1]; try rw [h2]; try rw [h3]; rfl)))))) (fun h2 => ao (by unfold R65 kl; try rw [h0]; try rw [h1]; try rw [h2]; rfl)))))))) (fun h1 => ao (by unfold R65 kl; try rw [h0]; try rw [h1]; rfl))))))))) (fun h0 => ao (by unfold R65 kl; try rw [h0]; rfl)))))
def C65 : aX := mkC [.sl tyT, .agg tyT] (fun _ => True) fun
 | [.sl n0 f0, .agg [.int _ x2, .int _ x3, .int _ x4, .int _ x5, .int _ x6]] => R65 n0 f0 x2 x3 x4 x5 x6
 | _ => .any
theorem xQ : (vP C65).Ok Tryz.prog 65 := mkE uq Tryz.func65 (by kernel_rfl) fun ds hp => rf0 (I7 ..) (Mj _ _ _ _ _ _ _)
def m67 (n0 : Nat) (f0 : FnV) (x2 x3 x4 x5 : Int) (n6 : Nat) (f6 : FnV) : RT Empty := .obt (.obt (.obt (.obt (.obc (.obt (.br (dG 4 (elV tp1 (bn [vi x2, vi x3, vi x4, vi x5] 0 1))) (.ret (vi 7)) (.br (x2 == x4 && (x3 == x5 && true)) (.ret (vi 2)) (.asm (true = true -> n6 <= 9223372036854775807) (.br (decide (6 < (↑n6 : Int))) (.ret (vi 3)) (.obc (.obt (.br (mS n6 (elV tp4 f6)) (.ret (vi 7)) (.ret (vi 0))))))))))))))
theorem JI (n0 : Nat) (f0 : FnV) (x2 x3 x4 x5 : Int) (n6 : Nat) (f6 : FnV) : Fit noD (be JJ AR u0 s67 [V.sl n0 (elV tyF f0), V.agg [vi x2, vi x3, vi x4, vi x5, V.sl n6 (elV tp4 f6)]]) (m67 n0 f0 x2 x3 x4 x5 n6 f6) := ⟨by kernel_rfl, by kernel_rfl⟩
def jT (x2 x3 x4 x5 : Int) (n6 : Nat) (f6 : FnV) : Int := bif dG 4 (elV tp1 (bn [vi x2, vi x3, vi x4, vi x5] 0 1)) then 7 else bif x2 == x4 && (x3 == x5 && true) then 2 else bif decide (6 < (↑n6 : Int)) then 3 else bif mS n6 (elV tp4 f6) then 7 else 0
def R67 (n0 : Nat) (f0 : FnV) (x2 x3 x4 x5 : Int) (n6 : Nat) (f6 : FnV) : V := .int i64 (jT x2 x3 x4 x5 n6 f6)
theorem MS (n0 : Nat) (f0 : FnV) (x2 x3 x4 x5 : Int) (n6 : Nat) (f6 : FnV) : evR noE (m67 n0 f0 x2 x3 x4 x5 n6 f6) (R67 n0 f0 x2 x3 x4 x5 n6 f6) := ae (ae (ae (ae (ar (ae (aO (fun h0 => ao (by unfold R67 jT; try rw [h0]; rfl)) (fun h0 => aO (fun h1 => ao (by unfold R67 jT; try rw [h0]; try rw [h1]; rfl)) (fun h1 => dw (fun a2 => aO (fun h2 => ao (by unfold R67 jT; try rw [h0]; try rw [h1]; try rw [h2]; rfl)) (fun h2 => ar (ae (aO (fun h3 => ao (by unfold R67 jT; try rw [h0]; try rw [h1]; try rw [h2]; try rw [h3]; rfl)) (fun h3 => ao (by unfold R67 jT; try rw [h0]; try rw [h1]; try rw [h2]; try rw [h3]; rfl))))))))))))))
def C67 : aX := mkC [.sl tyF, .agg tyF] (fun _ => True) fun
 | [.sl n0 f0, .agg [.int _ x2, .int _ x3, .int _ x4, .int _ x5, .sl n6 f6]] => R67 n0 f0 x2 x3 x4 x5 n6 f6
 | _ => .any
theorem xv : (vP C67).Ok Tryz.prog 67 := mkE uq Tryz.func67 (by kernel_rfl) fun ds hp => rf0 (JI ..) (MS _ _ _ _ _ _ _ _)
def m53 (x0 x1 x2 x3 : Int) : RT Empty := .obc (.obt (.obi (.obi (.obi (.obi (.obi (.obi (.obi (.obi (.obi (.obi (.ret (V.bool (bif bif dG 4 (elV tp1 (bn [vi x0, vi x1, vi x2, vi x3] 0 1)) then true else decide (x2 < x0) then true else decide (x3 < x1)))))))))))))))
theorem Ki (x0 x1 x2 x3 : Int) : Fit noD (be JJ AR u0 s53 [V.agg [vi x0, vi x1, vi x2, vi x3]]) (m53 x0 x1 x2 x3) := ⟨by kernel_rfl, by kernel_rfl⟩
def kQ (x0 x1 x2 x3 : Int) : Bool := bif bif dG 4 (elV tp1 (bn [vi x0, vi x1, vi x2, vi x3] 0 1)) then true else decide (x2 < x0) then true else decide (x3 < x1)
def R53 (x0 x1 x2 x3 : Int) : V := .bool (kQ x0 x1 x2 x3)
theorem Mw (x0 x1 x2 x3 : Int) : evR noE (m53 x0 x1 x2 x3) (R53 x0 x1 x2 x3) := ar (ae (af (af (af (af (af (af (af (af (af (af (ao (by unfold R53 kQ; rfl)))))))))))))
def C53 : aX := mkC [.agg tp4] (fun _ => True) fun
 | [.agg [.int _ x0, .int _ x1, .int _ x2, .int _ x3]] => R53 x0 x1 x2 x3
 | _ => .any
theorem xB : (vP C53).Ok Tryz.prog 53 := mkE uq Tryz.func53 (by kernel_rfl) fun ds hp => rf0 (Ki ..) (Mw _ _ _ _)
def fh (x0 x1 x2 x3 : Int) : Bool := bif bif F51 4 (elV tp1 (bn [vi x0, vi x1, vi x2, vi x3] 0 1)) then decide (x0 <= x2) else false then decide (x1 <= x3) else false
def El (s0 : ByteArray) (i : Nat) : Bool := bif !bif decide (97 <= ((s0.data.toList.getD i 0).toNat : Int)) then decide (((s0.data.toList.getD i 0).toNat : Int) <= 122) else false then bif (i : Int) == 0 then true else bif !bif decide (48 <= ((s0.data.toList.getD i 0).toNat : Int)) then decide (((s0.data.toList.getD i 0).toNat : Int) <= 57) else false then ((s0.data.toList.getD i 0).toNat : Int) != 45 else false else false
def AN (s0 : ByteArray) : Bool := iJ s0.size (fun i => !El s0 i) && bif decide (0 < (s0.size : Int)) then decide ((s0.size : Int) <= 24) else false
def CW (l : List V) : Bool := bif bif bif bif bif decide (jv0 l < 0) then true else decide (jv1 l <= jv0 l) then true else decide (1000 < jv1 l) then true else decide (jv2 l < 0) then true else decide (jv3 l <= jv2 l) then true else decide (1000 < jv3 l)
def F72 (x0 x1 x2 x3 : Int) (n4 : Nat) (f4 : FnV) : Int := bif !F51 4 (elV tp1 (bn [V.int .i64 x0, V.int .i64 x1, V.int .i64 x2, V.int .i64 x3] 0 ((1 + 1 + 1 + 1 - 0) / 4))) then 7 else bif x0 == x2 && (x1 == x3 && true) then 2 else bif decide (6 < (n4 : Int)) then 3 else bif exB n4 (fun i => CW (f4 i)) then 7 else 0
def xh : bj := (113, .con uH) :: (65, .con C65) :: (67, .con C67) :: (53, .con C53) :: AR
theorem CB : bb Tryz.prog eqs its xh := .con qd (.con xQ (.con xv (.con xB (uq))))
inductive uQ where
 | L0 (ia0 : Int)
def Hg (n0 : Nat) (f0 : FnV) : uQ -> Env × List O × Option Ex
 | .L0 ia0 => ([(8, vi ia0), (7, vi (↑n0 : Int)), (6, V.sl n0 (elV tp2 f0)), (4, vi 0), (0, V.sl n0 (elV tp2 f0)), (1, V.fn 113 [] [])], [], none)
def Jj : uQ -> JJ
 | .L0 ia0 => (0, [])
def FG (n0 : Nat) (f0 : FnV) : T (cr JJ) := be JJ xh u0 Na [V.sl n0 (elV tp2 f0), V.fn 113 [] []]
def zF (n0 : Nat) (f0 : FnV) (cx : List Cx) : Lp JJ := lpT (atT (FG n0 f0) [])
def J4 (n0 : Nat) (f0 : FnV) : JJ -> Lp JJ
 | (0, cx) => zF n0 f0 cx
 | (_, cx) => zF n0 f0 cx
def M0 (n0 : Nat) (f0 : FnV) : LD JJ uQ := ⟨Jj, J4 n0 f0, Hg n0 f0⟩
def BG (n0 : Nat) (f0 : FnV) : uQ -> RT uQ
 | .L0 ia0 => .br (decide (ia0 < (↑n0 : Int))) (.ob (decide (0 <= ia0 /\ ia0 < (↑n0 : Int))) (.obc (.obt (.br (ny (jv0 (f0 ia0.toNat)) (jv1 (f0 ia0.toNat))) (.ret (vi ia0)) (.next [] (uQ.L0 (i64.wrap (ia0 + 1))) []))))) (.ret (vi (-1)))
def GX (n0 : Nat) (f0 : FnV) : RT uQ := .asm (true = true -> n0 <= 9223372036854775807) (.enter [] (uQ.L0 (0)) [])
theorem FK (n0 : Nat) (f0 : FnV) : je xh u0 (M0 n0 f0) (FG n0 f0) (GX n0 f0) (BG n0 f0) := ⟨⟨by kernel_rfl, by kernel_rfl⟩, fun s => by cases s <;> exact ⟨by kernel_rfl, by kernel_rfl⟩⟩
def A2 (n0 : Nat) (f0 : FnV) : Int   := idx n0 fun ii => ny (jv0 (f0 ii)) (jv1 (f0 ii))
theorem EQ (n0 : Nat) (f0 : FnV) : evR (Ev (BG n0 f0)) (GX n0 f0) (.int .i64 (A2 n0 f0)) := bE fun hn => aF (nE hn fun i => rfl)
theorem Kn (n0 : Nat) (f0 : FnV) : evR (Ev (BG n0 f0)) (GX n0 f0) (.int .i64 (A2 n0 (elV tp2 f0))) := EQ n0 f0
def xL : aX := mkC [.sl tp2, .fn 113 [] []] (fun _ => True) fun
 | [.sl n0 f0, .fn _ [] []] => .int .i64 (A2 n0 f0)
 | _ => .any
theorem sF : (vP xL).Ok Tryz.prog 147 := mkE CB Tryz.func147 (by kernel_rfl) fun ds hp => rfs (FK ..) (Kn _ _)
inductive S64 where
 | L0 (ia0 : Int)
def IC (n0 : Nat) (f0 : FnV) : S64 -> Env × List O × Option Ex
 | .L0 ia0 => ([(11, vi ia0), (10, vi (↑n0 : Int)), (9, V.sl n0 (elV tyT f0)), (5, vi 0), (4, vi 0), (0, V.sl n0 (elV tyT f0)), (1, V.fn 65 [] [])], [], none)
def ME : S64 -> JJ
 | .L0 ia0 => (0, [])
def Im (n0 : Nat) (f0 : FnV) : T (cr JJ) := be JJ xh u0 s64 [V.sl n0 (elV tyT f0), V.fn 65 [] []]
def Dp (n0 : Nat) (f0 : FnV) (cx : List Cx) : Lp JJ := lpT (atT (Im n0 f0) [])
def Nr (n0 : Nat) (f0 : FnV) : JJ -> Lp JJ
 | (0, cx) => Dp n0 f0 cx
 | (_, cx) => Dp n0 f0 cx
def D64 (n0 : Nat) (f0 : FnV) : LD JJ S64 := ⟨ME, Nr n0 f0, IC n0 f0⟩
def FW (n0 : Nat) (f0 : FnV) : S64 -> RT S64
 | .L0 ia0 => .br (decide (ia0 < (↑n0 : Int))) (.ob (decide (0 <= ia0 /\ ia0 < (↑n0 : Int))) (.ob (decide (0 <= ia0 /\ ia0 <= (↑n0 : Int))) (.obc (.obt (.br (kl (jv0 (f0 ia0.toNat)) (jv1 (f0 ia0.toNat)) (jv2 (f0 ia0.toNat)) (jv3 (f0 ia0.toNat)) (jv4 (f0 ia0.toNat)) != 0) (.ret (V.tup [vi ia0, vi (kl (jv0 (f0 ia0.toNat)) (jv1 (f0 ia0.toNat)) (jv2 (f0 ia0.toNat)) (jv3 (f0 ia0.toNat)) (jv4 (f0 ia0.toNat)))])) (.next [] (S64.L0 (i64.wrap (ia0 + 1))) [])))))) (.ret (V.tup [vi 0, vi 0]))
def m64 (n0 : Nat) (f0 : FnV) : RT S64 := .asm (true = true -> n0 <= 9223372036854775807) (.enter [] (S64.L0 (0)) [])
theorem JZ (n0 : Nat) (f0 : FnV) : je xh u0 (D64 n0 f0) (Im n0 f0) (m64 n0 f0) (FW n0 f0) := ⟨⟨by kernel_rfl, by kernel_rfl⟩, fun s => by cases s <;> exact ⟨by kernel_rfl, by kernel_rfl⟩⟩
def c64 (n0 : Nat) (f0 : FnV) (ii : Nat) : Int := (kl (jv0 (f0 ii)) (jv1 (f0 ii)) (jv2 (f0 ii)) (jv3 (f0 ii)) (jv4 (f0 ii)))
def sD (n0 : Nat) (f0 : FnV) : Int := eO n0 (c64 n0 f0)
def kM (n0 : Nat) (f0 : FnV) : Int := cN n0 (c64 n0 f0)
theorem HL (n0 : Nat) (f0 : FnV) : evR (Ev (FW n0 f0)) (m64 n0 f0) (.tup [.int .i64 (sD n0 f0), .int .i64 (kM n0 f0)]) := bE fun hn => aF (mb (Q := fun _ => True) (fun _ x => .obc (.obt x)) (fun i x r h hx => ar (ae hx)) (fun _ _ => rfl) hn (fun _ _ => trivial) fun i => rfl)
theorem Lk (n0 : Nat) (f0 : FnV) : evR (Ev (FW n0 f0)) (m64 n0 f0) (.tup [.int .i64 (sD n0 (elV tyT f0)), .int .i64 (kM n0 (elV tyT f0))]) := HL n0 f0
def C64 : aX := mkC [.sl tyT, .fn 65 [] []] (fun _ => True) fun
 | [.sl n0 f0, .fn _ [] []] => .tup [.int .i64 (sD n0 f0), .int .i64 (kM n0 f0)]
 | _ => .any
theorem zK : (vP C64).Ok Tryz.prog 64 := mkE CB Tryz.func64 (by kernel_rfl) fun ds hp => rfs (JZ ..) (Lk _ _)
inductive S66 where
 | L0 (ia0 : Int)
def Iq (n0 : Nat) (f0 : FnV) : S66 -> Env × List O × Option Ex
 | .L0 ia0 => ([(11, vi ia0), (10, vi (↑n0 : Int)), (9, V.sl n0 (elV tyF f0)), (5, vi 0), (4, vi 0), (0, V.sl n0 (elV tyF f0)), (1, V.fn 67 [] [])], [], none)
def MG : S66 -> JJ
 | .L0 ia0 => (0, [])
def KM (n0 : Nat) (f0 : FnV) : T (cr JJ) := be JJ xh u0 s66 [V.sl n0 (elV tyF f0), V.fn 67 [] []]
def B1 (n0 : Nat) (f0 : FnV) (cx : List Cx) : Lp JJ := lpT (atT (KM n0 f0) [])
def Ni (n0 : Nat) (f0 : FnV) : JJ -> Lp JJ
 | (0, cx) => B1 n0 f0 cx
 | (_, cx) => B1 n0 f0 cx
def D66 (n0 : Nat) (f0 : FnV) : LD JJ S66 := ⟨MG, Ni n0 f0, Iq n0 f0⟩
def HU (n0 : Nat) (f0 : FnV) : S66 -> RT S66
 | .L0 ia0 => .br (decide (ia0 < (↑n0 : Int))) (.ob (decide (0 <= ia0 /\ ia0 < (↑n0 : Int))) (.ob (decide (0 <= ia0 /\ ia0 <= (↑n0 : Int))) (.obc (.obt (.br ((jT (jv0 (f0 ia0.toNat)) (jv1 (f0 ia0.toNat)) (jv2 (f0 ia0.toNat)) (jv3 (f0 ia0.toNat)) (bR (hdV (tlV (tlV (tlV (tlV (f0 ia0.toNat))))))) fun i => aq tp4 (atV (hdV (tlV (tlV (tlV (tlV (f0 ia0.toNat)))))) i)) != 0) (.ret (V.tup [vi ia0, vi (jT (jv0 (f0 ia0.toNat)) (jv1 (f0 ia0.toNat)) (jv2 (f0 ia0.toNat)) (jv3 (f0 ia0.toNat)) (bR (hdV (tlV (tlV (tlV (tlV (f0 ia0.toNat))))))) fun i => aq tp4 (atV (hdV (tlV (tlV (tlV (tlV (f0 ia0.toNat)))))) i))])) (.next [] (S66.L0 (i64.wrap (ia0 + 1))) [])))))) (.ret (V.tup [vi 0, vi 0]))
def m66 (n0 : Nat) (f0 : FnV) : RT S66 := .asm (true = true -> n0 <= 9223372036854775807) (.enter [] (S66.L0 (0)) [])
theorem Kl (n0 : Nat) (f0 : FnV) : je xh u0 (D66 n0 f0) (KM n0 f0) (m66 n0 f0) (HU n0 f0) := ⟨⟨by kernel_rfl, by kernel_rfl⟩, fun s => by cases s <;> exact ⟨by kernel_rfl, by kernel_rfl⟩⟩
def c66 (n0 : Nat) (f0 : FnV) (ii : Nat) : Int := (jT (jv0 (f0 ii)) (jv1 (f0 ii)) (jv2 (f0 ii)) (jv3 (f0 ii)) (bR (hdV (tlV (tlV (tlV (tlV (f0 ii))))))) fun i => aq tp4 (atV (hdV (tlV (tlV (tlV (tlV (f0 ii)))))) i))
def sM (n0 : Nat) (f0 : FnV) : Int := eO n0 (c66 n0 f0)
def kV (n0 : Nat) (f0 : FnV) : Int := cN n0 (c66 n0 f0)
theorem Hm (n0 : Nat) (f0 : FnV) : evR (Ev (HU n0 f0)) (m66 n0 f0) (.tup [.int .i64 (sM n0 f0), .int .i64 (kV n0 f0)]) := bE fun hn => aF (mb (Q := fun _ => True) (fun _ x => .obc (.obt x)) (fun i x r h hx => ar (ae hx)) (fun _ _ => rfl) hn (fun _ _ => trivial) fun i => rfl)
theorem MO (n0 : Nat) (f0 : FnV) : evR (Ev (HU n0 f0)) (m66 n0 f0) (.tup [.int .i64 (sM n0 (elV tyF f0)), .int .i64 (kV n0 (elV tyF f0))]) := Hm n0 f0
def C66 : aX := mkC [.sl tyF, .fn 67 [] []] (fun _ => True) fun
 | [.sl n0 f0, .fn _ [] []] => .tup [.int .i64 (sM n0 f0), .int .i64 (kV n0 f0)]
 | _ => .any
theorem Au : (vP C66).Ok Tryz.prog 66 := mkE CB Tryz.func66 (by kernel_rfl) fun ds hp => rfs (Kl ..) (MO _ _)
end Go.Dx
namespace Go.Proofs
open Go.Shelf
def Tryz.lays160_ren : Go.Shelf.Ren := ⟨fun | 160 => 146 | 232 => 165 | 231 => 164 | 227 => 166 | 234 => 168 | 233 => 167 | 236 => 170 | 235 => 169 | 228 => 185 | 271 => 188 | 151 => 187 | 197 => 186 | 120 => 195 | 152 => 194 | 260 => 193 | 137 => 197 | 119 => 198 | 224 => 199 | 225 => 200 | 217 => 201 | 266 => 202 | n => n, fun | 9 => 9 | 4 => 4 | 3 => 3 | 5 => 5 | 117 => 228 | 116 => 227 | 0 => 0 | 124 => 231 | 21 => 21 | 105 => 245 | 46 => 188 | 119 => 254 | 139 => 257 | 138 => 256 | n => n, fun | 3 => 0 | 4 => 1 | n => n⟩
theorem Tryz.lays160 : Go.Proofs.Lays.n160 Tryz.prog Tryz.lays160_ren := {
 mixed := by kernel_rfl
 f119 := Tryz.func198.trans (congrArg some (by kernel_rfl))
 f120 := Tryz.func195.trans (congrArg some (by kernel_rfl))
 f137 := Tryz.func197.trans (congrArg some (by kernel_rfl))
 f151 := Tryz.func187.trans (congrArg some (by kernel_rfl))
 f152 := Tryz.func194.trans (congrArg some (by kernel_rfl))
 f160 := Tryz.func146.trans (congrArg some (by kernel_rfl))
 f197 := Tryz.func186.trans (congrArg some (by kernel_rfl))
 f217 := Tryz.func201.trans (congrArg some (by kernel_rfl))
 f224 := Tryz.func199.trans (congrArg some (by kernel_rfl))
 f225 := Tryz.func200.trans (congrArg some (by kernel_rfl))
 f227 := Tryz.func166.trans (congrArg some (by kernel_rfl))
 f228 := Tryz.func185.trans (congrArg some (by kernel_rfl))
 f231 := Tryz.func164.trans (congrArg some (by kernel_rfl))
 f232 := Tryz.func165.trans (congrArg some (by kernel_rfl))
 f233 := Tryz.func167.trans (congrArg some (by kernel_rfl))
 f234 := Tryz.func168.trans (congrArg some (by kernel_rfl))
 f235 := Tryz.func169.trans (congrArg some (by kernel_rfl))
 f236 := Tryz.func170.trans (congrArg some (by kernel_rfl))
 f260 := Tryz.func193.trans (congrArg some (by kernel_rfl))
 f266 := Tryz.func202.trans (congrArg some (by kernel_rfl))
 f271 := Tryz.func188.trans (congrArg some (by kernel_rfl))
 t0 := Tryz.underlying0
 a0 := Tryz.isAgg0
 z0 := Tryz.sizeOf0
 v0 := Tryz.zeroValue0
 t3 := Tryz.underlying3
 a3 := Tryz.isAgg3
 z3 := Tryz.sizeOf3
 v3 := Tryz.zeroValue3
 t4 := Tryz.underlying4
 a4 := Tryz.isAgg4
 z4 := Tryz.sizeOf4
 v4 := Tryz.zeroValue4
 t5 := Tryz.underlying5
 a5 := Tryz.isAgg5
 z5 := Tryz.sizeOf5
 v5 := Tryz.zeroValue5
 t9 := Tryz.underlying9
 a9 := Tryz.isAgg9
 z9 := Tryz.sizeOf9
 v9 := Tryz.zeroValue9
 t21 := Tryz.underlying21
 a21 := Tryz.isAgg21
 z21 := Tryz.sizeOf21
 v21 := Tryz.zeroValue21
 t46 := Tryz.underlying188
 a46 := Tryz.isAgg188
 z46 := Tryz.sizeOf188
 v46 := Tryz.zeroValue188
 t105 := Tryz.underlying245
 a105 := Tryz.isAgg245
 z105 := Tryz.sizeOf245
 v105 := Tryz.zeroValue245
 t116 := Tryz.underlying227
 a116 := Tryz.isAgg227
 z116 := Tryz.sizeOf227
 t117 := Tryz.underlying228
 a117 := Tryz.isAgg228
 z117 := Tryz.sizeOf228
 v117 := Tryz.zeroValue228
 t119 := Tryz.underlying254
 a119 := Tryz.isAgg254
 z119 := Tryz.sizeOf254
 t124 := Tryz.underlying231
 a124 := Tryz.isAgg231
 z124 := Tryz.sizeOf231
 v124 := Tryz.zeroValue231
 t138 := Tryz.underlying256
 a138 := Tryz.isAgg256
 z138 := Tryz.sizeOf256
 v138 := Tryz.zeroValue256
 t139 := Tryz.underlying257
 a139 := Tryz.isAgg257
 z139 := Tryz.sizeOf257
 v139 := Tryz.zeroValue257
 g3 := by kernel_rfl
 g4 := by kernel_rfl }
end Go.Proofs
namespace Go.Dx
open Go.IntKind (i64 u64 u8)
open Go.Sx Go.Proofs Go.Shelf Go.RowKit
def DW : ByteArray := ⟨#[97, 98, 99, 100, 101, 102, 103, 104, 105, 106, 107, 108, 109, 110, 111, 112, 113, 114, 115, 116, 117, 118, 119, 120, 121, 122, 48, 49, 50, 51, 52, 53, 54, 55, 56, 57, 45]⟩
def ri (s c : ByteArray) : ByteArray := ⟨(Lib.trimS s.data.toList c.data.toList).toArray⟩
def v7 : aX := mkC [.str, .str] (fun
 | [.str s, .str c] => s.size <= 9223372036854775807 /\ c = DW
 | _ => False) fun
 | [.str s, .str c] => .str (ri s c)
 | _ => .any
theorem xN (s : ByteArray) (w : World) (hs : s.size <= 9223372036854775807) : Calls Tryz.prog 146 #[.string s, .string DW] w fun e w' => e = .returned (.string (ri s DW)) /\ Below w.heap.size w w' :=
 Any.strings_Trim_laid Tryz.lays160 (by kernel_rfl) s DW w hs (by decide) (ascii_of_all (by decide))
theorem aC.below {B : bO} {m : ap} {lh : List ac} {w w' : World} (h : aC B m lh w) (hb : Below w.heap.size w w') : aC B m lh w' := by
 obtain ⟨h1, h2, h3, h4, h5⟩ := hb
 have hsz : B.w0.heap.size <= w'.heap.size := Nat.le_trans h.size h4
 refine ⟨h1.trans h.os, h2.trans h.tape, h3.trans h.output, hsz, fun b hb => (h5 b (Nat.lt_of_lt_of_le hb h.size)).trans (h.old b hb), Nat.le_trans h.fsize h4, fun b hb ho => (h5 b (Nat.lt_of_lt_of_le hb h.fsize)).trans (h.kept b hb ho), fun k cs ty hk => ?_, h.inj, h.dom, h.dead, fun k b hk => Nat.lt_of_lt_of_le (h.rng k b hk) h4⟩
 obtain ⟨b, vs, g1, g2, g3, g4⟩ := h.loc k cs ty hk
 exact ⟨b, vs, g1, g2, (h5 b (h.rng k b g1)).trans g3, g4⟩
theorem sN : (vP v7).Ok Tryz.prog 146 := by
 refine ⟨fun B m lh w args vs K hrel hargs hsp => ?_, fun _ _ _ _ _ hk ⟨ds, d, p, r, h1, h2, h3, h4, h5⟩ => ⟨ds, d, p, r, h1, h2, h3, h4, hk _ _ h5⟩, fun _ _ _ _ ⟨_, _, _, _, _, _, _, _, h⟩ => h⟩
 obtain ⟨ds, d, p, r, h1, h2, ⟨h30, h3⟩, h4, h5⟩ := hsp
 simp only [v7, mkC, Option.some.injEq, Prod.mk.injEq] at h2
 obtain ⟨rfl, rfl, rfl⟩ := h2
 have hty := (jY [.str, .str] ds [] [] rfl h30).1
 simp only [aJ, bw] at hty
 obtain ⟨e1, e2, e3, e4, e5⟩ := hty
 rw [e5] at e3
 rw [e3, e2, e4] at e1
 generalize sv (hdV ds) = s at e1
 generalize sv (hdV (tlV ds)) = c at e1
 subst e1
 simp only [kF, unq] at h3 h4 h5
 obtain ⟨hs, rfl⟩ := h3
 simp only [vrs, vr] at h1
 obtain ⟨_, _, rfl, rfl, _, _, rfl, rfl, rfl⟩ := h1
 simp only [ah, vrel] at hargs
 obtain ⟨_, _, rfl, rfl, _, _, rfl, rfl, rfl⟩ := hargs
 refine ⟨⟨_, Tryz.func146, by kernel_rfl, by kernel_rfl⟩, (xN s w hs).mono fun e w' ⟨he, hb⟩ => ?_⟩
 exact ⟨_, _, m, lh, he, by simp only [toA, vrel], Ext.refl _ _, aC.below hrel hb, h5⟩
theorem zD (s : ByteArray) (h : (!s.toList == (⟨#[]⟩ : ByteArray).toList) = true) : (0 : Int) < (s.size : Int) := by
 have e : (⟨#[]⟩ : ByteArray).toList = [] := by decide +kernel
 by_cases hz : s.size = 0
 ·have : s = ⟨#[]⟩ := by
   cases s with | mk d => 
   have : d = #[] := Array.eq_empty_of_size_eq_zero hz
   rw [this]
  rw [this, e] at h; cases h
 ·omega
end Go.Dx
namespace Go.Dx
open Go.IntKind (i64 u64 u8)
open Go.Sx Go.Proofs
def Eo : bj := [(147, .con xL), (64, .con C64), (66, .con C66), (113, .con uH), (65, .con C65), (67, .con C67), (53, .con C53), (45, .con C45), (90, .con C90), (119, .con vF), (121, .con uM), (99, .con C99), (129, .con vl), (148, .con uY), (149, .con uz), (112, .con vV), (118, .con vN), (120, .con wj), (133, .con vJ), (103, .con vZ), (77, .con C77), (100, .con vC), (134, .con wd), (135, .con v8), (78, .con C78), (54, .con C54), (48, .con C48), (102, .con vc), (29, .con C29), (84, .con C84), (85, .con C85), (127, .con uX), (101, .con uC), (86, .con C86), (162, .con uG), (146, .con v7)]
theorem Bj : bb Tryz.prog eqs its Eo := .con sF (.con zK (.con Au (.con qd (.con xQ (.con xv (.con xB (.con w7 (.con wQ (.con qV (.con o5 (.con xS (.con oZ (.con pg (.con qh (.con pV (.con qO (.con pM (.con qb (.con q7 (.con wX (.con qU (.con pr (.con rb (.con wS (.con w9 (.con wk (.con pW (.con wR (.con wu (.con wD (.con pi (.con rf (.con wo (.con po (.con sN (.nil))))))))))))))))))))))))))))))))))))
def J9 (n0 : Nat) (f0 : FnV) : RT Empty := .obc (.obt (.ret (V.bool (decide (0 <= A2 n0 (elV tp2 f0))))))
theorem GV (n0 : Nat) (f0 : FnV) : Fit noD (be JJ Eo u0 Nt [V.sl n0 (elV tp2 f0), V.fn 113 [] []]) (J9 n0 f0) := ⟨by kernel_rfl, by kernel_rfl⟩
def gy (n0 : Nat) (f0 : FnV) : Bool := decide (0 <= A2 n0 (elV tp2 f0))
def HC (n0 : Nat) (f0 : FnV) : V := .bool (gy n0 f0)
theorem Id (n0 : Nat) (f0 : FnV) : evR noE (J9 n0 f0) (HC n0 f0) := ar (ae (ao (by unfold HC gy; rfl)))
def wv : aX := mkC [.sl tp2, .fn 113 [] []] (fun _ => True) fun
 | [.sl n0 f0, .fn _ [] []] => HC n0 f0
 | _ => .any
theorem sH : (vP wv).Ok Tryz.prog 115 := mkE Bj Tryz.func115 (by kernel_rfl) fun ds hp => rf0 (GV ..) (Id _ _)
def Kf (s0 : ByteArray) : RT Empty := .obp (s0.size <= (9223372036854775807 : Nat) /\ ByteArray.mk (Array.mk [(97 : UInt8), (98 : UInt8), (99 : UInt8), (100 : UInt8), (101 : UInt8), (102 : UInt8), (103 : UInt8), (104 : UInt8), (105 : UInt8), (106 : UInt8), (107 : UInt8), (108 : UInt8), (109 : UInt8), (110 : UInt8), (111 : UInt8), (112 : UInt8), (113 : UInt8), (114 : UInt8), (115 : UInt8), (116 : UInt8), (117 : UInt8), (118 : UInt8), (119 : UInt8), (120 : UInt8), (121 : UInt8), (122 : UInt8), (48 : UInt8), (49 : UInt8), (50 : UInt8), (51 : UInt8), (52 : UInt8), (53 : UInt8), (54 : UInt8), (55 : UInt8), (56 : UInt8), (57 : UInt8), (45 : UInt8)]) = ByteArray.mk (Array.mk [(97 : UInt8), (98 : UInt8), (99 : UInt8), (100 : UInt8), (101 : UInt8), (102 : UInt8), (103 : UInt8), (104 : UInt8), (105 : UInt8), (106 : UInt8), (107 : UInt8), (108 : UInt8), (109 : UInt8), (110 : UInt8), (111 : UInt8), (112 : UInt8), (113 : UInt8), (114 : UInt8), (115 : UInt8), (116 : UInt8), (117 : UInt8), (118 : UInt8), (119 : UInt8), (120 : UInt8), (121 : UInt8), (122 : UInt8), (48 : UInt8), (49 : UInt8), (50 : UInt8), (51 : UInt8), (52 : UInt8), (53 : UInt8), (54 : UInt8), (55 : UInt8), (56 : UInt8), (57 : UInt8), (45 : UInt8)])) (.obt (.obi (.obi (.obi (.obi (.obi (.obi (.obj (bif bif !s0.toList == (ByteArray.mk (Array.mk [])).toList then decide ((↑s0.size : Int) <= 24) else false then (ri s0 (ByteArray.mk (Array.mk [97, 98, 99, 100, 101, 102, 103, 104, 105, 106, 107, 108, 109, 110, 111, 112, 113, 114, 115, 116, 117, 118, 119, 120, 121, 122, 48, 49, 50, 51, 52, 53, 54, 55, 56, 57, 45]))).toList == (ByteArray.mk (Array.mk [])).toList else false) (decide ((0 : Int) <= 0 /\ 0 < (↑s0.size : Int))) (.obi (.obi (.obi (.obj (bif bif bif !s0.toList == (ByteArray.mk (Array.mk [])).toList then decide ((↑s0.size : Int) <= 24) else false then (ri s0 (ByteArray.mk (Array.mk [97, 98, 99, 100, 101, 102, 103, 104, 105, 106, 107, 108, 109, 110, 111, 112, 113, 114, 115, 116, 117, 118, 119, 120, 121, 122, 48, 49, 50, 51, 52, 53, 54, 55, 56, 57, 45]))).toList == (ByteArray.mk (Array.mk [])).toList else false then decide (97 <= (↑(s0.data.1.getD 0 0).toNat : Int)) else false) (decide ((0 : Int) <= 0 /\ 0 < (↑s0.size : Int))) (.obi (.obi (.ret (V.bool (bif bif bif bif !s0.toList == (ByteArray.mk (Array.mk [])).toList then decide ((↑s0.size : Int) <= 24) else false then (ri s0 (ByteArray.mk (Array.mk [97, 98, 99, 100, 101, 102, 103, 104, 105, 106, 107, 108, 109, 110, 111, 112, 113, 114, 115, 116, 117, 118, 119, 120, 121, 122, 48, 49, 50, 51, 52, 53, 54, 55, 56, 57, 45]))).toList == (ByteArray.mk (Array.mk [])).toList else false then decide (97 <= (↑(s0.data.1.getD 0 0).toNat : Int)) else false then decide ((↑(s0.data.1.getD 0 0).toNat : Int) <= 122) else false)))))))))))))))))
theorem HF (s0 : ByteArray) : Fit noD (be JJ Eo u0 LH [V.str s0]) (Kf s0) := ⟨by kernel_rfl, by kernel_rfl⟩
def kc (s0 : ByteArray) : Bool := bif bif bif bif !s0.toList == (ByteArray.mk (Array.mk [])).toList then decide ((↑s0.size : Int) <= 24) else false then (ri s0 (ByteArray.mk (Array.mk [97, 98, 99, 100, 101, 102, 103, 104, 105, 106, 107, 108, 109, 110, 111, 112, 113, 114, 115, 116, 117, 118, 119, 120, 121, 122, 48, 49, 50, 51, 52, 53, 54, 55, 56, 57, 45]))).toList == (ByteArray.mk (Array.mk [])).toList else false then decide (97 <= (↑(s0.data.1.getD 0 0).toNat : Int)) else false then decide ((↑(s0.data.1.getD 0 0).toNat : Int) <= 122) else false
def HY (s0 : ByteArray) : V := .bool (kc s0)
theorem Kq (s0 : ByteArray) (hp : s0.size <= 9223372036854775807) : evR noE (Kf s0) (HY s0) := bN (by first | assumption | (exact ⟨hp, rfl⟩)) (ae (af (af (af (af (af (af (eE (by first | assumption | (intro h; refine dqt ⟨Int.le_refl 0, zD s0 ?_⟩; cases hb : (!s0.toList == (⟨#[]⟩ : ByteArray).toList) with | true => rfl | false => (rw [hb] at h; simp at h))) (af (af (af (eE (by first | assumption | (intro h; refine dqt ⟨Int.le_refl 0, zD s0 ?_⟩; cases hb : (!s0.toList == (⟨#[]⟩ : ByteArray).toList) with | true => rfl | false => (rw [hb] at h; simp at h))) (af (af (ao (by unfold HY kc; rfl))))))))))))))))
def wm : aX := mkC [.str] (fun
 | [.str s0] => s0.size <= 9223372036854775807
 | _ => False) fun
 | [.str s0] => HY s0
 | _ => .any
theorem sO : (vP wm).Ok Tryz.prog 114 := mkE Bj Tryz.func114 (by kernel_rfl) fun ds hp => rf0 (HF ..) (Kq _ hp)
def DU (x y h dx dy : Int) : Int := bif bif bif bif !F51 2 (elV tp1 (bn [V.int .i64 x, V.int .i64 y] 0 ((1 + 1 - 0) / 2))) then true else !dX h 1 200 then true else !dX dx (-1000) 1000 then true else !dX dy (-1000) 1000 then 7 else bif bif dx == 0 then dy == 0 else false then 2 else 0
def F73 (n6 : Nat) (f6 : FnV) (x8 : Int) : Int := bif !AN (sv (hdV (f6 x8.toNat))) then 6 else bif exB x8.toNat (fun k => (sv (hdV (f6 k))).toList == (sv (hdV (f6 x8.toNat))).toList) then 5 else DU (jv1 (f6 x8.toNat)) (jv2 (f6 x8.toNat)) (jv3 (f6 x8.toNat)) (jv4 (f6 x8.toNat)) (jv5 (f6 x8.toNat))
def mw : bj := (117, .inl AD u0) :: (116, .inl AQ u0) :: (115, .con wv) :: (114, .con wm) :: Eo
theorem wq : bb Tryz.prog eqs its mw := .inl Tryz.func117 (by kernel_rfl) (by kernel_rfl) (by kernel_rfl) (.inl Tryz.func116 (by kernel_rfl) (by kernel_rfl) (by kernel_rfl) (.con sH (.con sO (Bj))))
inductive S63 where
 | L0 (ia0 : Int) (fa1 : Nat -> List V)
 | L1 (ib0 : Int) (fb1 : Nat -> List V)
 | L2 (ic0 : Int) (fc1 : Nat -> List V)
 | L3 (id0 : Int) (fd1 : Nat -> List V)
 | L4 (ie0 : Int) (ne1 ne2 : Nat) (ie3 ie4 ie5 : Int) (ne6 : Nat) (ie7 ie8 ie9 ie10 : Int) (fe11 : Nat -> List V)
 | L5 (if0 : Int) (nf1 nf2 : Nat) (if3 if4 if5 : Int) (nf6 : Nat) (if7 if8 if9 if10 : Int) (ff11 : Nat -> List V)
 | L6 (ig0 : Int) (ng1 ng2 : Nat) (ig3 ig4 ig5 : Int) (ng6 : Nat) (ig7 ig8 ig9 ig10 : Int) (fg11 : Nat -> List V)
 | L7 (ih0 : Int) (nh1 nh2 : Nat) (ih3 ih4 ih5 : Int) (nh6 : Nat) (ih7 ih8 ih9 ih10 : Int) (fh11 : Nat -> List V)
def vk (n0 : Nat) (f0 : FnV) (s2 : ByteArray) (x3 : Int) (n4 : Nat) (f4 : FnV) (x6 : Int) : S63 -> Env × List O × Option Ex
 | .L0 ia0 fa1 => ([(3, vi ia0), (8, V.kb false), (7, vi (↑n4 : Int)), (6, V.gs 2 n4), (2, V.ns), (0, V.gs 2 n4)], [O.cells [V.str s2, vi x3, V.sl n4 (elV tp2 f4), vi x6] 54, O.hid, O.gl 2 n4 (elV tp2 fa1) 72], none)
 | .L1 ib0 fb1 => ([(3, vi ib0), (8, V.kb false), (7, vi (↑n4 : Int)), (6, V.gs 2 n4), (2, V.ns), (0, V.gs 2 n4)], [O.cells [V.str s2, vi x3, V.sl n4 (elV tp2 f4), vi x6] 54, O.hid, O.gl 2 n4 (elV tp2 fb1) 72], none)
 | .L2 ic0 fc1 => ([(3, vi ic0), (8, V.kb false), (7, vi (↑n4 : Int)), (6, V.gs 2 n4), (2, V.ns), (0, V.gs 2 n4)], [O.cells [V.str s2, vi x3, V.sl n4 (elV tp2 f4), vi x6] 54, O.hid, O.gl 2 n4 (elV tp2 fc1) 72], none)
 | .L3 id0 fd1 => ([(3, vi id0), (8, V.kb false), (7, vi (↑n4 : Int)), (6, V.gs 2 n4), (2, V.ns), (0, V.gs 2 n4)], [O.cells [V.str s2, vi x3, V.sl n4 (elV tp2 f4), vi x6] 54, O.hid, O.gl 2 n4 (elV tp2 fd1) 72], none)
 | .L4 ie0 ne1 ne2 ie3 ie4 ie5 ne6 ie7 ie8 ie9 ie10 fe11 => ([(5, vi ie0), (4, V.go 2 ne1 ne2), (28, V.go 2 ne1 ne2), (27, vi ie3), (26, V.gs 2 n4), (25, V.kb true), (24, V.agg [vi ie4, vi ie5]), (23, V.pe 2 ne6 0), (22, vi ie7), (21, vi ie3), (20, V.gs 2 n4), (19, V.agg [vi ie8, vi ie9]), (18, V.pe 2 ne1 0), (17, vi ie3), (16, V.gs 2 n4), (13, V.kb true), (12, vi (↑n4 : Int)), (11, V.gs 2 n4), (10, vi ie3), (3, vi ie10), (8, V.kb false), (7, vi (↑n4 : Int)), (6, V.gs 2 n4), (2, V.ns), (0, V.gs 2 n4)], [O.cells [V.str s2, vi x3, V.sl n4 (elV tp2 f4), vi x6] 54, O.hid, O.gl 2 n4 (elV tp2 fe11) 72], none)
 | .L5 if0 nf1 nf2 if3 if4 if5 nf6 if7 if8 if9 if10 ff11 => ([(5, vi if0), (4, V.go 2 nf1 nf2), (28, V.go 2 nf1 nf2), (27, vi if3), (26, V.gs 2 n4), (25, V.kb true), (24, V.agg [vi if4, vi if5]), (23, V.pe 2 nf6 0), (22, vi if7), (21, vi if3), (20, V.gs 2 n4), (19, V.agg [vi if8, vi if9]), (18, V.pe 2 nf1 0), (17, vi if3), (16, V.gs 2 n4), (13, V.kb true), (12, vi (↑n4 : Int)), (11, V.gs 2 n4), (10, vi if3), (3, vi if10), (8, V.kb false), (7, vi (↑n4 : Int)), (6, V.gs 2 n4), (2, V.ns), (0, V.gs 2 n4)], [O.cells [V.str s2, vi x3, V.sl n4 (elV tp2 f4), vi x6] 54, O.hid, O.gl 2 n4 (elV tp2 ff11) 72], none)
 | .L6 ig0 ng1 ng2 ig3 ig4 ig5 ng6 ig7 ig8 ig9 ig10 fg11 => ([(5, vi ig0), (4, V.go 2 ng1 ng2), (28, V.go 2 ng1 ng2), (27, vi ig3), (26, V.gs 2 n4), (25, V.kb true), (24, V.agg [vi ig4, vi ig5]), (23, V.pe 2 ng6 0), (22, vi ig7), (21, vi ig3), (20, V.gs 2 n4), (19, V.agg [vi ig8, vi ig9]), (18, V.pe 2 ng1 0), (17, vi ig3), (16, V.gs 2 n4), (13, V.kb true), (12, vi (↑n4 : Int)), (11, V.gs 2 n4), (10, vi ig3), (3, vi ig10), (8, V.kb false), (7, vi (↑n4 : Int)), (6, V.gs 2 n4), (2, V.ns), (0, V.gs 2 n4)], [O.cells [V.str s2, vi x3, V.sl n4 (elV tp2 f4), vi x6] 54, O.hid, O.gl 2 n4 (elV tp2 fg11) 72], none)
 | .L7 ih0 nh1 nh2 ih3 ih4 ih5 nh6 ih7 ih8 ih9 ih10 fh11 => ([(5, vi ih0), (4, V.go 2 nh1 nh2), (28, V.go 2 nh1 nh2), (27, vi ih3), (26, V.gs 2 n4), (25, V.kb true), (24, V.agg [vi ih4, vi ih5]), (23, V.pe 2 nh6 0), (22, vi ih7), (21, vi ih3), (20, V.gs 2 n4), (19, V.agg [vi ih8, vi ih9]), (18, V.pe 2 nh1 0), (17, vi ih3), (16, V.gs 2 n4), (13, V.kb true), (12, vi (↑n4 : Int)), (11, V.gs 2 n4), (10, vi ih3), (3, vi ih10), (8, V.kb false), (7, vi (↑n4 : Int)), (6, V.gs 2 n4), (2, V.ns), (0, V.gs 2 n4)], [O.cells [V.str s2, vi x3, V.sl n4 (elV tp2 f4), vi x6] 54, O.hid, O.gl 2 n4 (elV tp2 fh11) 72], none)
def Mn : S63 -> JJ
 | .L0 ia0 fa1 => (0, [])
 | .L1 ib0 fb1 => (1, [])
 | .L2 ic0 fc1 => (2, [])
 | .L3 id0 fd1 => (3, [])
 | .L4 ie0 ne1 ne2 ie3 ie4 ie5 ne6 ie7 ie8 ie9 ie10 fe11 => (4, [])
 | .L5 if0 nf1 nf2 if3 if4 if5 nf6 if7 if8 if9 if10 ff11 => (5, [])
 | .L6 ig0 ng1 ng2 ig3 ig4 ig5 ng6 ig7 ig8 ig9 ig10 fg11 => (6, [])
 | .L7 ih0 nh1 nh2 ih3 ih4 ih5 nh6 ih7 ih8 ih9 ih10 fh11 => (7, [])
def C8 (n0 : Nat) (f0 : FnV) (s2 : ByteArray) (x3 : Int) (n4 : Nat) (f4 : FnV) (x6 : Int) : T (cr JJ) := be JJ mw u0 s63 [V.sl n0 (elV tyR f0), V.agg [V.str s2, vi x3, V.sl n4 (elV tp2 f4), vi x6]]
def wH (n0 : Nat) (f0 : FnV) (s2 : ByteArray) (x3 : Int) (n4 : Nat) (f4 : FnV) (x6 : Int) (cx : List Cx) : Lp JJ := lpT (atT (C8 n0 f0 s2 x3 n4 f4 x6) [false, false, false, false, false, true, false, true, true, false, true, false])
def C4 (n0 : Nat) (f0 : FnV) (s2 : ByteArray) (x3 : Int) (n4 : Nat) (f4 : FnV) (x6 : Int) (cx : List Cx) : Lp JJ := lpT (atT (C8 n0 f0 s2 x3 n4 f4 x6) [false, false, false, false, false, true, false, true, true, false, false, false])
def Bm (n0 : Nat) (f0 : FnV) (s2 : ByteArray) (x3 : Int) (n4 : Nat) (f4 : FnV) (x6 : Int) (cx : List Cx) : Lp JJ := lpT (atT (C8 n0 f0 s2 x3 n4 f4 x6) [false, false, false, false, false, true, false, true, false, false, false])
def BZ (n0 : Nat) (f0 : FnV) (s2 : ByteArray) (x3 : Int) (n4 : Nat) (f4 : FnV) (x6 : Int) (cx : List Cx) : Lp JJ := lpT (atT (C8 n0 f0 s2 x3 n4 f4 x6) [false, false, false, false, false, true, false, false, false, false])
def G9 (n0 : Nat) (f0 : FnV) (s2 : ByteArray) (x3 : Int) (n4 : Nat) (f4 : FnV) (x6 : Int) (cx : List Cx) : Lp JJ := lpT (atT (rdP mw u0 (0, []) (wH n0 f0 s2 x3 n4 f4 x6 []) (vk n0 f0 s2 x3 n4 f4 x6 (.L0 (0 : Int) (fun _ => [])))) [true, true])
def G8 (n0 : Nat) (f0 : FnV) (s2 : ByteArray) (x3 : Int) (n4 : Nat) (f4 : FnV) (x6 : Int) (cx : List Cx) : Lp JJ := lpT (atT (rdP mw u0 (1, []) (C4 n0 f0 s2 x3 n4 f4 x6 []) (vk n0 f0 s2 x3 n4 f4 x6 (.L1 (0 : Int) (fun _ => [])))) [true, true])
def GR (n0 : Nat) (f0 : FnV) (s2 : ByteArray) (x3 : Int) (n4 : Nat) (f4 : FnV) (x6 : Int) (cx : List Cx) : Lp JJ := lpT (atT (rdP mw u0 (2, []) (Bm n0 f0 s2 x3 n4 f4 x6 []) (vk n0 f0 s2 x3 n4 f4 x6 (.L2 (0 : Int) (fun _ => [])))) [true, true])
def GD (n0 : Nat) (f0 : FnV) (s2 : ByteArray) (x3 : Int) (n4 : Nat) (f4 : FnV) (x6 : Int) (cx : List Cx) : Lp JJ := lpT (atT (rdP mw u0 (3, []) (BZ n0 f0 s2 x3 n4 f4 x6 []) (vk n0 f0 s2 x3 n4 f4 x6 (.L3 (0 : Int) (fun _ => [])))) [true, true])
def MJ (n0 : Nat) (f0 : FnV) (s2 : ByteArray) (x3 : Int) (n4 : Nat) (f4 : FnV) (x6 : Int) : JJ -> Lp JJ
 | (0, cx) => wH n0 f0 s2 x3 n4 f4 x6 cx
 | (1, cx) => C4 n0 f0 s2 x3 n4 f4 x6 cx
 | (2, cx) => Bm n0 f0 s2 x3 n4 f4 x6 cx
 | (3, cx) => BZ n0 f0 s2 x3 n4 f4 x6 cx
 | (4, cx) => G9 n0 f0 s2 x3 n4 f4 x6 cx
 | (5, cx) => G8 n0 f0 s2 x3 n4 f4 x6 cx
 | (6, cx) => GR n0 f0 s2 x3 n4 f4 x6 cx
 | (7, cx) => GD n0 f0 s2 x3 n4 f4 x6 cx
 | (_, cx) => wH n0 f0 s2 x3 n4 f4 x6 cx
def D63 (n0 : Nat) (f0 : FnV) (s2 : ByteArray) (x3 : Int) (n4 : Nat) (f4 : FnV) (x6 : Int) : LD JJ S63 := ⟨Mn, MJ n0 f0 s2 x3 n4 f4 x6, vk n0 f0 s2 x3 n4 f4 x6⟩
def ls (n0 : Nat) (f0 : FnV) (s2 : ByteArray) (x3 : Int) (n4 : Nat) (f4 : FnV) (x6 : Int) : S63 -> RT S63
 | .L0 ia0 fa1 => .br (decide (ia0 < (↑n4 : Int))) (.ob (decide (0 <= ia0 /\ ia0 < (↑n4 : Int) /\ n4 <= n4)) (.ob (decide (ia0.toNat < n4)) (.ob (decide (0 <= i64.wrap (ia0 - 1) /\ i64.wrap (ia0 - 1) < (↑n4 : Int) /\ n4 <= n4)) (.ob (decide ((i64.wrap (ia0 - 1)).toNat < n4)) (.br (jv0 (fa1 ia0.toNat) == jv0 (fa1 (i64.wrap (ia0 - 1)).toNat) && (jv1 (fa1 ia0.toNat) == jv1 (fa1 (i64.wrap (ia0 - 1)).toNat) && true)) (.ob (decide (0 <= ia0 /\ ia0 <= (↑n4 : Int))) (.enter (iR 0 3 []) (S63.L4 (1) (ia0.toNat) (n4 - ia0.toNat) (ia0) (jv0 (fa1 (i64.wrap (ia0 - 1)).toNat)) (jv1 (fa1 (i64.wrap (ia0 - 1)).toNat)) ((i64.wrap (ia0 - 1)).toNat) (i64.wrap (ia0 - 1)) (jv0 (fa1 ia0.toNat)) (jv1 (fa1 ia0.toNat)) (ia0) (elV tp2 fa1)) [⟨2, tp2, n4, elV tp2 fa1, ak rfl _ _⟩])) (.next (iR 0 3 []) (S63.L0 (i64.wrap (ia0 + 1)) (elV tp2 fa1)) [⟨2, tp2, n4, elV tp2 fa1, ak rfl _ _⟩])))))) (.asm (true = true -> n4 <= 9223372036854775807) (.br (decide ((↑n4 : Int) < (↑n4 : Int))) (.ret (vi 2)) (.obi (.obi (.asm ((x3 == 3) = true -> n4 <= 9223372036854775807) (.obi (.obi (.br (bif x3 == 3 then decide (2 < (↑n4 : Int)) else false) (.ret (vi 2)) (.ret (vi 0))))))))))
 | .L1 ib0 fb1 => .br (decide (ib0 < (↑n4 : Int))) (.ob (decide (0 <= ib0 /\ ib0 < (↑n4 : Int) /\ n4 <= n4)) (.ob (decide (ib0.toNat < n4)) (.ob (decide (0 <= i64.wrap (ib0 - 1) /\ i64.wrap (ib0 - 1) < (↑n4 : Int) /\ n4 <= n4)) (.ob (decide ((i64.wrap (ib0 - 1)).toNat < n4)) (.br (jv0 (fb1 ib0.toNat) == jv0 (fb1 (i64.wrap (ib0 - 1)).toNat) && (jv1 (fb1 ib0.toNat) == jv1 (fb1 (i64.wrap (ib0 - 1)).toNat) && true)) (.ob (decide (0 <= ib0 /\ ib0 <= (↑n4 : Int))) (.enter (iR 0 3 []) (S63.L5 (1) (ib0.toNat) (n4 - ib0.toNat) (ib0) (jv0 (fb1 (i64.wrap (ib0 - 1)).toNat)) (jv1 (fb1 (i64.wrap (ib0 - 1)).toNat)) ((i64.wrap (ib0 - 1)).toNat) (i64.wrap (ib0 - 1)) (jv0 (fb1 ib0.toNat)) (jv1 (fb1 ib0.toNat)) (ib0) (elV tp2 fb1)) [⟨2, tp2, n4, elV tp2 fb1, ak rfl _ _⟩])) (.next (iR 0 3 []) (S63.L1 (i64.wrap (ib0 + 1)) (elV tp2 fb1)) [⟨2, tp2, n4, elV tp2 fb1, ak rfl _ _⟩])))))) (.br (decide ((↑n4 : Int) < (↑n4 : Int))) (.ret (vi 2)) (.obi (.obi (.asm ((x3 == 3) = true -> n4 <= 9223372036854775807) (.obi (.obi (.br (bif x3 == 3 then decide (2 < (↑n4 : Int)) else false) (.ret (vi 2)) (.ret (vi 0)))))))))
 | .L2 ic0 fc1 => .br (decide (ic0 < (↑n4 : Int))) (.ob (decide (0 <= ic0 /\ ic0 < (↑n4 : Int) /\ n4 <= n4)) (.ob (decide (ic0.toNat < n4)) (.ob (decide (0 <= i64.wrap (ic0 - 1) /\ i64.wrap (ic0 - 1) < (↑n4 : Int) /\ n4 <= n4)) (.ob (decide ((i64.wrap (ic0 - 1)).toNat < n4)) (.br (jv0 (fc1 ic0.toNat) == jv0 (fc1 (i64.wrap (ic0 - 1)).toNat) && (jv1 (fc1 ic0.toNat) == jv1 (fc1 (i64.wrap (ic0 - 1)).toNat) && true)) (.ob (decide (0 <= ic0 /\ ic0 <= (↑n4 : Int))) (.enter (iR 0 3 []) (S63.L6 (1) (ic0.toNat) (n4 - ic0.toNat) (ic0) (jv0 (fc1 (i64.wrap (ic0 - 1)).toNat)) (jv1 (fc1 (i64.wrap (ic0 - 1)).toNat)) ((i64.wrap (ic0 - 1)).toNat) (i64.wrap (ic0 - 1)) (jv0 (fc1 ic0.toNat)) (jv1 (fc1 ic0.toNat)) (ic0) (elV tp2 fc1)) [⟨2, tp2, n4, elV tp2 fc1, ak rfl _ _⟩])) (.next (iR 0 3 []) (S63.L2 (i64.wrap (ic0 + 1)) (elV tp2 fc1)) [⟨2, tp2, n4, elV tp2 fc1, ak rfl _ _⟩])))))) (.br (decide ((↑n4 : Int) < (↑n4 : Int))) (.ret (vi 2)) (.obi (.obi (.asm ((x3 == 3) = true -> n4 <= 9223372036854775807) (.obi (.obi (.br (bif x3 == 3 then decide (2 < (↑n4 : Int)) else false) (.ret (vi 2)) (.ret (vi 0)))))))))
 | .L3 id0 fd1 => .br (decide (id0 < (↑n4 : Int))) (.ob (decide (0 <= id0 /\ id0 < (↑n4 : Int) /\ n4 <= n4)) (.ob (decide (id0.toNat < n4)) (.ob (decide (0 <= i64.wrap (id0 - 1) /\ i64.wrap (id0 - 1) < (↑n4 : Int) /\ n4 <= n4)) (.ob (decide ((i64.wrap (id0 - 1)).toNat < n4)) (.br (jv0 (fd1 id0.toNat) == jv0 (fd1 (i64.wrap (id0 - 1)).toNat) && (jv1 (fd1 id0.toNat) == jv1 (fd1 (i64.wrap (id0 - 1)).toNat) && true)) (.ob (decide (0 <= id0 /\ id0 <= (↑n4 : Int))) (.enter (iR 0 3 []) (S63.L7 (1) (id0.toNat) (n4 - id0.toNat) (id0) (jv0 (fd1 (i64.wrap (id0 - 1)).toNat)) (jv1 (fd1 (i64.wrap (id0 - 1)).toNat)) ((i64.wrap (id0 - 1)).toNat) (i64.wrap (id0 - 1)) (jv0 (fd1 id0.toNat)) (jv1 (fd1 id0.toNat)) (id0) (elV tp2 fd1)) [⟨2, tp2, n4, elV tp2 fd1, ak rfl _ _⟩])) (.next (iR 0 3 []) (S63.L3 (i64.wrap (id0 + 1)) (elV tp2 fd1)) [⟨2, tp2, n4, elV tp2 fd1, ak rfl _ _⟩])))))) (.br (decide ((↑n4 : Int) < (↑n4 : Int))) (.ret (vi 2)) (.obi (.obi (.asm ((x3 == 3) = true -> n4 <= 9223372036854775807) (.obi (.obi (.br (bif x3 == 3 then decide (2 < (↑n4 : Int)) else false) (.ret (vi 2)) (.ret (vi 0)))))))))
 | .L4 ie0 ne1 ne2 ie3 ie4 ie5 ne6 ie7 ie8 ie9 ie10 fe11 => .br (decide (ie0 < (↑ne2 : Int))) (.ob (decide (0 <= ie0 /\ ie0 < (↑ne2 : Int) /\ ne1 + ne2 <= n4)) (.ob (decide (ne1 + ie0.toNat < n4)) (.ob (decide (0 <= i64.wrap (ie0 - 1) /\ i64.wrap (ie0 - 1) < (↑ne2 : Int) /\ ne1 + ne2 <= n4)) (.ob (decide (ne1 + (i64.wrap (ie0 - 1)).toNat < n4)) (.br (!(jv0 (fe11 (ne1 + ie0.toNat)) == jv0 (fe11 (ne1 + (i64.wrap (ie0 - 1)).toNat)) && (jv1 (fe11 (ne1 + ie0.toNat)) == jv1 (fe11 (ne1 + (i64.wrap (ie0 - 1)).toNat)) && true))) (.ob (decide (0 <= ie0 /\ ie0 < (↑ne2 : Int) /\ ne1 + ne2 <= n4)) (.ob (decide (ne1 + ie0.toNat < n4)) (.ob (decide (0 <= ie10 /\ ie10 < (↑n4 : Int) /\ n4 <= n4)) (.ob (decide (ie10.toNat < n4)) (.next (iR 0 3 []) (S63.L4 (i64.wrap (ie0 + 1)) (ne1) (ne2) (ie3) (ie4) (ie5) (ne6) (ie7) (ie8) (ie9) (i64.wrap (ie10 + 1)) (fun i' => bif i'.beq ie10.toNat then [vi (jv0 (fe11 (ne1 + ie0.toNat))), vi (jv1 (fe11 (ne1 + ie0.toNat)))] else elV tp2 fe11 i')) [⟨2, tp2, n4, fun i' => bif i'.beq ie10.toNat then [vi (jv0 (fe11 (ne1 + ie0.toNat))), vi (jv1 (fe11 (ne1 + ie0.toNat)))] else elV tp2 fe11 i', gD rfl (ak rfl _ _) rfl⟩]))))) (.next (iR 0 3 []) (S63.L4 (i64.wrap (ie0 + 1)) (ne1) (ne2) (ie3) (ie4) (ie5) (ne6) (ie7) (ie8) (ie9) (ie10) (elV tp2 fe11)) [⟨2, tp2, n4, elV tp2 fe11, ak rfl _ _⟩])))))) (.ob (decide (0 <= ie10 /\ ie10 <= (↑n4 : Int))) (.ob (decide (0 < n4 - ie10.toNat /\ ie10.toNat + (n4 - ie10.toNat) <= n4)) (.ob (decide (0 <= ie10 /\ ie10 <= (↑n4 : Int))) (.asm (true = true -> n4 <= 9223372036854775807) (.br (decide ((↑ie10.toNat : Int) < (↑n4 : Int))) (.ret (vi 2)) (.obi (.obi (.asm ((x3 == 3) = true -> n4 <= 9223372036854775807) (.obi (.obi (.br (bif x3 == 3 then decide (2 < (↑n4 : Int)) else false) (.ret (vi 2)) (.ret (vi 0)))))))))))))
 | .L5 if0 nf1 nf2 if3 if4 if5 nf6 if7 if8 if9 if10 ff11 => .br (decide (if0 < (↑nf2 : Int))) (.ob (decide (0 <= if0 /\ if0 < (↑nf2 : Int) /\ nf1 + nf2 <= n4)) (.ob (decide (nf1 + if0.toNat < n4)) (.ob (decide (0 <= i64.wrap (if0 - 1) /\ i64.wrap (if0 - 1) < (↑nf2 : Int) /\ nf1 + nf2 <= n4)) (.ob (decide (nf1 + (i64.wrap (if0 - 1)).toNat < n4)) (.br (!(jv0 (ff11 (nf1 + if0.toNat)) == jv0 (ff11 (nf1 + (i64.wrap (if0 - 1)).toNat)) && (jv1 (ff11 (nf1 + if0.toNat)) == jv1 (ff11 (nf1 + (i64.wrap (if0 - 1)).toNat)) && true))) (.ob (decide (0 <= if0 /\ if0 < (↑nf2 : Int) /\ nf1 + nf2 <= n4)) (.ob (decide (nf1 + if0.toNat < n4)) (.ob (decide (0 <= if10 /\ if10 < (↑n4 : Int) /\ n4 <= n4)) (.ob (decide (if10.toNat < n4)) (.next (iR 0 3 []) (S63.L5 (i64.wrap (if0 + 1)) (nf1) (nf2) (if3) (if4) (if5) (nf6) (if7) (if8) (if9) (i64.wrap (if10 + 1)) (fun i' => bif i'.beq if10.toNat then [vi (jv0 (ff11 (nf1 + if0.toNat))), vi (jv1 (ff11 (nf1 + if0.toNat)))] else elV tp2 ff11 i')) [⟨2, tp2, n4, fun i' => bif i'.beq if10.toNat then [vi (jv0 (ff11 (nf1 + if0.toNat))), vi (jv1 (ff11 (nf1 + if0.toNat)))] else elV tp2 ff11 i', gD rfl (ak rfl _ _) rfl⟩]))))) (.next (iR 0 3 []) (S63.L5 (i64.wrap (if0 + 1)) (nf1) (nf2) (if3) (if4) (if5) (nf6) (if7) (if8) (if9) (if10) (elV tp2 ff11)) [⟨2, tp2, n4, elV tp2 ff11, ak rfl _ _⟩])))))) (.ob (decide (0 <= if10 /\ if10 <= (↑n4 : Int))) (.ob (decide (0 < n4 - if10.toNat /\ if10.toNat + (n4 - if10.toNat) <= n4)) (.ob (decide (0 <= if10 /\ if10 <= (↑n4 : Int))) (.br (decide ((↑if10.toNat : Int) < (↑n4 : Int))) (.ret (vi 2)) (.obi (.obi (.asm ((x3 == 3) = true -> n4 <= 9223372036854775807) (.obi (.obi (.br (bif x3 == 3 then decide (2 < (↑n4 : Int)) else false) (.ret (vi 2)) (.ret (vi 0))))))))))))
 | .L6 ig0 ng1 ng2 ig3 ig4 ig5 ng6 ig7 ig8 ig9 ig10 fg11 => .br (decide (ig0 < (↑ng2 : Int))) (.ob (decide (0 <= ig0 /\ ig0 < (↑ng2 : Int) /\ ng1 + ng2 <= n4)) (.ob (decide (ng1 + ig0.toNat < n4)) (.ob (decide (0 <= i64.wrap (ig0 - 1) /\ i64.wrap (ig0 - 1) < (↑ng2 : Int) /\ ng1 + ng2 <= n4)) (.ob (decide (ng1 + (i64.wrap (ig0 - 1)).toNat < n4)) (.br (!(jv0 (fg11 (ng1 + ig0.toNat)) == jv0 (fg11 (ng1 + (i64.wrap (ig0 - 1)).toNat)) && (jv1 (fg11 (ng1 + ig0.toNat)) == jv1 (fg11 (ng1 + (i64.wrap (ig0 - 1)).toNat)) && true))) (.ob (decide (0 <= ig0 /\ ig0 < (↑ng2 : Int) /\ ng1 + ng2 <= n4)) (.ob (decide (ng1 + ig0.toNat < n4)) (.ob (decide (0 <= ig10 /\ ig10 < (↑n4 : Int) /\ n4 <= n4)) (.ob (decide (ig10.toNat < n4)) (.next (iR 0 3 []) (S63.L6 (i64.wrap (ig0 + 1)) (ng1) (ng2) (ig3) (ig4) (ig5) (ng6) (ig7) (ig8) (ig9) (i64.wrap (ig10 + 1)) (fun i' => bif i'.beq ig10.toNat then [vi (jv0 (fg11 (ng1 + ig0.toNat))), vi (jv1 (fg11 (ng1 + ig0.toNat)))] else elV tp2 fg11 i')) [⟨2, tp2, n4, fun i' => bif i'.beq ig10.toNat then [vi (jv0 (fg11 (ng1 + ig0.toNat))), vi (jv1 (fg11 (ng1 + ig0.toNat)))] else elV tp2 fg11 i', gD rfl (ak rfl _ _) rfl⟩]))))) (.next (iR 0 3 []) (S63.L6 (i64.wrap (ig0 + 1)) (ng1) (ng2) (ig3) (ig4) (ig5) (ng6) (ig7) (ig8) (ig9) (ig10) (elV tp2 fg11)) [⟨2, tp2, n4, elV tp2 fg11, ak rfl _ _⟩])))))) (.ob (decide (0 <= ig10 /\ ig10 <= (↑n4 : Int))) (.ob (decide (0 < n4 - ig10.toNat /\ ig10.toNat + (n4 - ig10.toNat) <= n4)) (.ob (decide (0 <= ig10 /\ ig10 <= (↑n4 : Int))) (.br (decide ((↑ig10.toNat : Int) < (↑n4 : Int))) (.ret (vi 2)) (.obi (.obi (.asm ((x3 == 3) = true -> n4 <= 9223372036854775807) (.obi (.obi (.br (bif x3 == 3 then decide (2 < (↑n4 : Int)) else false) (.ret (vi 2)) (.ret (vi 0))))))))))))
 | .L7 ih0 nh1 nh2 ih3 ih4 ih5 nh6 ih7 ih8 ih9 ih10 fh11 => .br (decide (ih0 < (↑nh2 : Int))) (.ob (decide (0 <= ih0 /\ ih0 < (↑nh2 : Int) /\ nh1 + nh2 <= n4)) (.ob (decide (nh1 + ih0.toNat < n4)) (.ob (decide (0 <= i64.wrap (ih0 - 1) /\ i64.wrap (ih0 - 1) < (↑nh2 : Int) /\ nh1 + nh2 <= n4)) (.ob (decide (nh1 + (i64.wrap (ih0 - 1)).toNat < n4)) (.br (!(jv0 (fh11 (nh1 + ih0.toNat)) == jv0 (fh11 (nh1 + (i64.wrap (ih0 - 1)).toNat)) && (jv1 (fh11 (nh1 + ih0.toNat)) == jv1 (fh11 (nh1 + (i64.wrap (ih0 - 1)).toNat)) && true))) (.ob (decide (0 <= ih0 /\ ih0 < (↑nh2 : Int) /\ nh1 + nh2 <= n4)) (.ob (decide (nh1 + ih0.toNat < n4)) (.ob (decide (0 <= ih10 /\ ih10 < (↑n4 : Int) /\ n4 <= n4)) (.ob (decide (ih10.toNat < n4)) (.next (iR 0 3 []) (S63.L7 (i64.wrap (ih0 + 1)) (nh1) (nh2) (ih3) (ih4) (ih5) (nh6) (ih7) (ih8) (ih9) (i64.wrap (ih10 + 1)) (fun i' => bif i'.beq ih10.toNat then [vi (jv0 (fh11 (nh1 + ih0.toNat))), vi (jv1 (fh11 (nh1 + ih0.toNat)))] else elV tp2 fh11 i')) [⟨2, tp2, n4, fun i' => bif i'.beq ih10.toNat then [vi (jv0 (fh11 (nh1 + ih0.toNat))), vi (jv1 (fh11 (nh1 + ih0.toNat)))] else elV tp2 fh11 i', gD rfl (ak rfl _ _) rfl⟩]))))) (.next (iR 0 3 []) (S63.L7 (i64.wrap (ih0 + 1)) (nh1) (nh2) (ih3) (ih4) (ih5) (nh6) (ih7) (ih8) (ih9) (ih10) (elV tp2 fh11)) [⟨2, tp2, n4, elV tp2 fh11, ak rfl _ _⟩])))))) (.ob (decide (0 <= ih10 /\ ih10 <= (↑n4 : Int))) (.ob (decide (0 < n4 - ih10.toNat /\ ih10.toNat + (n4 - ih10.toNat) <= n4)) (.ob (decide (0 <= ih10 /\ ih10 <= (↑n4 : Int))) (.br (decide ((↑ih10.toNat : Int) < (↑n4 : Int))) (.ret (vi 2)) (.obi (.obi (.asm ((x3 == 3) = true -> n4 <= 9223372036854775807) (.obi (.obi (.br (bif x3 == 3 then decide (2 < (↑n4 : Int)) else false) (.ret (vi 2)) (.ret (vi 0))))))))))))
def m63 (n0 : Nat) (f0 : FnV) (s2 : ByteArray) (x3 : Int) (n4 : Nat) (f4 : FnV) (x6 : Int) : RT S63 := .obp (s2.size <= (9223372036854775807 : Nat)) (.obt (.br (!kc s2) (.ret (vi 6)) (.obc (.obt (.br (ox n0 (elV tyR f0) s2) (.ret (vi 5)) (.obc (.obt (.br (aK x3 0 3) (.ret (vi 2)) (.asm (true = true -> n4 <= 9223372036854775807) (.br (decide ((↑n4 : Int) < 2)) (.ret (vi 4)) (.asm (true = true -> n4 <= 9223372036854775807) (.br (decide (8 < (↑n4 : Int))) (.ret (vi 3)) (.obc (.obt (.obi (.br (!gy n4 (elV tp2 f4)) (.ob (!gy n4 (elV tp2 f4)) (.obc (.obt (.br (aK x6 100 30000) (.ret (vi 7)) (.und (.und (.und (.asm (n4 = 0) (.und (.brt (.asm (true = true -> n4 <= 9223372036854775807) (.br (decide (0 < (↑n4 : Int))) (.ret (vi 2)) (.obi (.obi (.asm ((x3 == 3) = true -> n4 <= 9223372036854775807) (.obi (.obi (.br (bif x3 == 3 then decide (2 < (↑n4 : Int)) else false) (.ret (vi 2)) (.ret (vi 0))))))))))) (.asm (true = true -> n4 <= 9223372036854775807) (.brt (.br (decide (0 < (↑n4 : Int))) (.ret (vi 2)) (.obi (.obi (.asm ((x3 == 3) = true -> n4 <= 9223372036854775807) (.obi (.obi (.br (bif x3 == 3 then decide (2 < (↑n4 : Int)) else false) (.ret (vi 2)) (.ret (vi 0))))))))))))) (.obv (iJ n4 fun i => okE 2 (elV tp2 f4 i)) (tl rfl _ _) (.ob (decide (n4 * 16 <= 140737488355328) && !Nat.beq 16 0) (.und (.br (decide ((↑n4 : Int) < 2)) (.asm (true = true -> n4 <= 9223372036854775807) (.br (decide ((↑n4 : Int) < (↑n4 : Int))) (.ret (vi 2)) (.obi (.obi (.asm ((x3 == 3) = true -> n4 <= 9223372036854775807) (.obi (.obi (.br (bif x3 == 3 then decide (2 < (↑n4 : Int)) else false) (.ret (vi 2)) (.ret (vi 0)))))))))) (.enter (iR 0 3 []) (S63.L0 (1) (elV tp2 f4)) [⟨2, tp2, n4, elV tp2 f4, ak rfl _ _⟩])) (.asm (true = true -> n4 <= 9223372036854775807) (.br (decide ((↑n4 : Int) < 2)) (.br (decide ((↑n4 : Int) < (↑n4 : Int))) (.ret (vi 2)) (.obi (.obi (.asm ((x3 == 3) = true -> n4 <= 9223372036854775807) (.obi (.obi (.br (bif x3 == 3 then decide (2 < (↑n4 : Int)) else false) (.ret (vi 2)) (.ret (vi 0))))))))) (.enter (iR 0 3 []) (S63.L1 (1) (elV tp2 f4)) [⟨2, tp2, n4, elV tp2 f4, ak rfl _ _⟩]))))))) (.asm (true = true -> n4 <= 9223372036854775807) (.und (.asm (n4 = 0) (.brt (.br (decide (0 < (↑n4 : Int))) (.ret (vi 2)) (.obi (.obi (.asm ((x3 == 3) = true -> n4 <= 9223372036854775807) (.obi (.obi (.br (bif x3 == 3 then decide (2 < (↑n4 : Int)) else false) (.ret (vi 2)) (.ret (vi 0))))))))))) (.obv (iJ n4 fun i => okE 2 (elV tp2 f4 i)) (tl rfl _ _) (.ob (decide (n4 * 16 <= 140737488355328) && !Nat.beq 16 0) (.br (decide ((↑n4 : Int) < 2)) (.br (decide ((↑n4 : Int) < (↑n4 : Int))) (.ret (vi 2)) (.obi (.obi (.asm ((x3 == 3) = true -> n4 <= 9223372036854775807) (.obi (.obi (.br (bif x3 == 3 then decide (2 < (↑n4 : Int)) else false) (.ret (vi 2)) (.ret (vi 0))))))))) (.enter (iR 0 3 []) (S63.L2 (1) (elV tp2 f4)) [⟨2, tp2, n4, elV tp2 f4, ak rfl _ _⟩]))))))) (.asm (true = true -> n4 <= 9223372036854775807) (.und (.asm (n4 = 0) (.brt (.br (decide (0 < (↑n4 : Int))) (.ret (vi 2)) (.obi (.obi (.asm ((x3 == 3) = true -> n4 <= 9223372036854775807) (.obi (.obi (.br (bif x3 == 3 then decide (2 < (↑n4 : Int)) else false) (.ret (vi 2)) (.ret (vi 0))))))))))) (.obv (iJ n4 fun i => okE 2 (elV tp2 f4 i)) (tl rfl _ _) (.ob (decide (n4 * 16 <= 140737488355328) && !Nat.beq 16 0) (.br (decide ((↑n4 : Int) < 2)) (.br (decide ((↑n4 : Int) < (↑n4 : Int))) (.ret (vi 2)) (.obi (.obi (.asm ((x3 == 3) = true -> n4 <= 9223372036854775807) (.obi (.obi (.br (bif x3 == 3 then decide (2 < (↑n4 : Int)) else false) (.ret (vi 2)) (.ret (vi 0))))))))) (.enter (iR 0 3 []) (S63.L3 (1) (elV tp2 f4)) [⟨2, tp2, n4, elV tp2 f4, ak rfl _ _⟩]))))))))))) (.ret (vi 7))))))))))))))))))
theorem J8 (n0 : Nat) (f0 : FnV) (s2 : ByteArray) (x3 : Int) (n4 : Nat) (f4 : FnV) (x6 : Int) : je mw u0 (D63 n0 f0 s2 x3 n4 f4 x6) (C8 n0 f0 s2 x3 n4 f4 x6) (m63 n0 f0 s2 x3 n4 f4 x6) (ls n0 f0 s2 x3 n4 f4 x6) := ⟨⟨by kernel_rfl, by kernel_rfl⟩, fun s => by cases s <;> exact ⟨by kernel_rfl, by kernel_rfl⟩⟩
def eqP (f : Nat -> List V) (i j : Nat) : Bool := jv0 (f i) == jv0 (f j) && (jv1 (f i) == jv1 (f j) && true)
def iN (n : Nat) (f : Nat -> List V) : Bool := exB n fun i => decide (0 < i) && eqP f i (i - 1)
def fq (x3 : Int) (n4 : Nat) : Int := bif bif x3 == 3 then decide (2 < (n4 : Int)) else false then 2 else 0
def F63 (n0 : Nat) (f0 : FnV) (s2 : ByteArray) (x3 : Int) (n4 : Nat) (f4 : FnV) (x6 : Int) : Int := bif !kc s2 then 6 else bif ox n0 f0 s2 then 5 else bif aK x3 0 3 then 2 else bif decide ((n4 : Int) < 2) then 4 else bif decide (8 < (n4 : Int)) then 3 else bif !!gy n4 f4 then 7 else bif aK x6 100 30000 then 7 else bif iN n4 f4 then 2 else fq x3 n4
theorem kE {S : Type} {Nx : S -> V -> Prop} {x3 : Int} {n4 : Nat} {q : Prop} : evR Nx (.obi (.obi (.asm q (.obi (.obi (.br (bif x3 == 3 then decide (2 < (n4 : Int)) else false) (.ret (.int .i64 2)) (.ret (.int .i64 0)))))))) (.int .i64 (fq x3 n4)) := by
 refine af (af (dw fun _ => af (af (aO (fun h => ao ?_) (fun h => ao ?_))))) <;> (unfold fq; rw [h]; rfl)
theorem IF (n0 : Nat) (f0 : FnV) (s2 : ByteArray) (x3 : Int) (n4 : Nat) (f4 : FnV) (x6 : Int) (h8 : n4 <= 8) (k0 : Nat) (hk : 1 <= k0) (hk' : k0 < n4) (t1 t2 t3 : Int) (t4 : Nat) (t5 t6 t7 : Int) : ∀ k2 : Nat, k2 <= n4 - k0 -> 1 <= k2 -> ∀ (k : Nat) (f : Nat -> List V), k + 1 <= k0 + k2 -> Ev (ls n0 f0 s2 x3 n4 f4 x6) (.L4 k2 k0 (n4 - k0) t1 t2 t3 t4 t5 t6 t7 k f) (.int .i64 2) := by
 refine cX fun k2 hk2 ih h1 k f hkk => Ev.of rfl ?_
 have w1 : i64.wrap ((k2 : Int) - 1) = ((k2 - 1 : Nat) : Int) := by rw [av (by omega) (by omega)]; omega
 have w2 : i64.wrap ((k2 : Int) + 1) = ((k2 + 1 : Nat) : Int) := by rw [av (by omega) (by omega)]; omega
 have w3 : i64.wrap ((k : Int) + 1) = ((k + 1 : Nat) : Int) := by rw [av (by omega) (by omega)]; omega
 refine aO (fun h => ?_) (fun h => ?_)
 ·have hlt : k2 < n4 - k0 := by have := of_decide_eq_true h; omega
  refine al (dqt (by omega)) (al (dqt (by omega)) (al (dqt (by rw [w1]; omega)) (al (dqt (by rw [w1]; omega)) (aO (fun _ => ?_) (fun _ => ?_)))))
  ·refine al (dqt (by omega)) (al (dqt (by omega)) (al (dqt (by omega)) (al (dqt (by omega)) (aN ?_))))
   rw [w2, w3]
   exact ih hlt (by omega) (k + 1) _ (by omega)
  ·refine aN ?_
   rw [w2]
   exact ih hlt (by omega) k _ (by omega)
 ·have hge : ¬ k2 < n4 - k0 := by have := of_decide_eq_false h; omega
  refine al (dqt (by omega)) (al (dqt (by omega)) (al (dqt (by omega)) ?_))
  try refine dw fun _ => ?_
  exact cg (dqt (by omega)) (ao rfl)
theorem IE (n0 : Nat) (f0 : FnV) (s2 : ByteArray) (x3 : Int) (n4 : Nat) (f4 : FnV) (x6 : Int) (h8 : n4 <= 8) (h2 : 2 <= n4) : ∀ i : Nat, i <= n4 -> 1 <= i -> (∀ j, j < i -> (decide (0 < j) && eqP f4 j (j - 1)) = false) -> ∀ f : Nat -> List V, (∀ i j, eqP f i j = eqP f4 i j) -> Ev (ls n0 f0 s2 x3 n4 f4 x6) (.L0 i f) (.int .i64 (bif iN n4 f4 then 2 else fq x3 n4)) := by
 refine cX fun i hi ih h1 hj f hf => Ev.of rfl ?_
 have w1 : i64.wrap ((i : Int) - 1) = ((i - 1 : Nat) : Int) := by rw [av (by omega) (by omega)]; omega
 have w2 : i64.wrap ((i : Int) + 1) = ((i + 1 : Nat) : Int) := by rw [av (by omega) (by omega)]; omega
 refine aO (fun h => ?_) (fun h => ?_)
 ·have hlt : i < n4 := by have := of_decide_eq_true h; omega
  refine al (dqt (by omega)) (al (dqt (by omega)) (al (dqt (by rw [w1]; omega)) (al (dqt (by rw [w1]; omega)) (aO (fun hb => ?_) (fun hb => ?_)))))
  ·have hb' : eqP f4 i (i - 1) = true := by
    rw [← hf]; rw [w1] at hb; simpa only [Int.toNat_natCast, eqP] using hb
   rw [show iN n4 f4 = true from bD i hlt (by rw [hb']; simp; omega), cond_true]
   refine al (dqt (by omega)) (aF ?_)
   have := IF n0 f0 s2 x3 n4 f4 x6 h8 i h1 hlt
   simp only [Int.toNat_natCast]
   exact this _ _ _ _ _ _ _ 1 (by omega) (by omega) i _ (by omega)
  ·have hb' : eqP f4 i (i - 1) = false := by
    rw [← hf]; rw [w1] at hb; simpa only [Int.toNat_natCast, eqP] using hb
   refine aN ?_
   rw [w2]
   refine ih hlt (by omega) (fun j h3 => ?_) _ (fun a b => hf a b)
   by_cases e : j = i
   ·subst e; rw [hb', Bool.and_false]
   ·exact hj j (by omega)
 ·have : i = n4 := by have := of_decide_eq_false h; omega
  subst this
  rw [show iN i f4 = false from dV hj, cond_false]
  try refine dw fun _ => ?_
  exact nJ kE
theorem F5 (n0 : Nat) (f0 : FnV) (s2 : ByteArray) (x3 : Int) (n4 : Nat) (f4 : FnV) (x6 : Int) (h8 : n4 <= 8) (h2 : 2 <= n4) (f : Nat -> List V) (hf : ∀ i j, eqP f i j = eqP f4 i j) : Ev (ls n0 f0 s2 x3 n4 f4 x6) (.L0 1 f) (.int .i64 (bif iN n4 f4 then 2 else fq x3 n4)) := IE n0 f0 s2 x3 n4 f4 x6 h8 h2 1 (by omega) (Nat.le_refl _) (fun j hj => by
 have : j = 0 := by omega
 subst this; rfl) f hf
theorem J5 (n0 : Nat) (f0 : FnV) (s2 : ByteArray) (x3 : Int) (n4 : Nat) (f4 : FnV) (x6 : Int) (h8 : n4 <= 8) (k0 : Nat) (hk : 1 <= k0) (hk' : k0 < n4) (t1 t2 t3 : Int) (t4 : Nat) (t5 t6 t7 : Int) : ∀ k2 : Nat, k2 <= n4 - k0 -> 1 <= k2 -> ∀ (k : Nat) (f : Nat -> List V), k + 1 <= k0 + k2 -> Ev (ls n0 f0 s2 x3 n4 f4 x6) (.L5 k2 k0 (n4 - k0) t1 t2 t3 t4 t5 t6 t7 k f) (.int .i64 2) := by
 refine cX fun k2 hk2 ih h1 k f hkk => Ev.of rfl ?_
 have w1 : i64.wrap ((k2 : Int) - 1) = ((k2 - 1 : Nat) : Int) := by rw [av (by omega) (by omega)]; omega
 have w2 : i64.wrap ((k2 : Int) + 1) = ((k2 + 1 : Nat) : Int) := by rw [av (by omega) (by omega)]; omega
 have w3 : i64.wrap ((k : Int) + 1) = ((k + 1 : Nat) : Int) := by rw [av (by omega) (by omega)]; omega
 refine aO (fun h => ?_) (fun h => ?_)
 ·have hlt : k2 < n4 - k0 := by have := of_decide_eq_true h; omega
  refine al (dqt (by omega)) (al (dqt (by omega)) (al (dqt (by rw [w1]; omega)) (al (dqt (by rw [w1]; omega)) (aO (fun _ => ?_) (fun _ => ?_)))))
  ·refine al (dqt (by omega)) (al (dqt (by omega)) (al (dqt (by omega)) (al (dqt (by omega)) (aN ?_))))
   rw [w2, w3]
   exact ih hlt (by omega) (k + 1) _ (by omega)
  ·refine aN ?_
   rw [w2]
   exact ih hlt (by omega) k _ (by omega)
 ·have hge : ¬ k2 < n4 - k0 := by have := of_decide_eq_false h; omega
  refine al (dqt (by omega)) (al (dqt (by omega)) (al (dqt (by omega)) ?_))
  try refine dw fun _ => ?_
  exact cg (dqt (by omega)) (ao rfl)
theorem Ik (n0 : Nat) (f0 : FnV) (s2 : ByteArray) (x3 : Int) (n4 : Nat) (f4 : FnV) (x6 : Int) (h8 : n4 <= 8) (h2 : 2 <= n4) : ∀ i : Nat, i <= n4 -> 1 <= i -> (∀ j, j < i -> (decide (0 < j) && eqP f4 j (j - 1)) = false) -> ∀ f : Nat -> List V, (∀ i j, eqP f i j = eqP f4 i j) -> Ev (ls n0 f0 s2 x3 n4 f4 x6) (.L1 i f) (.int .i64 (bif iN n4 f4 then 2 else fq x3 n4)) := by
 refine cX fun i hi ih h1 hj f hf => Ev.of rfl ?_
 have w1 : i64.wrap ((i : Int) - 1) = ((i - 1 : Nat) : Int) := by rw [av (by omega) (by omega)]; omega
 have w2 : i64.wrap ((i : Int) + 1) = ((i + 1 : Nat) : Int) := by rw [av (by omega) (by omega)]; omega
 refine aO (fun h => ?_) (fun h => ?_)
 ·have hlt : i < n4 := by have := of_decide_eq_true h; omega
  refine al (dqt (by omega)) (al (dqt (by omega)) (al (dqt (by rw [w1]; omega)) (al (dqt (by rw [w1]; omega)) (aO (fun hb => ?_) (fun hb => ?_)))))
  ·have hb' : eqP f4 i (i - 1) = true := by
    rw [← hf]; rw [w1] at hb; simpa only [Int.toNat_natCast, eqP] using hb
   rw [show iN n4 f4 = true from bD i hlt (by rw [hb']; simp; omega), cond_true]
   refine al (dqt (by omega)) (aF ?_)
   have := J5 n0 f0 s2 x3 n4 f4 x6 h8 i h1 hlt
   simp only [Int.toNat_natCast]
   exact this _ _ _ _ _ _ _ 1 (by omega) (by omega) i _ (by omega)
  ·have hb' : eqP f4 i (i - 1) = false := by
    rw [← hf]; rw [w1] at hb; simpa only [Int.toNat_natCast, eqP] using hb
   refine aN ?_
   rw [w2]
   refine ih hlt (by omega) (fun j h3 => ?_) _ (fun a b => hf a b)
   by_cases e : j = i
   ·subst e; rw [hb', Bool.and_false]
   ·exact hj j (by omega)
 ·have : i = n4 := by have := of_decide_eq_false h; omega
  subst this
  rw [show iN i f4 = false from dV hj, cond_false]
  try refine dw fun _ => ?_
  exact nJ kE
theorem H4 (n0 : Nat) (f0 : FnV) (s2 : ByteArray) (x3 : Int) (n4 : Nat) (f4 : FnV) (x6 : Int) (h8 : n4 <= 8) (h2 : 2 <= n4) (f : Nat -> List V) (hf : ∀ i j, eqP f i j = eqP f4 i j) : Ev (ls n0 f0 s2 x3 n4 f4 x6) (.L1 1 f) (.int .i64 (bif iN n4 f4 then 2 else fq x3 n4)) := Ik n0 f0 s2 x3 n4 f4 x6 h8 h2 1 (by omega) (Nat.le_refl _) (fun j hj => by
 have : j = 0 := by omega
 subst this; rfl) f hf
theorem Jw (n0 : Nat) (f0 : FnV) (s2 : ByteArray) (x3 : Int) (n4 : Nat) (f4 : FnV) (x6 : Int) (h8 : n4 <= 8) (k0 : Nat) (hk : 1 <= k0) (hk' : k0 < n4) (t1 t2 t3 : Int) (t4 : Nat) (t5 t6 t7 : Int) : ∀ k2 : Nat, k2 <= n4 - k0 -> 1 <= k2 -> ∀ (k : Nat) (f : Nat -> List V), k + 1 <= k0 + k2 -> Ev (ls n0 f0 s2 x3 n4 f4 x6) (.L6 k2 k0 (n4 - k0) t1 t2 t3 t4 t5 t6 t7 k f) (.int .i64 2) := by
 refine cX fun k2 hk2 ih h1 k f hkk => Ev.of rfl ?_
 have w1 : i64.wrap ((k2 : Int) - 1) = ((k2 - 1 : Nat) : Int) := by rw [av (by omega) (by omega)]; omega
 have w2 : i64.wrap ((k2 : Int) + 1) = ((k2 + 1 : Nat) : Int) := by rw [av (by omega) (by omega)]; omega
 have w3 : i64.wrap ((k : Int) + 1) = ((k + 1 : Nat) : Int) := by rw [av (by omega) (by omega)]; omega
 refine aO (fun h => ?_) (fun h => ?_)
 ·have hlt : k2 < n4 - k0 := by have := of_decide_eq_true h; omega
  refine al (dqt (by omega)) (al (dqt (by omega)) (al (dqt (by rw [w1]; omega)) (al (dqt (by rw [w1]; omega)) (aO (fun _ => ?_) (fun _ => ?_)))))
  ·refine al (dqt (by omega)) (al (dqt (by omega)) (al (dqt (by omega)) (al (dqt (by omega)) (aN ?_))))
   rw [w2, w3]
   exact ih hlt (by omega) (k + 1) _ (by omega)
  ·refine aN ?_
   rw [w2]
   exact ih hlt (by omega) k _ (by omega)
 ·have hge : ¬ k2 < n4 - k0 := by have := of_decide_eq_false h; omega
  refine al (dqt (by omega)) (al (dqt (by omega)) (al (dqt (by omega)) ?_))
  try refine dw fun _ => ?_
  exact cg (dqt (by omega)) (ao rfl)
theorem Iv (n0 : Nat) (f0 : FnV) (s2 : ByteArray) (x3 : Int) (n4 : Nat) (f4 : FnV) (x6 : Int) (h8 : n4 <= 8) (h2 : 2 <= n4) : ∀ i : Nat, i <= n4 -> 1 <= i -> (∀ j, j < i -> (decide (0 < j) && eqP f4 j (j - 1)) = false) -> ∀ f : Nat -> List V, (∀ i j, eqP f i j = eqP f4 i j) -> Ev (ls n0 f0 s2 x3 n4 f4 x6) (.L2 i f) (.int .i64 (bif iN n4 f4 then 2 else fq x3 n4)) := by
 refine cX fun i hi ih h1 hj f hf => Ev.of rfl ?_
 have w1 : i64.wrap ((i : Int) - 1) = ((i - 1 : Nat) : Int) := by rw [av (by omega) (by omega)]; omega
 have w2 : i64.wrap ((i : Int) + 1) = ((i + 1 : Nat) : Int) := by rw [av (by omega) (by omega)]; omega
 refine aO (fun h => ?_) (fun h => ?_)
 ·have hlt : i < n4 := by have := of_decide_eq_true h; omega
  refine al (dqt (by omega)) (al (dqt (by omega)) (al (dqt (by rw [w1]; omega)) (al (dqt (by rw [w1]; omega)) (aO (fun hb => ?_) (fun hb => ?_)))))
  ·have hb' : eqP f4 i (i - 1) = true := by
    rw [← hf]; rw [w1] at hb; simpa only [Int.toNat_natCast, eqP] using hb
   rw [show iN n4 f4 = true from bD i hlt (by rw [hb']; simp; omega), cond_true]
   refine al (dqt (by omega)) (aF ?_)
   have := Jw n0 f0 s2 x3 n4 f4 x6 h8 i h1 hlt
   simp only [Int.toNat_natCast]
   exact this _ _ _ _ _ _ _ 1 (by omega) (by omega) i _ (by omega)
  ·have hb' : eqP f4 i (i - 1) = false := by
    rw [← hf]; rw [w1] at hb; simpa only [Int.toNat_natCast, eqP] using hb
   refine aN ?_
   rw [w2]
   refine ih hlt (by omega) (fun j h3 => ?_) _ (fun a b => hf a b)
   by_cases e : j = i
   ·subst e; rw [hb', Bool.and_false]
   ·exact hj j (by omega)
 ·have : i = n4 := by have := of_decide_eq_false h; omega
  subst this
  rw [show iN i f4 = false from dV hj, cond_false]
  try refine dw fun _ => ?_
  exact nJ kE
theorem F2 (n0 : Nat) (f0 : FnV) (s2 : ByteArray) (x3 : Int) (n4 : Nat) (f4 : FnV) (x6 : Int) (h8 : n4 <= 8) (h2 : 2 <= n4) (f : Nat -> List V) (hf : ∀ i j, eqP f i j = eqP f4 i j) : Ev (ls n0 f0 s2 x3 n4 f4 x6) (.L2 1 f) (.int .i64 (bif iN n4 f4 then 2 else fq x3 n4)) := Iv n0 f0 s2 x3 n4 f4 x6 h8 h2 1 (by omega) (Nat.le_refl _) (fun j hj => by
 have : j = 0 := by omega
 subst this; rfl) f hf
theorem Ks (n0 : Nat) (f0 : FnV) (s2 : ByteArray) (x3 : Int) (n4 : Nat) (f4 : FnV) (x6 : Int) (h8 : n4 <= 8) (k0 : Nat) (hk : 1 <= k0) (hk' : k0 < n4) (t1 t2 t3 : Int) (t4 : Nat) (t5 t6 t7 : Int) : ∀ k2 : Nat, k2 <= n4 - k0 -> 1 <= k2 -> ∀ (k : Nat) (f : Nat -> List V), k + 1 <= k0 + k2 -> Ev (ls n0 f0 s2 x3 n4 f4 x6) (.L7 k2 k0 (n4 - k0) t1 t2 t3 t4 t5 t6 t7 k f) (.int .i64 2) := by
 refine cX fun k2 hk2 ih h1 k f hkk => Ev.of rfl ?_
 have w1 : i64.wrap ((k2 : Int) - 1) = ((k2 - 1 : Nat) : Int) := by rw [av (by omega) (by omega)]; omega
 have w2 : i64.wrap ((k2 : Int) + 1) = ((k2 + 1 : Nat) : Int) := by rw [av (by omega) (by omega)]; omega
 have w3 : i64.wrap ((k : Int) + 1) = ((k + 1 : Nat) : Int) := by rw [av (by omega) (by omega)]; omega
 refine aO (fun h => ?_) (fun h => ?_)
 ·have hlt : k2 < n4 - k0 := by have := of_decide_eq_true h; omega
  refine al (dqt (by omega)) (al (dqt (by omega)) (al (dqt (by rw [w1]; omega)) (al (dqt (by rw [w1]; omega)) (aO (fun _ => ?_) (fun _ => ?_)))))
  ·refine al (dqt (by omega)) (al (dqt (by omega)) (al (dqt (by omega)) (al (dqt (by omega)) (aN ?_))))
   rw [w2, w3]
   exact ih hlt (by omega) (k + 1) _ (by omega)
  ·refine aN ?_
   rw [w2]
   exact ih hlt (by omega) k _ (by omega)
 ·have hge : ¬ k2 < n4 - k0 := by have := of_decide_eq_false h; omega
  refine al (dqt (by omega)) (al (dqt (by omega)) (al (dqt (by omega)) ?_))
  try refine dw fun _ => ?_
  exact cg (dqt (by omega)) (ao rfl)
theorem Iz (n0 : Nat) (f0 : FnV) (s2 : ByteArray) (x3 : Int) (n4 : Nat) (f4 : FnV) (x6 : Int) (h8 : n4 <= 8) (h2 : 2 <= n4) : ∀ i : Nat, i <= n4 -> 1 <= i -> (∀ j, j < i -> (decide (0 < j) && eqP f4 j (j - 1)) = false) -> ∀ f : Nat -> List V, (∀ i j, eqP f i j = eqP f4 i j) -> Ev (ls n0 f0 s2 x3 n4 f4 x6) (.L3 i f) (.int .i64 (bif iN n4 f4 then 2 else fq x3 n4)) := by
 refine cX fun i hi ih h1 hj f hf => Ev.of rfl ?_
 have w1 : i64.wrap ((i : Int) - 1) = ((i - 1 : Nat) : Int) := by rw [av (by omega) (by omega)]; omega
 have w2 : i64.wrap ((i : Int) + 1) = ((i + 1 : Nat) : Int) := by rw [av (by omega) (by omega)]; omega
 refine aO (fun h => ?_) (fun h => ?_)
 ·have hlt : i < n4 := by have := of_decide_eq_true h; omega
  refine al (dqt (by omega)) (al (dqt (by omega)) (al (dqt (by rw [w1]; omega)) (al (dqt (by rw [w1]; omega)) (aO (fun hb => ?_) (fun hb => ?_)))))
  ·have hb' : eqP f4 i (i - 1) = true := by
    rw [← hf]; rw [w1] at hb; simpa only [Int.toNat_natCast, eqP] using hb
   rw [show iN n4 f4 = true from bD i hlt (by rw [hb']; simp; omega), cond_true]
   refine al (dqt (by omega)) (aF ?_)
   have := Ks n0 f0 s2 x3 n4 f4 x6 h8 i h1 hlt
   simp only [Int.toNat_natCast]
   exact this _ _ _ _ _ _ _ 1 (by omega) (by omega) i _ (by omega)
  ·have hb' : eqP f4 i (i - 1) = false := by
    rw [← hf]; rw [w1] at hb; simpa only [Int.toNat_natCast, eqP] using hb
   refine aN ?_
   rw [w2]
   refine ih hlt (by omega) (fun j h3 => ?_) _ (fun a b => hf a b)
   by_cases e : j = i
   ·subst e; rw [hb', Bool.and_false]
   ·exact hj j (by omega)
 ·have : i = n4 := by have := of_decide_eq_false h; omega
  subst this
  rw [show iN i f4 = false from dV hj, cond_false]
  try refine dw fun _ => ?_
  exact nJ kE
theorem GK (n0 : Nat) (f0 : FnV) (s2 : ByteArray) (x3 : Int) (n4 : Nat) (f4 : FnV) (x6 : Int) (h8 : n4 <= 8) (h2 : 2 <= n4) (f : Nat -> List V) (hf : ∀ i j, eqP f i j = eqP f4 i j) : Ev (ls n0 f0 s2 x3 n4 f4 x6) (.L3 1 f) (.int .i64 (bif iN n4 f4 then 2 else fq x3 n4)) := Iz n0 f0 s2 x3 n4 f4 x6 h8 h2 1 (by omega) (Nat.le_refl _) (fun j hj => by
 have : j = 0 := by omega
 subst this; rfl) f hf
theorem HN (n0 : Nat) (f0 : FnV) (s2 : ByteArray) (x3 : Int) (n4 : Nat) (f4 : FnV) (x6 : Int) (hp : s2.size <= 9223372036854775807) : evR (Ev (ls n0 f0 s2 x3 n4 f4 x6)) (m63 n0 f0 s2 x3 n4 f4 x6) (.int .i64 (F63 n0 f0 s2 x3 n4 f4 x6)) := by
 unfold F63
 refine bN hp (ae ?_)
 refine aO (fun h => ao (by rw [h]; rfl)) (fun h => ?_)
 rw [h, cond_false]
 refine ar (ae (aO (fun h => ao (by rw [show ox n0 f0 s2 = true from h]; rfl)) (fun h => ?_)))
 rw [show ox n0 f0 s2 = false from h, cond_false]
 refine ar (ae (aO (fun h => ao (by rw [h]; rfl)) (fun h => ?_)))
 rw [h, cond_false]
 refine bE fun hn => aO (fun h => ao (by rw [h]; rfl)) (fun h2 => ?_)
 rw [h2, cond_false]
 refine bE fun hn => aO (fun h => ao (by rw [h]; rfl)) (fun h8 => ?_)
 rw [h8, cond_false]
 have h2 : 2 <= n4 := by have := of_decide_eq_false h2; omega
 have h8 : n4 <= 8 := by have := of_decide_eq_false h8; omega
 have e2 : decide ((n4 : Int) < 2) = false := dqf (by omega)
 refine ar (ae (af (aO (fun h => ?_) (fun h => ao (by rw [show (!!gy n4 f4) = true from by rw [show (!gy n4 f4) = false from h]; rfl]; rfl)))))
 rw [show (!!gy n4 f4) = false from by rw [show (!gy n4 f4) = true from h]; rfl, cond_false]
 refine al h (ar (ae (aO (fun h => ao (by rw [h]; rfl)) (fun h => ?_))))
 rw [h, cond_false]
 have h16 : (decide (n4 * 16 <= 140737488355328) && !Nat.beq 16 0) = true := by rw [dqt (show n4 * 16 <= 140737488355328 by omega)]; rfl
 have hne : n4 = 0 -> False := by omega
 have hi : ∀ i j, eqP (elV tp2 f4) i j = eqP f4 i j := fun _ _ => rfl
 repeat' (first
  | exact dw (fun h0 => (hne h0).elim)
  | exact aF (F5 _ _ _ _ _ _ _ h8 h2 _ hi)
  | exact aF (H4 _ _ _ _ _ _ _ h8 h2 _ hi)
  | exact aF (F2 _ _ _ _ _ _ _ h8 h2 _ hi)
  | exact aF (GK _ _ _ _ _ _ _ h8 h2 _ hi)
  | refine Iw ?_ ?_
  | refine dw (fun _ => ?_)
  | refine Ju ?_
  | refine al h16 ?_
  | refine cI e2 ?_
  | refine cI rfl ?_
  | refine cg rfl ?_)
theorem M8 (n0 : Nat) (f0 : FnV) (s2 : ByteArray) (x3 : Int) (n4 : Nat) (f4 : FnV) (x6 : Int) (hp : s2.size <= 9223372036854775807) : evR (Ev (ls n0 f0 s2 x3 n4 f4 x6)) (m63 n0 f0 s2 x3 n4 f4 x6) (.int .i64 (F63 n0 (elV tyR f0) s2 x3 n4 (elV tp2 f4) x6)) := HN n0 f0 s2 x3 n4 f4 x6 hp
def C63 : aX := mkC [.sl tyR, .agg tyR] (fun
 | [.sl n0 f0, .agg [.str s2, .int _ x3, .sl n4 f4, .int _ x6]] => s2.size <= 9223372036854775807
 | _ => False) fun
 | [.sl n0 f0, .agg [.str s2, .int _ x3, .sl n4 f4, .int _ x6]] => .int .i64 (F63 n0 f0 s2 x3 n4 f4 x6)
 | _ => .any
theorem zV : (vP C63).Ok Tryz.prog 63 := mkE wq Tryz.func63 (by kernel_rfl) fun ds hp => rfs (J8 ..) (M8 _ _ _ _ _ _ _ hp)
def m69 (n0 : Nat) (f0 : FnV) (s2 : ByteArray) (x3 x4 x5 x6 x7 : Int) : RT Empty := .obp (s2.size <= (9223372036854775807 : Nat)) (.obt (.br (!kc s2) (.ret (vi 6)) (.obc (.obt (.br (mM n0 (elV tyC f0) s2) (.ret (vi 5)) (.obc (.obt (.obi (.br (!dG 2 (elV tp1 (bn [vi x3, vi x4] 0 1))) (.ob (!dG 2 (elV tp1 (bn [vi x3, vi x4] 0 1))) (.obc (.obt (.obi (.br (!aK x5 1 200) (.ob (!aK x5 1 200) (.obc (.obt (.obi (.br (!aK x6 (-1000) 1000) (.ob (!aK x6 (-1000) 1000) (.obc (.obt (.br (aK x7 (-1000) 1000) (.ret (vi 7)) (.obi (.obi (.obi (.br (bif x6 == 0 then x7 == 0 else false) (.ret (vi 2)) (.ret (vi 0)))))))))) (.ret (vi 7))))))) (.ret (vi 7))))))) (.ret (vi 7)))))))))))
theorem Jf (n0 : Nat) (f0 : FnV) (s2 : ByteArray) (x3 x4 x5 x6 x7 : Int) : Fit noD (be JJ mw u0 s69 [V.sl n0 (elV tyC f0), V.agg [V.str s2, vi x3, vi x4, vi x5, vi x6, vi x7]]) (m69 n0 f0 s2 x3 x4 x5 x6 x7) := ⟨by kernel_rfl, by kernel_rfl⟩
def iQ (n0 : Nat) (f0 : FnV) (s2 : ByteArray) (x3 x4 x5 x6 x7 : Int) : Int := bif !kc s2 then 6 else bif mM n0 (elV tyC f0) s2 then 5 else bif !dG 2 (elV tp1 (bn [vi x3, vi x4] 0 1)) then bif !aK x5 1 200 then bif !aK x6 (-1000) 1000 then bif aK x7 (-1000) 1000 then 7 else bif bif x6 == 0 then x7 == 0 else false then 2 else 0 else 7 else 7 else 7
def R69 (n0 : Nat) (f0 : FnV) (s2 : ByteArray) (x3 x4 x5 x6 x7 : Int) : V := .int i64 (iQ n0 f0 s2 x3 x4 x5 x6 x7)
theorem L8 (n0 : Nat) (f0 : FnV) (s2 : ByteArray) (x3 x4 x5 x6 x7 : Int) (hp : s2.size <= 9223372036854775807) : evR noE (m69 n0 f0 s2 x3 x4 x5 x6 x7) (R69 n0 f0 s2 x3 x4 x5 x6 x7) := bN (by first | assumption | (exact hp)) (ae (aO (fun h0 => ao (by unfold R69 iQ; try rw [h0]; rfl)) (fun h0 => ar (ae (aO (fun h1 => ao (by unfold R69 iQ; try rw [h0]; try rw [h1]; rfl)) (fun h1 => ar (ae (af (aO (fun h2 => al (by first | assumption | (fail)) (ar (ae (af (aO (fun h3 => al (by first | assumption | (fail)) (ar (ae (af (aO (fun h4 => al (by first | assumption | (fail)) (ar (ae (aO (fun h5 => ao (by unfold R69 iQ; try rw [h0]; try rw [h1]; try rw [h2]; try rw [h3]; try rw [h4]; try rw [h5]; rfl)) (fun h5 => af (af (af (aO (fun h6 => ao (by unfold R69 iQ; try rw [h0]; try rw [h1]; try rw [h2]; try rw [h3]; try rw [h4]; try rw [h5]; try rw [h6]; rfl)) (fun h6 => ao (by unfold R69 iQ; try rw [h0]; try rw [h1]; try rw [h2]; try rw [h3]; try rw [h4]; try rw [h5]; try rw [h6]; rfl)))))))))) (fun h4 => ao (by unfold R69 iQ; try rw [h0]; try rw [h1]; try rw [h2]; try rw [h3]; try rw [h4]; rfl))))))) (fun h3 => ao (by unfold R69 iQ; try rw [h0]; try rw [h1]; try rw [h2]; try rw [h3]; rfl))))))) (fun h2 => ao (by unfold R69 iQ; try rw [h0]; try rw [h1]; try rw [h2]; rfl)))))))))))
def C69 : aX := mkC [.sl tyC, .agg tyC] (fun
 | [.sl n0 f0, .agg [.str s2, .int _ x3, .int _ x4, .int _ x5, .int _ x6, .int _ x7]] => s2.size <= 9223372036854775807
 | _ => False) fun
 | [.sl n0 f0, .agg [.str s2, .int _ x3, .int _ x4, .int _ x5, .int _ x6, .int _ x7]] => R69 n0 f0 s2 x3 x4 x5 x6 x7
 | _ => .any
theorem Ap : (vP C69).Ok Tryz.prog 69 := mkE wq Tryz.func69 (by kernel_rfl) fun ds hp => rf0 (Jf ..) (L8 _ _ _ _ _ _ _ _ hp)
noncomputable section
def sL : bj := (63, .con C63) :: (69, .con C69) :: mw
theorem wW : bb Tryz.prog eqs its sL := .con zV (.con Ap (wq))
def fG (x y : Int) : Bool := F51 2 (elV tp1 (bn [V.int .i64 x, V.int .i64 y] 0 ((1 + 1 - 0) / 2)))
def y8 (k : Int) (n : Nat) (f : Nat -> List V) (h : Int) : Int := bif !dX k 0 3 then 2 else bif decide ((n : Int) < 2) then 4 else bif decide (8 < (n : Int)) then 3 else bif exB n (fun i => !fG (jv0 (f i)) (jv1 (f i))) then 7 else bif !dX h 100 30000 then 7 else bif iN n f then 2 else fq k n
def F70 (n0 : Nat) (f0 : FnV) (x8 : Int) : Int := bif !AN (sv (hdV (f0 x8.toNat))) then 6 else bif exB x8.toNat (fun k => (sv (hdV (f0 k))).toList == (sv (hdV (f0 x8.toNat))).toList) then 5 else y8 (jv1 (f0 x8.toNat)) (bR (hdV (tlV (tlV (f0 x8.toNat))))) (atV (hdV (tlV (tlV (f0 x8.toNat))))) (jv3 (f0 x8.toNat))
inductive S62 where
 | L0 (ia0 : Int)
def Kx (n0 : Nat) (f0 : FnV) : S62 -> Env × List O × Option Ex
 | .L0 ia0 => ([(11, vi ia0), (10, vi (↑n0 : Int)), (9, V.sl n0 (elV tyR f0)), (5, vi 0), (4, vi 0), (0, V.sl n0 (elV tyR f0)), (1, V.fn 63 [] [])], [], none)
def MB : S62 -> JJ
 | .L0 ia0 => (0, [])
def Ji (n0 : Nat) (f0 : FnV) : T (cr JJ) := be JJ sL u0 s62 [V.sl n0 (elV tyR f0), V.fn 63 [] []]
def BU (n0 : Nat) (f0 : FnV) (cx : List Cx) : Lp JJ := lpT (atT (Ji n0 f0) [])
def Ln (n0 : Nat) (f0 : FnV) : JJ -> Lp JJ
 | (0, cx) => BU n0 f0 cx
 | (_, cx) => BU n0 f0 cx
def D62 (n0 : Nat) (f0 : FnV) : LD JJ S62 := ⟨MB, Ln n0 f0, Kx n0 f0⟩
def Gt (n0 : Nat) (f0 : FnV) : S62 -> RT S62
 | .L0 ia0 => .br (decide (ia0 < (↑n0 : Int))) (.ob (decide (0 <= ia0 /\ ia0 < (↑n0 : Int))) (.ob (decide (0 <= ia0 /\ ia0 <= (↑n0 : Int))) (.obp ((sv (hdV (f0 ia0.toNat))).size <= (9223372036854775807 : Nat)) (.obt (.br (F63 (ia0.toNat - 0) (fun i => elV tyR f0 (0 + i)) (sv (hdV (f0 ia0.toNat))) (jv1 (f0 ia0.toNat)) (bR (hdV (tlV (tlV (f0 ia0.toNat))))) (fun i => aq tp2 (atV (hdV (tlV (tlV (f0 ia0.toNat)))) i)) (jv3 (f0 ia0.toNat)) != 0) (.ret (V.tup [vi ia0, vi (F63 (ia0.toNat - 0) (fun i => elV tyR f0 (0 + i)) (sv (hdV (f0 ia0.toNat))) (jv1 (f0 ia0.toNat)) (bR (hdV (tlV (tlV (f0 ia0.toNat))))) (fun i => aq tp2 (atV (hdV (tlV (tlV (f0 ia0.toNat)))) i)) (jv3 (f0 ia0.toNat)))])) (.next [] (S62.L0 (i64.wrap (ia0 + 1))) [])))))) (.ret (V.tup [vi 0, vi 0]))
def m62 (n0 : Nat) (f0 : FnV) : RT S62 := .asm (true = true -> n0 <= 9223372036854775807) (.enter [] (S62.L0 (0)) [])
theorem Kd (n0 : Nat) (f0 : FnV) : je sL u0 (D62 n0 f0) (Ji n0 f0) (m62 n0 f0) (Gt n0 f0) := ⟨⟨by kernel_rfl, by kernel_rfl⟩, fun s => by cases s <;> exact ⟨by kernel_rfl, by kernel_rfl⟩⟩
def c62 (n0 : Nat) (f0 : FnV) (ii : Nat) : Int := (F63 (ii - 0) (fun i => elV tyR f0 (0 + i)) (sv (hdV (f0 ii))) (jv1 (f0 ii)) (bR (hdV (tlV (tlV (f0 ii))))) (fun i => aq tp2 (atV (hdV (tlV (tlV (f0 ii)))) i)) (jv3 (f0 ii)))
def sh (n0 : Nat) (f0 : FnV) : Int := eO n0 (c62 n0 f0)
def kR (n0 : Nat) (f0 : FnV) : Int := cN n0 (c62 n0 f0)
theorem Hr (n0 : Nat) (f0 : FnV) (hp : cw n0 f0) : evR (Ev (Gt n0 f0)) (m62 n0 f0) (.tup [.int .i64 (sh n0 f0), .int .i64 (kR n0 f0)]) := bE fun hn => aF (mb (Q := fun i => (sv (hdV (f0 i))).size <= 9223372036854775807) (fun i x => .obp ((sv (hdV (f0 i))).size <= 9223372036854775807) (.obt x)) (fun i x r h hx => bN h (ae hx)) (fun _ _ => rfl) hn hp fun i => rfl)
theorem Nm (n0 : Nat) (f0 : FnV) (hp : cw n0 (elV tyR f0)) : evR (Ev (Gt n0 f0)) (m62 n0 f0) (.tup [.int .i64 (sh n0 (elV tyR f0)), .int .i64 (kR n0 (elV tyR f0))]) := Hr n0 f0 hp
def C62 : aX := mkC [.sl tyR, .fn 63 [] []] (fun
 | [.sl n0 f0, .fn _ [] []] => cw n0 f0
 | _ => False) fun
 | [.sl n0 f0, .fn _ [] []] => .tup [.int .i64 (sh n0 f0), .int .i64 (kR n0 f0)]
 | _ => .any
theorem A3 : (vP C62).Ok Tryz.prog 62 := mkE wW Tryz.func62 (by kernel_rfl) fun ds hp => rfs (Kd ..) (Nm _ _ hp)
inductive S68 where
 | L0 (ia0 : Int)
def JW (n0 : Nat) (f0 : FnV) : S68 -> Env × List O × Option Ex
 | .L0 ia0 => ([(11, vi ia0), (10, vi (↑n0 : Int)), (9, V.sl n0 (elV tyC f0)), (5, vi 0), (4, vi 0), (0, V.sl n0 (elV tyC f0)), (1, V.fn 69 [] [])], [], none)
def LK : S68 -> JJ
 | .L0 ia0 => (0, [])
def Kc (n0 : Nat) (f0 : FnV) : T (cr JJ) := be JJ sL u0 s68 [V.sl n0 (elV tyC f0), V.fn 69 [] []]
def BR (n0 : Nat) (f0 : FnV) (cx : List Cx) : Lp JJ := lpT (atT (Kc n0 f0) [])
def Lm (n0 : Nat) (f0 : FnV) : JJ -> Lp JJ
 | (0, cx) => BR n0 f0 cx
 | (_, cx) => BR n0 f0 cx
def D68 (n0 : Nat) (f0 : FnV) : LD JJ S68 := ⟨LK, Lm n0 f0, JW n0 f0⟩
def HA (n0 : Nat) (f0 : FnV) : S68 -> RT S68
 | .L0 ia0 => .br (decide (ia0 < (↑n0 : Int))) (.ob (decide (0 <= ia0 /\ ia0 < (↑n0 : Int))) (.ob (decide (0 <= ia0 /\ ia0 <= (↑n0 : Int))) (.obp ((sv (hdV (f0 ia0.toNat))).size <= (9223372036854775807 : Nat)) (.obt (.br (iQ (ia0.toNat - 0) (fun i => elV tyC f0 (0 + i)) (sv (hdV (f0 ia0.toNat))) (jv1 (f0 ia0.toNat)) (jv2 (f0 ia0.toNat)) (jv3 (f0 ia0.toNat)) (jv4 (f0 ia0.toNat)) (jv5 (f0 ia0.toNat)) != 0) (.ret (V.tup [vi ia0, vi (iQ (ia0.toNat - 0) (fun i => elV tyC f0 (0 + i)) (sv (hdV (f0 ia0.toNat))) (jv1 (f0 ia0.toNat)) (jv2 (f0 ia0.toNat)) (jv3 (f0 ia0.toNat)) (jv4 (f0 ia0.toNat)) (jv5 (f0 ia0.toNat)))])) (.next [] (S68.L0 (i64.wrap (ia0 + 1))) [])))))) (.ret (V.tup [vi 0, vi 0]))
def m68 (n0 : Nat) (f0 : FnV) : RT S68 := .asm (true = true -> n0 <= 9223372036854775807) (.enter [] (S68.L0 (0)) [])
theorem Jg (n0 : Nat) (f0 : FnV) : je sL u0 (D68 n0 f0) (Kc n0 f0) (m68 n0 f0) (HA n0 f0) := ⟨⟨by kernel_rfl, by kernel_rfl⟩, fun s => by cases s <;> exact ⟨by kernel_rfl, by kernel_rfl⟩⟩
def c68 (n0 : Nat) (f0 : FnV) (ii : Nat) : Int := (iQ (ii - 0) (fun i => elV tyC f0 (0 + i)) (sv (hdV (f0 ii))) (jv1 (f0 ii)) (jv2 (f0 ii)) (jv3 (f0 ii)) (jv4 (f0 ii)) (jv5 (f0 ii)))
def sE (n0 : Nat) (f0 : FnV) : Int := eO n0 (c68 n0 f0)
def kP (n0 : Nat) (f0 : FnV) : Int := cN n0 (c68 n0 f0)
theorem Gj (n0 : Nat) (f0 : FnV) (hp : cw n0 f0) : evR (Ev (HA n0 f0)) (m68 n0 f0) (.tup [.int .i64 (sE n0 f0), .int .i64 (kP n0 f0)]) := bE fun hn => aF (mb (Q := fun i => (sv (hdV (f0 i))).size <= 9223372036854775807) (fun i x => .obp ((sv (hdV (f0 i))).size <= 9223372036854775807) (.obt x)) (fun i x r h hx => bN h (ae hx)) (fun _ _ => rfl) hn hp fun i => rfl)
theorem Nn (n0 : Nat) (f0 : FnV) (hp : cw n0 (elV tyC f0)) : evR (Ev (HA n0 f0)) (m68 n0 f0) (.tup [.int .i64 (sE n0 (elV tyC f0)), .int .i64 (kP n0 (elV tyC f0))]) := Gj n0 f0 hp
def C68 : aX := mkC [.sl tyC, .fn 69 [] []] (fun
 | [.sl n0 f0, .fn _ [] []] => cw n0 f0
 | _ => False) fun
 | [.sl n0 f0, .fn _ [] []] => .tup [.int .i64 (sE n0 f0), .int .i64 (kP n0 f0)]
 | _ => .any
theorem Ar : (vP C68).Ok Tryz.prog 68 := mkE wW Tryz.func68 (by kernel_rfl) fun ds hp => rfs (Jg ..) (Nn _ _ hp)
end
noncomputable section
def CL : bj := (62, .con C62) :: (68, .con C68) :: sL
theorem BD : bb Tryz.prog eqs its CL := .con A3 (.con Ar (wW))
def yz (x y a z w : Int) : Int := bif !!fG x y then (bif (bif bif bif !dX a 1 20000 then true else decide (z < 0) then true else decide (w <= z) then true else decide (1000 < w)) then 7 else 0) else 7
def r24 (n : Nat) (c : Nat -> Int) (k : Int) (z : Int × Int × Int) : Int × Int × Int := bif cN n c != 0 then (k, eO n c, cN n c) else z
def cR (n0 : Nat) (f0 : FnV) (i : Nat) : Int := F70 n0 (elV tyR f0) (i : Int)
def cT (f2 : FnV) (i : Nat) : Int := yz (jv0 (f2 i)) (jv1 (f2 i)) (jv2 (f2 i)) (jv3 (f2 i)) (jv4 (f2 i))
def cF (f4 : FnV) (i : Nat) : Int := F72 (jv0 (f4 i)) (jv1 (f4 i)) (jv2 (f4 i)) (jv3 (f4 i)) (bR (hdV (tlV (tlV (tlV (tlV (f4 i))))))) fun j => aq tp4 (atV (hdV (tlV (tlV (tlV (tlV (f4 i)))))) j)
def cC (n6 : Nat) (f6 : FnV) (i : Nat) : Int := F73 n6 (elV tyC f6) (i : Int)
def z3 (n6 : Nat) (f6 : FnV) : Int × Int × Int := r24 n6 (cC n6 f6) 4 (0, 0, 0)
def z2 (n4 : Nat) (f4 : FnV) (n6 : Nat) (f6 : FnV) : Int × Int × Int := r24 n4 (cF f4) 3 (z3 n6 f6)
def z1 (n2 : Nat) (f2 : FnV) (n4 : Nat) (f4 : FnV) (n6 : Nat) (f6 : FnV) : Int × Int × Int := r24 n2 (cT f2) 2 (z2 n4 f4 n6 f6)
def ET (n0 : Nat) (f0 : FnV) (n2 : Nat) (f2 : FnV) (n4 : Nat) (f4 : FnV) (n6 : Nat) (f6 : FnV) : Bool := bif bif bif decide (8 < (n0 : Int)) then true else decide (12 < (n2 : Int)) then true else decide (8 < (n4 : Int)) then true else decide (24 < (n6 : Int))
def F24 (n0 : Nat) (f0 : FnV) (n2 : Nat) (f2 : FnV) (n4 : Nat) (f4 : FnV) (n6 : Nat) (f6 : FnV) : Int × Int × Int := bif ET n0 f0 n2 f2 n4 f4 n6 f6 then (0, 0, 3) else r24 n0 (cR n0 f0) 1 (z1 n2 f2 n4 f4 n6 f6)
def bW (n0 : Nat) (f0 : FnV) (n2 : Nat) (f2 : FnV) (n4 : Nat) (f4 : FnV) (n6 : Nat) (f6 : FnV) : Int := (F24 n0 f0 n2 f2 n4 f4 n6 f6).2.2
def m23 (n0 : Nat) (f0 : FnV) (n2 : Nat) (f2 : FnV) (n4 : Nat) (f4 : FnV) (n6 : Nat) (f6 : FnV) : RT Empty := .asm (true = true -> n0 <= 9223372036854775807) (.obi (.obi (.asm ((!decide (8 < (↑n0 : Int))) = true -> n2 <= 9223372036854775807) (.obi (.obi (.obi (.obi (.asm ((!bif decide (8 < (↑n0 : Int)) then true else decide (12 < (↑n2 : Int))) = true -> n4 <= 9223372036854775807) (.obi (.obi (.obi (.obi (.asm ((!bif bif decide (8 < (↑n0 : Int)) then true else decide (12 < (↑n2 : Int)) then true else decide (8 < (↑n4 : Int))) = true -> n6 <= 9223372036854775807) (.obi (.obi (.br (bif bif bif decide (8 < (↑n0 : Int)) then true else decide (12 < (↑n2 : Int)) then true else decide (8 < (↑n4 : Int)) then true else decide (24 < (↑n6 : Int))) (.ret (V.tup [vi 0, vi 0, vi 3])) (.obp (∀ (i : Nat), i < n0 -> (sv (hdV (f0 i))).size <= (9223372036854775807 : Nat)) (.obt (.br (kR n0 (elV tyR f0) != 0) (.ret (V.tup [vi 1, vi (sh n0 (elV tyR f0)), vi (kR n0 (elV tyR f0))])) (.obc (.obt (.br (kM n2 (elV tyT f2) != 0) (.ret (V.tup [vi 2, vi (sD n2 (elV tyT f2)), vi (kM n2 (elV tyT f2))])) (.obc (.obt (.br (kV n4 (elV tyF f4) != 0) (.ret (V.tup [vi 3, vi (sM n4 (elV tyF f4)), vi (kV n4 (elV tyF f4))])) (.obp (∀ (i : Nat), i < n6 -> (sv (hdV (f6 i))).size <= (9223372036854775807 : Nat)) (.obt (.br (kP n6 (elV tyC f6) != 0) (.ret (V.tup [vi 4, vi (sE n6 (elV tyC f6)), vi (kP n6 (elV tyC f6))])) (.ret (V.tup [vi 0, vi 0, vi 0]))))))))))))))))))))))))))))))
theorem Is (n0 : Nat) (f0 : FnV) (n2 : Nat) (f2 : FnV) (n4 : Nat) (f4 : FnV) (n6 : Nat) (f6 : FnV) : Fit noD (be JJ CL u0 s23 [scV n0 f0 n2 f2 n4 f4 n6 f6]) (m23 n0 f0 n2 f2 n4 f4 n6 f6) := ⟨by kernel_rfl, by kernel_rfl⟩
def iV (n0 : Nat) (f0 : FnV) (n2 : Nat) (f2 : FnV) (n4 : Nat) (f4 : FnV) (n6 : Nat) (f6 : FnV) : Int := bif bif bif bif decide (8 < (↑n0 : Int)) then true else decide (12 < (↑n2 : Int)) then true else decide (8 < (↑n4 : Int)) then true else decide (24 < (↑n6 : Int)) then 0 else bif kR n0 (elV tyR f0) != 0 then 1 else bif kM n2 (elV tyT f2) != 0 then 2 else bif kV n4 (elV tyF f4) != 0 then 3 else bif kP n6 (elV tyC f6) != 0 then 4 else 0
def iG (n0 : Nat) (f0 : FnV) (n2 : Nat) (f2 : FnV) (n4 : Nat) (f4 : FnV) (n6 : Nat) (f6 : FnV) : Int := bif bif bif bif decide (8 < (↑n0 : Int)) then true else decide (12 < (↑n2 : Int)) then true else decide (8 < (↑n4 : Int)) then true else decide (24 < (↑n6 : Int)) then 0 else bif kR n0 (elV tyR f0) != 0 then sh n0 (elV tyR f0) else bif kM n2 (elV tyT f2) != 0 then sD n2 (elV tyT f2) else bif kV n4 (elV tyF f4) != 0 then sM n4 (elV tyF f4) else bif kP n6 (elV tyC f6) != 0 then sE n6 (elV tyC f6) else 0
def ef (n0 : Nat) (f0 : FnV) (n2 : Nat) (f2 : FnV) (n4 : Nat) (f4 : FnV) (n6 : Nat) (f6 : FnV) : Int := bif bif bif bif decide (8 < (↑n0 : Int)) then true else decide (12 < (↑n2 : Int)) then true else decide (8 < (↑n4 : Int)) then true else decide (24 < (↑n6 : Int)) then 3 else bif kR n0 (elV tyR f0) != 0 then kR n0 (elV tyR f0) else bif kM n2 (elV tyT f2) != 0 then kM n2 (elV tyT f2) else bif kV n4 (elV tyF f4) != 0 then kV n4 (elV tyF f4) else bif kP n6 (elV tyC f6) != 0 then kP n6 (elV tyC f6) else 0
def R23 (n0 : Nat) (f0 : FnV) (n2 : Nat) (f2 : FnV) (n4 : Nat) (f4 : FnV) (n6 : Nat) (f6 : FnV) : V := .tup [.int i64 (iV n0 f0 n2 f2 n4 f4 n6 f6), .int i64 (iG n0 f0 n2 f2 n4 f4 n6 f6), .int i64 (ef n0 f0 n2 f2 n4 f4 n6 f6)]
theorem Ns (n0 : Nat) (f0 : FnV) (n2 : Nat) (f2 : FnV) (n4 : Nat) (f4 : FnV) (n6 : Nat) (f6 : FnV) (hp : cw n0 f0 /\ cw n6 f6) : evR noE (m23 n0 f0 n2 f2 n4 f4 n6 f6) (R23 n0 f0 n2 f2 n4 f4 n6 f6) := dw (fun a0 => af (af (dw (fun a0 => af (af (af (af (dw (fun a0 => af (af (af (af (dw (fun a0 => af (af (aO (fun h0 => ao (by unfold R23 iV iG ef; try rw [h0]; rfl)) (fun h0 => bN (by first | assumption | ((first | exact hp.1 | exact hp.2))) (ae (aO (fun h1 => ao (by unfold R23 iV iG ef; try rw [h0]; try rw [h1]; rfl)) (fun h1 => ar (ae (aO (fun h2 => ao (by unfold R23 iV iG ef; try rw [h0]; try rw [h1]; try rw [h2]; rfl)) (fun h2 => ar (ae (aO (fun h3 => ao (by unfold R23 iV iG ef; try rw [h0]; try rw [h1]; try rw [h2]; try rw [h3]; rfl)) (fun h3 => bN (by first | assumption | ((first | exact hp.1 | exact hp.2))) (ae (aO (fun h4 => ao (by unfold R23 iV iG ef; try rw [h0]; try rw [h1]; try rw [h2]; try rw [h3]; try rw [h4]; rfl)) (fun h4 => ao (by unfold R23 iV iG ef; try rw [h0]; try rw [h1]; try rw [h2]; try rw [h3]; try rw [h4]; rfl))))))))))))))))))))))))))))))
def C23 : aX := mkC [.agg [.sl tyR, .sl tyT, .sl tyF, .sl tyC]] (fun
 | [.agg [.sl n0 f0, .sl n2 f2, .sl n4 f4, .sl n6 f6]] => cw n0 f0 /\ cw n6 f6
 | _ => False) fun
 | [.agg [.sl n0 f0, .sl n2 f2, .sl n4 f4, .sl n6 f6]] => R23 n0 f0 n2 f2 n4 f4 n6 f6
 | _ => .any
theorem Ae : (vP C23).Ok Tryz.prog 23 := mkE BD Tryz.func23 (by kernel_rfl) fun ds hp => rf0 (Is ..) (Ns _ _ _ _ _ _ _ _ hp)
end
noncomputable section
def yY : bj := (23, .con C23) :: CL
theorem Bw : bb Tryz.prog eqs its yY := .con Ae (BD)
inductive S44 where
 | L0 (ia0 ia1 : Int)
def Ja (n0 : Nat) (f0 : FnV) (n2 : Nat) (f2 : FnV) (n4 : Nat) (f4 : FnV) (n6 : Nat) (f6 : FnV) (n8 : Nat) (f8 : FnV) : S44 -> Env × List O × Option Ex
 | .L0 ia0 ia1 => ([(8, vi ia0), (7, vi ia1), (6, vi (iG n0 (elV tyR f0) n2 (elV tyT f2) n4 (elV tyF f4) n6 (elV tyC f6))), (5, vi (iV n0 (elV tyR f0) n2 (elV tyT f2) n4 (elV tyF f4) n6 (elV tyC f6))), (14, vi (ef n0 (elV tyR f0) n2 (elV tyT f2) n4 (elV tyF f4) n6 (elV tyC f6))), (13, vi (iG n0 (elV tyR f0) n2 (elV tyT f2) n4 (elV tyF f4) n6 (elV tyC f6))), (12, vi (iV n0 (elV tyR f0) n2 (elV tyT f2) n4 (elV tyF f4) n6 (elV tyC f6))), (9, V.tup [vi (iV n0 (elV tyR f0) n2 (elV tyT f2) n4 (elV tyF f4) n6 (elV tyC f6)), vi (iG n0 (elV tyR f0) n2 (elV tyT f2) n4 (elV tyF f4) n6 (elV tyC f6)), vi (ef n0 (elV tyR f0) n2 (elV tyT f2) n4 (elV tyF f4) n6 (elV tyC f6))]), (11, V.tup [vi (iV n0 (elV tyR f0) n2 (elV tyT f2) n4 (elV tyF f4) n6 (elV tyC f6)), vi (iG n0 (elV tyR f0) n2 (elV tyT f2) n4 (elV tyF f4) n6 (elV tyC f6)), vi (ef n0 (elV tyR f0) n2 (elV tyT f2) n4 (elV tyF f4) n6 (elV tyC f6))]), (10, scV n0 f0 n2 f2 n4 f4 n6 f6), (4, vi 0), (2, V.pl 0 0), (0, scV n0 f0 n2 f2 n4 f4 n6 f6), (1, V.sl n8 (elV tp1 f8))], [O.cells [V.sl n0 (elV tyR f0), V.sl n2 (elV tyT f2), V.sl n4 (elV tyF f4), V.sl n6 (elV tyC f6)] 27], none)
def ND : S44 -> JJ
 | .L0 ia0 ia1 => (0, [])
def IJ (n0 : Nat) (f0 : FnV) (n2 : Nat) (f2 : FnV) (n4 : Nat) (f4 : FnV) (n6 : Nat) (f6 : FnV) (n8 : Nat) (f8 : FnV) : T (cr JJ) := be JJ yY u0 s44 [scV n0 f0 n2 f2 n4 f4 n6 f6, V.sl n8 (elV tp1 f8)]
def By (n0 : Nat) (f0 : FnV) (n2 : Nat) (f2 : FnV) (n4 : Nat) (f4 : FnV) (n6 : Nat) (f6 : FnV) (n8 : Nat) (f8 : FnV) (cx : List Cx) : Lp JJ := lpT (atT (IJ n0 f0 n2 f2 n4 f4 n6 f6 n8 f8) [])
def Mb (n0 : Nat) (f0 : FnV) (n2 : Nat) (f2 : FnV) (n4 : Nat) (f4 : FnV) (n6 : Nat) (f6 : FnV) (n8 : Nat) (f8 : FnV) : JJ -> Lp JJ
 | (0, cx) => By n0 f0 n2 f2 n4 f4 n6 f6 n8 f8 cx
 | (_, cx) => By n0 f0 n2 f2 n4 f4 n6 f6 n8 f8 cx
def D44 (n0 : Nat) (f0 : FnV) (n2 : Nat) (f2 : FnV) (n4 : Nat) (f4 : FnV) (n6 : Nat) (f6 : FnV) (n8 : Nat) (f8 : FnV) : LD JJ S44 := ⟨ND, Mb n0 f0 n2 f2 n4 f4 n6 f6 n8 f8, Ja n0 f0 n2 f2 n4 f4 n6 f6 n8 f8⟩
def AI (n0 : Nat) (f0 : FnV) (n2 : Nat) (f2 : FnV) (n4 : Nat) (f4 : FnV) (n6 : Nat) (f6 : FnV) (n8 : Nat) (f8 : FnV) : S44 -> RT S44
 | .L0 ia0 ia1 => .asm (true = true -> n8 <= 9223372036854775807) (.obi (.obi (.br (bif decide (ia0 < (↑n8 : Int)) then ia1 == 0 else false) (.ob (decide (0 <= ia0 /\ ia0 < (↑n8 : Int))) (.ob (decide (0 <= i64.wrap (ia0 + 1) /\ i64.wrap (ia0 + 1) < (↑n8 : Int))) (.obc (.obt (.br (aK (jv0 (f8 ia0.toNat)) 0 (i64.wrap (jv0 (f8 (i64.wrap (ia0 + 1)).toNat) - 1))) (.next [some (some 0)] (S44.L0 (i64.wrap (ia0 + 2)) (4)) []) (.next [some (some 0)] (S44.L0 (i64.wrap (ia0 + 2)) (ia1)) [])))))) (.ret (vi ia1)))))
def m44 (n0 : Nat) (f0 : FnV) (n2 : Nat) (f2 : FnV) (n4 : Nat) (f4 : FnV) (n6 : Nat) (f6 : FnV) (n8 : Nat) (f8 : FnV) : RT S44 := .obp ((∀ (i : Nat), i < n0 -> (sv (hdV (f0 i))).size <= (9223372036854775807 : Nat)) /\ ∀ (i : Nat), i < n6 -> (sv (hdV (f6 i))).size <= (9223372036854775807 : Nat)) (.obt (.enter [some (some 0)] (S44.L0 (0) (ef n0 (elV tyR f0) n2 (elV tyT f2) n4 (elV tyF f4) n6 (elV tyC f6))) []))
theorem KJ (n0 : Nat) (f0 : FnV) (n2 : Nat) (f2 : FnV) (n4 : Nat) (f4 : FnV) (n6 : Nat) (f6 : FnV) (n8 : Nat) (f8 : FnV) : je yY u0 (D44 n0 f0 n2 f2 n4 f4 n6 f6 n8 f8) (IJ n0 f0 n2 f2 n4 f4 n6 f6 n8 f8) (m44 n0 f0 n2 f2 n4 f4 n6 f6 n8 f8) (AI n0 f0 n2 f2 n4 f4 n6 f6 n8 f8) := ⟨⟨by kernel_rfl, by kernel_rfl⟩, fun s => by cases s <;> exact ⟨by kernel_rfl, by kernel_rfl⟩⟩
def tF (f8 : FnV) (k : Nat) : Bool := aK (jv0 (f8 (2 * k))) 0 (i64.wrap (jv0 (f8 (2 * k + 1)) - 1))
def xK (n8 : Nat) (f8 : FnV) (e : Int) : Int := bif e == 0 then (bif exB (n8 / 2) (tF f8) then 4 else 0) else e
def F44 (n0 : Nat) (f0 : FnV) (n2 : Nat) (f2 : FnV) (n4 : Nat) (f4 : FnV) (n6 : Nat) (f6 : FnV) (n8 : Nat) (f8 : FnV) : Int := xK n8 f8 (ef n0 (elV tyR f0) n2 (elV tyT f2) n4 (elV tyF f4) n6 (elV tyC f6))
theorem FE (n0 : Nat) (f0 : FnV) (n2 : Nat) (f2 : FnV) (n4 : Nat) (f4 : FnV) (n6 : Nat) (f6 : FnV) (n8 : Nat) (f8 : FnV) (i e : Int) (he : (e == 0) = false) : Ev (AI n0 f0 n2 f2 n4 f4 n6 f6 n8 f8) (.L0 i e) (.int .i64 e) := Ev.of rfl (dw fun _ => af (af (cI (by rw [he]; cases decide (i < (n8 : Int)) <;> rfl) (ao rfl))))
theorem Kb (n0 : Nat) (f0 : FnV) (n2 : Nat) (f2 : FnV) (n4 : Nat) (f4 : FnV) (n6 : Nat) (f6 : FnV) (n8 : Nat) (f8 : FnV) (hm : n8 % 2 = 0) (hn : n8 <= 100) : ∀ k : Nat, k <= n8 / 2 -> (∀ j, j < k -> tF f8 j = false) -> Ev (AI n0 f0 n2 f2 n4 f4 n6 f6 n8 f8) (.L0 ((2 * k : Nat) : Int) 0) (.int .i64 (bif exB (n8 / 2) (tF f8) then 4 else 0)) := by
 refine cX fun k hk ih hj => Ev.of rfl (dw fun _ => af (af (aO (fun h => ?_) (fun h => ?_))))
 ·have hlt : 2 * k < n8 := by
   by_cases hh : ((2 * k : Nat) : Int) < (n8 : Int)
   ·omega
   ·rw [dqf hh] at h; cases h
  have w1 : i64.wrap (((2 * k : Nat) : Int) + 1) = ((2 * k + 1 : Nat) : Int) := by rw [av (by omega) (by omega)]; omega
  have w2 : i64.wrap (((2 * k : Nat) : Int) + 2) = ((2 * (k + 1) : Nat) : Int) := by rw [av (by omega) (by omega)]; omega
  refine al (dqt (by omega)) (al (dqt (by rw [w1]; omega)) (ar (ae (aO (fun hb => aN ?_) (fun hb => aN ?_)))))
  ·rw [w1] at hb
   simp only [Int.toNat_natCast] at hb
   rw [bD (p := tF f8) k (by omega) hb, cond_true]
   exact FE n0 f0 n2 f2 n4 f4 n6 f6 n8 f8 _ 4 rfl
  ·rw [w1] at hb
   simp only [Int.toNat_natCast] at hb
   rw [w2]
   refine ih (by omega) (fun j h3 => ?_)
   by_cases e : j = k
   ·subst e; exact hb
   ·exact hj j (by omega)
 ·have e : k = n8 / 2 := by
   by_cases hh : ((2 * k : Nat) : Int) < (n8 : Int)
   ·rw [dqt hh] at h; cases h
   ·omega
  rw [show exB (n8 / 2) (tF f8) = false from dV fun j h => hj j (by omega)]
  exact ao rfl
theorem Ia (n0 : Nat) (f0 : FnV) (n2 : Nat) (f2 : FnV) (n4 : Nat) (f4 : FnV) (n6 : Nat) (f6 : FnV) (n8 : Nat) (f8 : FnV) (hm : n8 % 2 = 0) (hn : n8 <= 100) (e : Int) : Ev (AI n0 f0 n2 f2 n4 f4 n6 f6 n8 f8) (.L0 0 e) (.int .i64 (xK n8 f8 e)) := by
 unfold xK
 cases he : e == 0 with
 | false => exact FE n0 f0 n2 f2 n4 f4 n6 f6 n8 f8 0 e he
 | true =>
   have : e = 0 := eq_of_beq he
   subst this
   exact Kb n0 f0 n2 f2 n4 f4 n6 f6 n8 f8 hm hn 0 (by omega) (fun j h => by omega)
theorem FJ (n0 : Nat) (f0 : FnV) (n2 : Nat) (f2 : FnV) (n4 : Nat) (f4 : FnV) (n6 : Nat) (f6 : FnV) (n8 : Nat) (f8 : FnV) (hp : (cw n0 f0 /\ cw n6 f6) /\ n8 % 2 = 0 /\ n8 <= 100) : evR (Ev (AI n0 f0 n2 f2 n4 f4 n6 f6 n8 f8)) (m44 n0 f0 n2 f2 n4 f4 n6 f6 n8 f8) (.int .i64 (F44 n0 f0 n2 f2 n4 f4 n6 f6 n8 f8)) := bN hp.1 (ae (aF (Ia n0 f0 n2 f2 n4 f4 n6 f6 n8 f8 hp.2.1 hp.2.2 _)))
theorem MX (n0 : Nat) (f0 : FnV) (n2 : Nat) (f2 : FnV) (n4 : Nat) (f4 : FnV) (n6 : Nat) (f6 : FnV) (n8 : Nat) (f8 : FnV) (hp : (cw n0 (elV tyR f0) /\ cw n6 (elV tyC f6)) /\ n8 % 2 = 0 /\ n8 <= 100) : evR (Ev (AI n0 f0 n2 f2 n4 f4 n6 f6 n8 f8)) (m44 n0 f0 n2 f2 n4 f4 n6 f6 n8 f8) (.int .i64 (F44 n0 (elV tyR f0) n2 (elV tyT f2) n4 (elV tyF f4) n6 (elV tyC f6) n8 (elV tp1 f8))) := FJ n0 f0 n2 f2 n4 f4 n6 f6 n8 f8 hp
def C44 : aX := mkC [.agg [.sl tyR, .sl tyT, .sl tyF, .sl tyC], .sl tp1] (fun
 | [.agg [.sl n0 f0, .sl n2 f2, .sl n4 f4, .sl n6 f6], .sl n8 f8] => (cw n0 f0 /\ cw n6 f6) /\ n8 % 2 = 0 /\ n8 <= 100
 | _ => False) fun
 | [.agg [.sl n0 f0, .sl n2 f2, .sl n4 f4, .sl n6 f6], .sl n8 f8] => .int .i64 (F44 n0 f0 n2 f2 n4 f4 n6 f6 n8 f8)
 | _ => .any
theorem zQ : (vP C44).Ok Tryz.prog 44 := mkE Bw Tryz.func44 (by kernel_rfl) fun ds hp => rfs (KJ ..) (MX _ _ _ _ _ _ _ _ _ _ hp)
def p7 (n0 : Nat) (f0 : FnV) (n2 : Nat) (f2 : FnV) (n4 : Nat) (f4 : FnV) (n6 : Nat) (f6 : FnV) : Int := bW n0 (elV tyR f0) n2 (elV tyT f2) n4 (elV tyF f4) n6 (elV tyC f6)
end
noncomputable section
def Fk : bj := (44, .con C44) :: yY
theorem Gx : bb Tryz.prog eqs its Fk := .con zQ (Bw)
def rE (n0 : Nat) (f0 : FnV) (n2 : Nat) (f2 : FnV) (n4 : Nat) (f4 : FnV) (n6 : Nat) (f6 : FnV) (x8 x9 : Int) : Int := bif bif p7 n0 (elV tyR f0) n2 (elV tyT f2) n4 (elV tyF f4) n6 (elV tyC f6) == 0 then bif decide (x8 < 0) then true else decide (x9 <= x8) else false then 4 else p7 n0 (elV tyR f0) n2 (elV tyT f2) n4 (elV tyF f4) n6 (elV tyC f6)
end
end Go.Dx
namespace Go.Dx
open Go.IntKind (i64 u64 u8)
open Go.Sx
noncomputable section
theorem tM {i : Int} {m : Nat} {f8 : Nat -> List V} {k : Nat} (hm : m <= 9223372036854775807) (h1 : jv0 (f8 (2 * k)) = i) (h2 : jv0 (f8 (2 * k + 1)) = (m : Int)) (h : tF f8 k = false) : 0 <= i /\ i < m := by
 unfold tF aK at h
 rw [h1, h2, av (by omega) (by omega)] at h
 cases hb : decide (i < 0) with
 | true => rw [hb] at h; cases h
 | false =>
   rw [hb, cond_false] at h
   have a := of_decide_eq_false hb
   have b := of_decide_eq_false h
   omega
theorem th {n8 : Nat} {f8 : Nat -> List V} {e : Int} (h : xK n8 f8 e = 0) : e = 0 /\ ∀ k, k < n8 / 2 -> tF f8 k = false := by
 unfold xK at h
 cases he : e == 0 with
 | false =>
   rw [he, cond_false] at h
   subst h; cases he
 | true =>
   rw [he, cond_true] at h
   refine ⟨eq_of_beq he, fun k hk => ?_⟩
   cases ho : tF f8 k with
   | false => rfl
   | true => rw [bD k hk ho] at h; cases h
section
variable {n0 : Nat} {f0 : Nat -> List V} {n2 : Nat} {f2 : Nat -> List V} {n4 : Nat} {f4 : Nat -> List V} {n6 : Nat} {f6 : Nat -> List V} {i j : Int} {m l : Nat}
theorem dl (hm : m <= 9223372036854775807) (h : F44 n0 f0 n2 f2 n4 f4 n6 f6 2 (elV tp1 (bn [vi i, vi m] 0 1)) = 0) : 0 <= i /\ i < m :=
 tM (k := 0) hm rfl rfl ((th h).2 0 (by omega))
theorem fB (hm : m <= 9223372036854775807) (hl : l <= 9223372036854775807) (h : F44 n0 f0 n2 f2 n4 f4 n6 f6 4 (elV tp1 (bn [vi i, vi m, vi j, vi l] 0 1)) = 0) : (0 <= i /\ i < m) /\ (0 <= j /\ j < l) :=
 ⟨tM (k := 0) hm rfl rfl ((th h).2 0 (by omega)), tM (k := 1) hl rfl rfl ((th h).2 1 (by omega))⟩
theorem k50 (h : rE n0 f0 n2 f2 n4 f4 n6 f6 i j = 0) : 0 <= i /\ i < j := by
 unfold rE at h
 generalize p7 _ _ _ _ _ _ _ _ = e at h
 cases he : e == 0 with
 | false => rw [he] at h; simp only [cond_false] at h; subst h; cases he
 | true =>
   rw [he, cond_true] at h
   cases hb : decide (i < 0) with
   | true => rw [hb] at h; cases h
   | false =>
     rw [hb, cond_false] at h
     cases hc : decide (j <= i) with
     | true => rw [hc] at h; cases h
     | false => have := of_decide_eq_false hb; have := of_decide_eq_false hc; omega
end
end
end Go.Dx
namespace Go.Dx
open Go.IntKind (i64 u64 u8)
open Go.Sx Go.Proofs
noncomputable section
def Cb : bj := Fk
theorem Bv : bb Tryz.prog eqs its Cb := Gx
attribute [local irreducible] F44 rE p7
def m30 (n0 : Nat) (f0 : FnV) (n2 : Nat) (f2 : FnV) (n4 : Nat) (f4 : FnV) (n6 : Nat) (f6 : FnV) (x8 x9 : Int) : RT Empty := .asm (true = true -> n4 <= 9223372036854775807) (.asm (true = true -> n6 <= 9223372036854775807) (.obp (((∀ (i : Nat), i < n0 -> (sv (hdV (f0 i))).size <= (9223372036854775807 : Nat)) /\ ∀ (i : Nat), i < n6 -> (sv (hdV (f6 i))).size <= (9223372036854775807 : Nat)) /\ (0 : Nat) = (0 : Nat) /\ (4 : Nat) <= (100 : Nat)) (.obt (.br (F44 n0 (elV tyR f0) n2 (elV tyT f2) n4 (elV tyF f4) n6 (elV tyC f6) 4 (elV tp1 (bn [vi x9, vi (↑n4 : Int), vi x8, vi (↑n6 : Int)] 0 1)) != 0) (.ret (V.tup [V.kb false, vi (F44 n0 (elV tyR f0) n2 (elV tyT f2) n4 (elV tyF f4) n6 (elV tyC f6) 4 (elV tp1 (bn [vi x9, vi (↑n4 : Int), vi x8, vi (↑n6 : Int)] 0 1)))])) (.ob (decide (0 <= x9 /\ x9 < (↑n4 : Int))) (.ob (decide (0 <= x8 /\ x8 < (↑n6 : Int))) (.obt (.obt (.obt (.obt (.obc (.obt (.ret (V.tup [V.bool (decide (0 < bo (jv0 (f4 x9.toNat)) (jv1 (f4 x9.toNat)) (jv2 (f4 x9.toNat)) (jv3 (f4 x9.toNat)) (jv1 (f6 x8.toNat)) (jv2 (f6 x8.toNat)))), vi 0]))))))))))))))
theorem KS (n0 : Nat) (f0 : FnV) (n2 : Nat) (f2 : FnV) (n4 : Nat) (f4 : FnV) (n6 : Nat) (f6 : FnV) (x8 x9 : Int) : Fit noD (be JJ Cb u0 s30 [scV n0 f0 n2 f2 n4 f4 n6 f6, vi x8, vi x9]) (m30 n0 f0 n2 f2 n4 f4 n6 f6 x8 x9) := ⟨by kernel_rfl, by kernel_rfl⟩
def kH (n0 : Nat) (f0 : FnV) (n2 : Nat) (f2 : FnV) (n4 : Nat) (f4 : FnV) (n6 : Nat) (f6 : FnV) (x8 x9 : Int) : Bool := bif F44 n0 (elV tyR f0) n2 (elV tyT f2) n4 (elV tyF f4) n6 (elV tyC f6) 4 (elV tp1 (bn [vi x9, vi (↑n4 : Int), vi x8, vi (↑n6 : Int)] 0 1)) != 0 then false else decide (0 < bo (jv0 (f4 x9.toNat)) (jv1 (f4 x9.toNat)) (jv2 (f4 x9.toNat)) (jv3 (f4 x9.toNat)) (jv1 (f6 x8.toNat)) (jv2 (f6 x8.toNat)))
def kY (n0 : Nat) (f0 : FnV) (n2 : Nat) (f2 : FnV) (n4 : Nat) (f4 : FnV) (n6 : Nat) (f6 : FnV) (x8 x9 : Int) : Int := bif F44 n0 (elV tyR f0) n2 (elV tyT f2) n4 (elV tyF f4) n6 (elV tyC f6) 4 (elV tp1 (bn [vi x9, vi (↑n4 : Int), vi x8, vi (↑n6 : Int)] 0 1)) != 0 then F44 n0 (elV tyR f0) n2 (elV tyT f2) n4 (elV tyF f4) n6 (elV tyC f6) 4 (elV tp1 (bn [vi x9, vi (↑n4 : Int), vi x8, vi (↑n6 : Int)] 0 1)) else 0
def R30 (n0 : Nat) (f0 : FnV) (n2 : Nat) (f2 : FnV) (n4 : Nat) (f4 : FnV) (n6 : Nat) (f6 : FnV) (x8 x9 : Int) : V := .tup [.bool (kH n0 f0 n2 f2 n4 f4 n6 f6 x8 x9), .int i64 (kY n0 f0 n2 f2 n4 f4 n6 f6 x8 x9)]
theorem Mz (n0 : Nat) (f0 : FnV) (n2 : Nat) (f2 : FnV) (n4 : Nat) (f4 : FnV) (n6 : Nat) (f6 : FnV) (x8 x9 : Int) (hp : cw n0 f0 /\ cw n6 f6) : evR noE (m30 n0 f0 n2 f2 n4 f4 n6 f6 x8 x9) (R30 n0 f0 n2 f2 n4 f4 n6 f6 x8 x9) := dw (fun a0 => dw (fun a0 => bN (by first | assumption | ((first | exact hp | exact ⟨hp, rfl, by decide⟩))) (ae (aO (fun h0 => ao (by unfold R30 kH kY; try rw [h0]; rfl)) (fun h0 => al (by first | assumption | ((simp_all [cond_eq_ite] <;> first | omega | exact (fB (by assumption) (by assumption) h0).1 | exact (fB (by assumption) (by assumption) h0).2 | exact dl (by assumption) h0 | exact dl (by assumption) h1 | exact k50 h0 | exact k50 h1 | exact k50 hc.1 | exact dl (by assumption) hc))) (al (by first | assumption | ((simp_all [cond_eq_ite] <;> first | omega | exact (fB (by assumption) (by assumption) h0).1 | exact (fB (by assumption) (by assumption) h0).2 | exact dl (by assumption) h0 | exact dl (by assumption) h1 | exact k50 h0 | exact k50 h1 | exact k50 hc.1 | exact dl (by assumption) hc))) (ae (ae (ae (ae (ar (ae (ao (by unfold R30 kH kY; try rw [h0]; rfl))))))))))))))
def C30 : aX := mkC [.agg [.sl tyR, .sl tyT, .sl tyF, .sl tyC], .int .i64, .int .i64] (fun
 | [.agg [.sl n0 f0, .sl n2 f2, .sl n4 f4, .sl n6 f6], .int _ x8, .int _ x9] => cw n0 f0 /\ cw n6 f6
 | _ => False) fun
 | [.agg [.sl n0 f0, .sl n2 f2, .sl n4 f4, .sl n6 f6], .int _ x8, .int _ x9] => R30 n0 f0 n2 f2 n4 f4 n6 f6 x8 x9
 | _ => .any
theorem Ag : (vP C30).Ok Tryz.prog 30 := mkE Bv Tryz.func30 (by kernel_rfl) fun ds hp => rf0 (KS ..) (Mz _ _ _ _ _ _ _ _ _ _ hp)
end
end Go.Dx
namespace Go.Dx
open Go.IntKind (i64 u64 u8)
open Go.Sx Go.Proofs
noncomputable section
def uT : bj := (30, .con C30) :: Cb
theorem tN : bb Tryz.prog eqs its uT := .con Ag (Bv)
def IL (x0 x1 x2 x3 : Int) : RT Empty := .br (x0 != x2) (.ret (vi (i64.wrap (x0 - x2)))) (.ret (vi (i64.wrap (x1 - x3))))
theorem HE (x0 x1 x2 x3 : Int) : Fit noD (be JJ uT u0 NC [V.agg [vi x0, vi x1], V.agg [vi x2, vi x3]]) (IL x0 x1 x2 x3) := ⟨by kernel_rfl, by kernel_rfl⟩
def lu (x0 x1 x2 x3 : Int) : Int := bif x0 != x2 then i64.wrap (x0 - x2) else i64.wrap (x1 - x3)
def DP (x0 x1 x2 x3 : Int) : V := .int i64 (lu x0 x1 x2 x3)
theorem KN (x0 x1 x2 x3 : Int) : evR noE (IL x0 x1 x2 x3) (DP x0 x1 x2 x3) := aO (fun h0 => ao (by unfold DP lu; try rw [h0]; rfl)) (fun h0 => ao (by unfold DP lu; try rw [h0]; rfl))
def w5 : aX := mkC [.agg tp2, .agg tp2] (fun _ => True) fun
 | [.agg [.int _ x0, .int _ x1], .agg [.int _ x2, .int _ x3]] => DP x0 x1 x2 x3
 | _ => .any
theorem rU : (vP w5).Ok Tryz.prog 140 := mkE tN Tryz.func140 (by kernel_rfl) fun ds hp => rf0 (HE ..) (KN _ _ _ _)
def m49 (x0 x1 x2 x3 x4 x5 x6 x7 : Int) (b8 : Bool) (x9 x10 : Int) : RT Empty := .obi (.br (!b8) (.ob (!b8) (.ob (!b8) (.ob (!b8) (.obc (.obt (.obc (.obt (.obc (.obt (.ret (V.bool (eq (aV x0 x2 x9 x3) (aT x1 x2 x10 x3) (aV x0 x2 x9 x4) (aT x1 x2 x10 x4) x5 x6 x7)))))))))))) (.ret (V.kb false)))
theorem KD (x0 x1 x2 x3 x4 x5 x6 x7 : Int) (b8 : Bool) (x9 x10 : Int) : Fit noD (be JJ uT u0 s49 [V.agg [vi x0, vi x1, vi x2, vi x3, vi x4, vi x5, vi x6, vi x7, V.bool b8], V.agg [vi x9, vi x10]]) (m49 x0 x1 x2 x3 x4 x5 x6 x7 b8 x9 x10) := ⟨by kernel_rfl, by kernel_rfl⟩
def mf (x0 x1 x2 x3 x4 x5 x6 x7 : Int) (b8 : Bool) (x9 x10 : Int) : Bool := bif !b8 then eq (aV x0 x2 x9 x3) (aT x1 x2 x10 x3) (aV x0 x2 x9 x4) (aT x1 x2 x10 x4) x5 x6 x7 else false
def R49 (x0 x1 x2 x3 x4 x5 x6 x7 : Int) (b8 : Bool) (x9 x10 : Int) : V := .bool (mf x0 x1 x2 x3 x4 x5 x6 x7 b8 x9 x10)
theorem NB (x0 x1 x2 x3 x4 x5 x6 x7 : Int) (b8 : Bool) (x9 x10 : Int) : evR noE (m49 x0 x1 x2 x3 x4 x5 x6 x7 b8 x9 x10) (R49 x0 x1 x2 x3 x4 x5 x6 x7 b8 x9 x10) := af (aO (fun h0 => al (by first | assumption | (fail)) (al (by first | assumption | (fail)) (al (by first | assumption | (fail)) (ar (ae (ar (ae (ar (ae (ao (by unfold R49 mf; try rw [h0]; rfl))))))))))) (fun h0 => ao (by unfold R49 mf; try rw [h0]; rfl)))
def C49 : aX := mkC [.agg [.int .i64, .int .i64, .int .i64, .int .i64, .int .i64, .int .i64, .int .i64, .int .i64, .bool], .agg tp2] (fun _ => True) fun
 | [.agg [.int _ x0, .int _ x1, .int _ x2, .int _ x3, .int _ x4, .int _ x5, .int _ x6, .int _ x7, .bool b8], .agg [.int _ x9, .int _ x10]] => R49 x0 x1 x2 x3 x4 x5 x6 x7 b8 x9 x10
 | _ => .any
theorem Aj : (vP C49).Ok Tryz.prog 49 := mkE tN Tryz.func49 (by kernel_rfl) fun ds hp => rf0 (KD ..) (NB _ _ _ _ _ _ _ _ _ _ _)
def IZ (x0 x1 x2 x3 x4 x5 x6 : Int) : RT Empty := .obc (.obt (.ret (V.bool (eq x0 x1 x2 x3 (i64.wrap (2 * x5)) (i64.wrap (2 * x6)) x4))))
theorem F4 (x0 x1 x2 x3 x4 x5 x6 : Int) : Fit noD (be JJ uT u0 Lw [V.agg [vi x0, vi x1, vi x2, vi x3, vi x4], vi x5, vi x6]) (IZ x0 x1 x2 x3 x4 x5 x6) := ⟨by kernel_rfl, by kernel_rfl⟩
def bz (x0 x1 x2 x3 x4 x5 x6 : Int) : Bool := eq x0 x1 x2 x3 (i64.wrap (2 * x5)) (i64.wrap (2 * x6)) x4
def GB (x0 x1 x2 x3 x4 x5 x6 : Int) : V := .bool (bz x0 x1 x2 x3 x4 x5 x6)
theorem I0 (x0 x1 x2 x3 x4 x5 x6 : Int) : evR noE (IZ x0 x1 x2 x3 x4 x5 x6) (GB x0 x1 x2 x3 x4 x5 x6) := ar (ae (ao (by unfold GB bz; rfl)))
def xk : aX := mkC [.agg tyT, .int .i64, .int .i64] (fun _ => True) fun
 | [.agg [.int _ x0, .int _ x1, .int _ x2, .int _ x3, .int _ x4], .int _ x5, .int _ x6] => GB x0 x1 x2 x3 x4 x5 x6
 | _ => .any
theorem rD : (vP xk).Ok Tryz.prog 123 := mkE tN Tryz.func123 (by kernel_rfl) fun ds hp => rf0 (F4 ..) (I0 _ _ _ _ _ _ _)
end
noncomputable section
def wC : bj := (140, .con w5) :: (49, .con C49) :: (123, .con xk) :: uT
theorem yZ : bb Tryz.prog eqs its wC := .con rU (.con Aj (.con rD (tN)))
def u5 : Unr := fun _ => 5
def JR (x0 x1 x2 x3 x4 x5 x6 x7 x8 : Int) : RT Empty := .obi (.obi (.obi (.obi (.obi (.obi (.obi (.obi (.obi (.obi (.obi (.obi (.obi (.obi (.obi (.obi (.obi (.obi (.obi (.obi (.obi (.obi (.obi (.obi (.obi (.obi (.obi (.obi (.obi (.obi (.obi (.obi (.obi (.obi (.obi (.obi (.obi (.obi (.obi (.br (bif bif bif decide (max x0 x2 < i64.wrap (2 * x5)) then true else decide (i64.wrap (2 * x7) < min x0 x2) then true else decide (max x1 x3 < i64.wrap (2 * x6)) then true else decide (i64.wrap (2 * x8) < min x1 x3)) (.ret (V.kb false)) (.obc (.obt (.brt (.obt (.obc (.obt (.obc (.obt (.brt (.obt (.obc (.obt (.obc (.obt (.obi (.obi (.obi (.obi (.brt (.obt (.obc (.obt (.obc (.obt (.obi (.obi (.obi (.obi (.brt (.obt (.obc (.obt (.obc (.obt (.obi (.obi (.obi (.obi (.brf (.obi (.ret (V.bool (bif bif bif bif decide (0 <= bo x0 x1 x2 x3 (cq x5 2) (co x6 2)) then true else decide (0 <= bo x0 x1 x2 x3 (cq x7 2) (co x6 2)) then true else decide (0 <= bo x0 x1 x2 x3 (cq x7 2) (co x8 2)) then true else decide (0 <= bo x0 x1 x2 x3 (cq x5 2) (co x8 2)) then bif bif bif decide (bo x0 x1 x2 x3 (cq x5 2) (co x6 2) <= 0) then true else decide (bo x0 x1 x2 x3 (cq x7 2) (co x6 2) <= 0) then true else decide (bo x0 x1 x2 x3 (cq x7 2) (co x8 2) <= 0) then true else decide (bo x0 x1 x2 x3 (cq x5 2) (co x8 2) <= 0) else false))))))))))))))))))))))))))))))))))))))))))))))))))))))))))))))))))))))))))))))))))
theorem HX (x0 x1 x2 x3 x4 x5 x6 x7 x8 : Int) : Fit noD (be JJ wC u5 MQ [V.agg [vi x0, vi x1, vi x2, vi x3, vi x4], V.agg [vi x5, vi x6, vi x7, vi x8]]) (JR x0 x1 x2 x3 x4 x5 x6 x7 x8) := ⟨by kernel_rfl, by kernel_rfl⟩
def ja (x0 x1 x2 x3 x5 x6 x7 x8 : Int) : Bool := bif bif bif bif decide (max x0 x2 < i64.wrap (2 * x5)) then true else decide (i64.wrap (2 * x7) < min x0 x2) then true else decide (max x1 x3 < i64.wrap (2 * x6)) then true else decide (i64.wrap (2 * x8) < min x1 x3) then false else bif bif bif bif decide (0 <= bo x0 x1 x2 x3 (cq x5 2) (co x6 2)) then true else decide (0 <= bo x0 x1 x2 x3 (cq x7 2) (co x6 2)) then true else decide (0 <= bo x0 x1 x2 x3 (cq x7 2) (co x8 2)) then true else decide (0 <= bo x0 x1 x2 x3 (cq x5 2) (co x8 2)) then bif bif bif decide (bo x0 x1 x2 x3 (cq x5 2) (co x6 2) <= 0) then true else decide (bo x0 x1 x2 x3 (cq x7 2) (co x6 2) <= 0) then true else decide (bo x0 x1 x2 x3 (cq x7 2) (co x8 2) <= 0) then true else decide (bo x0 x1 x2 x3 (cq x5 2) (co x8 2) <= 0) else false
def DV (x0 x1 x2 x3 x4 x5 x6 x7 x8 : Int) : V := .bool (ja x0 x1 x2 x3 x5 x6 x7 x8)
theorem IB (x0 x1 x2 x3 x4 x5 x6 x7 x8 : Int) : evR noE (JR x0 x1 x2 x3 x4 x5 x6 x7 x8) (DV x0 x1 x2 x3 x4 x5 x6 x7 x8) := af (af (af (af (af (af (af (af (af (af (af (af (af (af (af (af (af (af (af (af (af (af (af (af (af (af (af (af (af (af (af (af (af (af (af (af (af (af (af (aO (fun h0 => ao (by unfold DV ja; try rw [h0]; rfl)) (fun h0 => ar (ae (bt (ae (ar (ae (ar (ae (bt (ae (ar (ae (ar (ae (af (af (af (af (bt (ae (ar (ae (ar (ae (af (af (af (af (bt (ae (ar (ae (ar (ae (af (af (af (af (bC (af (ao (by unfold DV ja; try rw [h0]; rfl)))))))))))))))))))))))))))))))))))))))))))))))))))))))))))))))))))))))))))))))))
def xf : aX := mkC [.agg tyT, .agg tp4] (fun _ => True) fun
 | [.agg [.int _ x0, .int _ x1, .int _ x2, .int _ x3, .int _ x4], .agg [.int _ x5, .int _ x6, .int _ x7, .int _ x8]] => DV x0 x1 x2 x3 x4 x5 x6 x7 x8
 | _ => .any
theorem rY : (vP xf).Ok Tryz.prog 145 := mkE yZ Tryz.func145 (by kernel_rfl) fun ds hp => rf0 (HX ..) (IB _ _ _ _ _ _ _ _ _)
end
noncomputable section
def qB : bj := (145, .con xf) :: wC
theorem oX : bb Tryz.prog eqs its qB := .con rY (yZ)
def KV (x0 x1 x2 x3 x4 x5 x6 x7 x8 : Int) : RT Empty := .obc (.obt (.brt (.obt (.obc (.obt (.br (bz x0 x1 x2 x3 x4 x5 x6) (.brt (.obt (.obc (.obt (.br (bz x0 x1 x2 x3 x4 x7 x6) (.brt (.obt (.obc (.obt (.br (bz x0 x1 x2 x3 x4 x7 x8) (.brt (.obt (.obc (.obt (.br (bz x0 x1 x2 x3 x4 x5 x8) (.brf (.brt (.ret (vi 2)))) (.brf (.brf (.brt (.ret (vi 1)))))))))) (.brt (.obt (.obc (.obt (.br (bz x0 x1 x2 x3 x4 x5 x8) (.brf (.brf (.brt (.ret (vi 1))))) (.brf (.brf (.brt (.ret (vi 1))))))))))))))) (.brt (.obt (.obc (.obt (.br (bz x0 x1 x2 x3 x4 x7 x8) (.brt (.obt (.obc (.obt (.br (bz x0 x1 x2 x3 x4 x5 x8) (.brf (.brf (.brt (.ret (vi 1))))) (.brf (.brf (.brt (.ret (vi 1)))))))))) (.brt (.obt (.obc (.obt (.br (bz x0 x1 x2 x3 x4 x5 x8) (.brf (.brf (.brt (.ret (vi 1))))) (.brf (.brf (.brt (.ret (vi 1)))))))))))))))))))) (.brt (.obt (.obc (.obt (.br (bz x0 x1 x2 x3 x4 x7 x6) (.brt (.obt (.obc (.obt (.br (bz x0 x1 x2 x3 x4 x7 x8) (.brt (.obt (.obc (.obt (.br (bz x0 x1 x2 x3 x4 x5 x8) (.brf (.brf (.brt (.ret (vi 1))))) (.brf (.brf (.brt (.ret (vi 1)))))))))) (.brt (.obt (.obc (.obt (.br (bz x0 x1 x2 x3 x4 x5 x8) (.brf (.brf (.brt (.ret (vi 1))))) (.brf (.brf (.brt (.ret (vi 1))))))))))))))) (.brt (.obt (.obc (.obt (.br (bz x0 x1 x2 x3 x4 x7 x8) (.brt (.obt (.obc (.obt (.br (bz x0 x1 x2 x3 x4 x5 x8) (.brf (.brf (.brt (.ret (vi 1))))) (.brf (.brf (.brt (.ret (vi 1)))))))))) (.brt (.obt (.obc (.obt (.br (bz x0 x1 x2 x3 x4 x5 x8) (.brf (.brf (.brt (.ret (vi 1))))) (.brf (.brf (.brf (.brt (.obt (.obc (.obt (.br (decide (dk (max (max (i64.wrap (i64.wrap (2 * x5) - x0)) 0) (i64.wrap (x0 - i64.wrap (2 * x7)))) (max (max (i64.wrap (i64.wrap (2 * x6) - x1)) 0) (i64.wrap (x1 - i64.wrap (2 * x8)))) (max (max (i64.wrap (i64.wrap (2 * x5) - x0)) 0) (i64.wrap (x0 - i64.wrap (2 * x7)))) (max (max (i64.wrap (i64.wrap (2 * x6) - x1)) 0) (i64.wrap (x1 - i64.wrap (2 * x8)))) <= i64.wrap (x4 * x4))) (.ret (vi 1)) (.brt (.obt (.obc (.obt (.br (decide (dk (max (max (i64.wrap (i64.wrap (2 * x5) - x2)) 0) (i64.wrap (x2 - i64.wrap (2 * x7)))) (max (max (i64.wrap (i64.wrap (2 * x6) - x3)) 0) (i64.wrap (x3 - i64.wrap (2 * x8)))) (max (max (i64.wrap (i64.wrap (2 * x5) - x2)) 0) (i64.wrap (x2 - i64.wrap (2 * x7)))) (max (max (i64.wrap (i64.wrap (2 * x6) - x3)) 0) (i64.wrap (x3 - i64.wrap (2 * x8)))) <= i64.wrap (x4 * x4))) (.ret (vi 1)) (.brf (.obc (.obt (.br (ja x0 x1 x2 x3 x5 x6 x7 x8) (.ret (vi 1)) (.ret (vi 0))))))))))))))))))))))))))))))))))))))))
theorem F1 (x0 x1 x2 x3 x4 x5 x6 x7 x8 : Int) : Fit noD (be JJ qB u5 M5 [V.agg [vi x0, vi x1, vi x2, vi x3, vi x4], V.agg [vi x5, vi x6, vi x7, vi x8]]) (KV x0 x1 x2 x3 x4 x5 x6 x7 x8) := ⟨by kernel_rfl, by kernel_rfl⟩
def bF (x0 x1 x2 x3 x4 x5 x6 x7 x8 : Int) : Int := bif bz x0 x1 x2 x3 x4 x5 x6 then bif bz x0 x1 x2 x3 x4 x7 x6 then bif bz x0 x1 x2 x3 x4 x7 x8 then bif bz x0 x1 x2 x3 x4 x5 x8 then 2 else 1 else 1 else 1 else bif bz x0 x1 x2 x3 x4 x7 x6 then 1 else bif bz x0 x1 x2 x3 x4 x7 x8 then 1 else bif bz x0 x1 x2 x3 x4 x5 x8 then 1 else bif decide (dk (max (max (i64.wrap (i64.wrap (2 * x5) - x0)) 0) (i64.wrap (x0 - i64.wrap (2 * x7)))) (max (max (i64.wrap (i64.wrap (2 * x6) - x1)) 0) (i64.wrap (x1 - i64.wrap (2 * x8)))) (max (max (i64.wrap (i64.wrap (2 * x5) - x0)) 0) (i64.wrap (x0 - i64.wrap (2 * x7)))) (max (max (i64.wrap (i64.wrap (2 * x6) - x1)) 0) (i64.wrap (x1 - i64.wrap (2 * x8)))) <= i64.wrap (x4 * x4)) then 1 else bif decide (dk (max (max (i64.wrap (i64.wrap (2 * x5) - x2)) 0) (i64.wrap (x2 - i64.wrap (2 * x7)))) (max (max (i64.wrap (i64.wrap (2 * x6) - x3)) 0) (i64.wrap (x3 - i64.wrap (2 * x8)))) (max (max (i64.wrap (i64.wrap (2 * x5) - x2)) 0) (i64.wrap (x2 - i64.wrap (2 * x7)))) (max (max (i64.wrap (i64.wrap (2 * x6) - x3)) 0) (i64.wrap (x3 - i64.wrap (2 * x8)))) <= i64.wrap (x4 * x4)) then 1 else bif ja x0 x1 x2 x3 x5 x6 x7 x8 then 1 else 0
def il (x0 x1 x2 x3 x4 x5 x6 x7 x8 : Int) : V := .int i64 (bF x0 x1 x2 x3 x4 x5 x6 x7 x8)
theorem JU (x0 x1 x2 x3 x4 x5 x6 x7 x8 : Int) : evR noE (KV x0 x1 x2 x3 x4 x5 x6 x7 x8) (il x0 x1 x2 x3 x4 x5 x6 x7 x8) := ar (ae (bt (ae (ar (ae (aO (fun h0 => bt (ae (ar (ae (aO (fun h1 => bt (ae (ar (ae (aO (fun h2 => bt (ae (ar (ae (aO (fun h3 => bC (bt (ao (by unfold il bF; try rw [h0]; try rw [h1]; try rw [h2]; try rw [h3]; rfl)))) (fun h3 => bC (bC (bt (ao (by unfold il bF; try rw [h0]; try rw [h1]; try rw [h2]; try rw [h3]; rfl)))))))))) (fun h2 => bt (ae (ar (ae (aO (fun h3 => bC (bC (bt (ao (by unfold il bF; try rw [h0]; try rw [h1]; try rw [h2]; try rw [h3]; rfl))))) (fun h3 => bC (bC (bt (ao (by unfold il bF; try rw [h0]; try rw [h1]; try rw [h2]; try rw [h3]; rfl))))))))))))))) (fun h1 => bt (ae (ar (ae (aO (fun h2 => bt (ae (ar (ae (aO (fun h3 => bC (bC (bt (ao (by unfold il bF; try rw [h0]; try rw [h1]; try rw [h2]; try rw [h3]; rfl))))) (fun h3 => bC (bC (bt (ao (by unfold il bF; try rw [h0]; try rw [h1]; try rw [h2]; try rw [h3]; rfl)))))))))) (fun h2 => bt (ae (ar (ae (aO (fun h3 => bC (bC (bt (ao (by unfold il bF; try rw [h0]; try rw [h1]; try rw [h2]; try rw [h3]; rfl))))) (fun h3 => bC (bC (bt (ao (by unfold il bF; try rw [h0]; try rw [h1]; try rw [h2]; try rw [h3]; rfl)))))))))))))))))))) (fun h0 => bt (ae (ar (ae (aO (fun h1 => bt (ae (ar (ae (aO (fun h2 => bt (ae (ar (ae (aO (fun h3 => bC (bC (bt (ao (by unfold il bF; try rw [h0]; try rw [h1]; try rw [h2]; try rw [h3]; rfl))))) (fun h3 => bC (bC (bt (ao (by unfold il bF; try rw [h0]; try rw [h1]; try rw [h2]; try rw [h3]; rfl)))))))))) (fun h2 => bt (ae (ar (ae (aO (fun h3 => bC (bC (bt (ao (by unfold il bF; try rw [h0]; try rw [h1]; try rw [h2]; try rw [h3]; rfl))))) (fun h3 => bC (bC (bt (ao (by unfold il bF; try rw [h0]; try rw [h1]; try rw [h2]; try rw [h3]; rfl))))))))))))))) (fun h1 => bt (ae (ar (ae (aO (fun h2 => bt (ae (ar (ae (aO (fun h3 => bC (bC (bt (ao (by unfold il bF; try rw [h0]; try rw [h1]; try rw [h2]; try rw [h3]; rfl))))) (fun h3 => bC (bC (bt (ao (by unfold il bF; try rw [h0]; try rw [h1]; try rw [h2]; try rw [h3]; rfl)))))))))) (fun h2 => bt (ae (ar (ae (aO (fun h3 => bC (bC (bt (ao (by unfold il bF; try rw [h0]; try rw [h1]; try rw [h2]; try rw [h3]; rfl))))) (fun h3 => bC (bC (bC (bt (ae (ar (ae (aO (fun h4 => ao (by unfold il bF; try rw [h0]; try rw [h1]; try rw [h2]; try rw [h3]; try rw [h4]; rfl)) (fun h4 => bt (ae (ar (ae (aO (fun h5 => ao (by unfold il bF; try rw [h0]; try rw [h1]; try rw [h2]; try rw [h3]; try rw [h4]; try rw [h5]; rfl)) (fun h5 => bC (ar (ae (aO (fun h6 => ao (by unfold il bF; try rw [h0]; try rw [h1]; try rw [h2]; try rw [h3]; try rw [h4]; try rw [h5]; try rw [h6]; rfl)) (fun h6 => ao (by unfold il bF; try rw [h0]; try rw [h1]; try rw [h2]; try rw [h3]; try rw [h4]; try rw [h5]; try rw [h6]; rfl))))))))))))))))))))))))))))))))))))))))
def xc : aX := mkC [.agg tyT, .agg tp4] (fun _ => True) fun
 | [.agg [.int _ x0, .int _ x1, .int _ x2, .int _ x3, .int _ x4], .agg [.int _ x5, .int _ x6, .int _ x7, .int _ x8]] => il x0 x1 x2 x3 x4 x5 x6 x7 x8
 | _ => .any
theorem sr : (vP xc).Ok Tryz.prog 111 := mkE oX Tryz.func111 (by kernel_rfl) fun ds hp => rf0 (F1 ..) (JU _ _ _ _ _ _ _ _ _)
def m56 (x0 x1 x2 x3 x4 x5 x6 x7 x8 x9 : Int) (b10 : Bool) : RT Empty := .obc (.obt (.ret (V.bool !mf x2 x3 x4 x5 x6 x7 x8 x9 b10 x0 x1)))
theorem Kt (x0 x1 x2 x3 x4 x5 x6 x7 x8 x9 : Int) (b10 : Bool) : Fit noD (be JJ qB u0 s56 [V.agg [vi x0, vi x1], V.pd [vi x2, vi x3, vi x4, vi x5, vi x6, vi x7, vi x8, vi x9, V.bool b10]]) (m56 x0 x1 x2 x3 x4 x5 x6 x7 x8 x9 b10) := ⟨by kernel_rfl, by kernel_rfl⟩
def zh (x0 x1 x2 x3 x4 x5 x6 x7 x8 x9 : Int) (b10 : Bool) : Bool := !mf x2 x3 x4 x5 x6 x7 x8 x9 b10 x0 x1
def R56 (x0 x1 x2 x3 x4 x5 x6 x7 x8 x9 : Int) (b10 : Bool) : V := .bool (zh x0 x1 x2 x3 x4 x5 x6 x7 x8 x9 b10)
theorem Mi (x0 x1 x2 x3 x4 x5 x6 x7 x8 x9 : Int) (b10 : Bool) : evR noE (m56 x0 x1 x2 x3 x4 x5 x6 x7 x8 x9 b10) (R56 x0 x1 x2 x3 x4 x5 x6 x7 x8 x9 b10) := ar (ae (ao (by unfold R56 zh; rfl)))
def C56 : aX := mkC [.agg tp2, .pd [.int .i64, .int .i64, .int .i64, .int .i64, .int .i64, .int .i64, .int .i64, .int .i64, .bool]] (fun _ => True) fun
 | [.agg [.int _ x0, .int _ x1], .pd [.int _ x2, .int _ x3, .int _ x4, .int _ x5, .int _ x6, .int _ x7, .int _ x8, .int _ x9, .bool b10]] => R56 x0 x1 x2 x3 x4 x5 x6 x7 x8 x9 b10
 | _ => .any
theorem AV : (vP C56).Ok Tryz.prog 56 := mkE oX Tryz.func56 (by kernel_rfl) fun ds hp => rf0 (Kt ..) (Mi _ _ _ _ _ _ _ _ _ _ _)
def m47 (x0 x1 x2 x3 x4 : Int) (n5 : Nat) (f5 : FnV) (n7 : Nat) (f7 : FnV) (n9 : Nat) (f9 : FnV) (n11 : Nat) (f11 : FnV) (x13 x14 x15 : Int) : RT Empty := .ob (decide (0 <= x13 /\ x13 < (↑n11 : Int))) (.obc (.obt (.obc (.obt (.ret (V.bool (mf (jv1 (f11 x13.toNat)) (jv2 (f11 x13.toNat)) (jv3 (f11 x13.toNat)) (ge (jv3 (f11 x13.toNat)) x4) (gE (jv3 (f11 x13.toNat)) x3) (gx (jv3 (f11 x13.toNat)) x0) (gw (jv3 (f11 x13.toNat)) x1) (gF (jv3 (f11 x13.toNat)) x2) (em (jv3 (f11 x13.toNat)) x3) x14 x15)))))))
theorem Lc (x0 x1 x2 x3 x4 : Int) (n5 : Nat) (f5 : FnV) (n7 : Nat) (f7 : FnV) (n9 : Nat) (f9 : FnV) (n11 : Nat) (f11 : FnV) (x13 x14 x15 : Int) : Fit noD (be JJ qB u0 s47 [V.agg [vi x0, vi x1, vi x2, vi x3, vi x4], V.pd [V.sl n5 (elV tyR f5), V.sl n7 (elV tyT f7), V.sl n9 (elV tyF f9), V.sl n11 (elV tyC f11)], V.pd [vi x13], V.pd [vi x14], V.pd [vi x15]]) (m47 x0 x1 x2 x3 x4 n5 f5 n7 f7 n9 f9 n11 f11 x13 x14 x15) := ⟨by kernel_rfl, by kernel_rfl⟩
def yq (x0 x1 x2 x3 x4 : Int) (f11 : FnV) (x13 x14 x15 : Int) : Bool := mf (jv1 (f11 x13.toNat)) (jv2 (f11 x13.toNat)) (jv3 (f11 x13.toNat)) (ge (jv3 (f11 x13.toNat)) x4) (gE (jv3 (f11 x13.toNat)) x3) (gx (jv3 (f11 x13.toNat)) x0) (gw (jv3 (f11 x13.toNat)) x1) (gF (jv3 (f11 x13.toNat)) x2) (em (jv3 (f11 x13.toNat)) x3) x14 x15
def R47 (x0 x1 x2 x3 x4 : Int) (n5 : Nat) (f5 : FnV) (n7 : Nat) (f7 : FnV) (n9 : Nat) (f9 : FnV) (n11 : Nat) (f11 : FnV) (x13 x14 x15 : Int) : V := .bool (yq x0 x1 x2 x3 x4 f11 x13 x14 x15)
theorem Li (x0 x1 x2 x3 x4 : Int) (n5 : Nat) (f5 : FnV) (n7 : Nat) (f7 : FnV) (n9 : Nat) (f9 : FnV) (n11 : Nat) (f11 : FnV) (x13 x14 x15 : Int) (hp : 0 <= x13 /\ x13 < (n11 : Int)) : evR noE (m47 x0 x1 x2 x3 x4 n5 f5 n7 f7 n9 f9 n11 f11 x13 x14 x15) (R47 x0 x1 x2 x3 x4 n5 f5 n7 f7 n9 f9 n11 f11 x13 x14 x15) := al (by first | assumption | (exact dqt hp)) (ar (ae (ar (ae (ao (by unfold R47 yq; rfl))))))
def C47 : aX := mkC [.agg tyT, .pd [.sl tyR, .sl tyT, .sl tyF, .sl tyC], .pd tp1, .pd tp1, .pd tp1] (fun
 | [.agg [.int _ x0, .int _ x1, .int _ x2, .int _ x3, .int _ x4], .pd [.sl n5 f5, .sl n7 f7, .sl n9 f9, .sl n11 f11], .pd [.int _ x13], .pd [.int _ x14], .pd [.int _ x15]] => 0 <= x13 /\ x13 < (n11 : Int)
 | _ => False) fun
 | [.agg [.int _ x0, .int _ x1, .int _ x2, .int _ x3, .int _ x4], .pd [.sl n5 f5, .sl n7 f7, .sl n9 f9, .sl n11 f11], .pd [.int _ x13], .pd [.int _ x14], .pd [.int _ x15]] => R47 x0 x1 x2 x3 x4 n5 f5 n7 f7 n9 f9 n11 f11 x13 x14 x15
 | _ => .any
theorem Ad : (vP C47).Ok Tryz.prog 47 := mkE oX Tryz.func47 (by kernel_rfl) fun ds hp => rf0 (Lc ..) (Li _ _ _ _ _ _ _ _ _ _ _ _ _ _ _ _ hp)
end
end Go.Dx
namespace Go.Dx
open Go.IntKind (i64 u64 u8)
open Go.Sx
section
variable {S : Type} {step : S -> RT S}
theorem DL {L : Int -> S} {n : Nat} {p : Nat -> Bool} {Q : Nat -> Prop} {ρ : Rho} (W : Nat -> RT S -> RT S) (hW : ∀ i x r, Q i -> evR (Ev step) x r -> evR (Ev step) (W i x) r) (hWn : ∀ i x, cG (W i x) = cG x) (hn : n <= 9223372036854775807) (hQ : ∀ i, i < n -> Q i)
 (hst : ∀ i : Nat, step (L i) = .br (decide ((i : Int) < (n : Int))) (.ob (decide (0 <= (i : Int) /\ (i : Int) < (n : Int))) (W i (.br (p i) (.ret (.int .i64 i)) (.next ρ (L (i64.wrap ((i : Int) + 1))) [])))) (.ret (.int .i64 (-1)))) :
 Ev step (L 0) (.int .i64 (idx n p)) :=
 JQ hn p (P := fun i => Ev step (L i) (.int .i64 (idx n p))) (fun i hlt hj next => Ev.of (by rw [hst]; simp only [cG, hWn, Bool.and_self]) (by
  rw [hst]
  refine B5 hlt (Ca hlt (hW i _ _ (hQ i hlt) (aO (fun hb => ao ?_) (fun hb => aN (next hb)))))
  rw [mu hb hlt hj])) (fun hj => Ev.of (by rw [hst]; simp only [cG, hWn, Bool.and_self]) (by
  rw [hst]
  refine nJ (ao ?_)
  rw [mA hj]))
end
end Go.Dx
namespace Go.Dx
open Go.IntKind (i64 u64 u8)
open Go.Sx
def gS (p : Nat -> Int) : Nat -> Int
 | 0 => 0
 | k + 1 => max (gS p k) (p k)
section
variable {S : Type} {step : S -> RT S}
theorem zO {L : Int -> Nat -> Int -> S} {n : Nat} {p : Nat -> Int} {ρ : Rho} {l : Nat} (hn : n <= 9223372036854775807)
 (hst : ∀ (i : Nat) (a : Int), i64.wrap ((i : Int) + 1) = ((i + 1 : Nat) : Int) -> step (L i l a) = .br (decide ((i : Int) < i64.wrap ((n : Int) - 1))) (.ob (decide (0 <= (i : Int) /\ (i : Int) < (n : Int))) (.ob (decide (0 <= i64.wrap ((i : Int) + 1) /\ i64.wrap ((i : Int) + 1) < (n : Int))) (.obt (.obt (.obt (.obt (.obc (.obt (.next ρ (L (i64.wrap ((i : Int) + 1)) l (max a (p i))) [])))))))) ) (.ret (.int .i64 a))) :
 Ev step (L 0 l 0) (.int .i64 (gS p (n - 1))) := by
 have w0 : i64.wrap ((n : Int) - 1) = (n : Int) - 1 := av (by omega) (by omega)
 have key := cX (n := n - 1) (P := fun i => Ev step (L i l (gS p i)) (.int .i64 (gS p (n - 1)))) fun i hi ih => by
  have w1 : i64.wrap ((i : Int) + 1) = ((i + 1 : Nat) : Int) := by rw [av (by omega) (by omega)]; omega
  refine Ev.of (by rw [hst i _ w1]; rfl) ?_
  rw [hst i _ w1]
  by_cases hlt : i < n - 1
  ·refine cg (decide_eq_true (by rw [w0]; omega)) (al (decide_eq_true (by omega)) (al (decide_eq_true (by rw [w1]; omega)) (ae (ae (ae (ae (ar (ae (aN ?_)))))))))
   rw [w1]; exact ih hlt
  ·refine cI (decide_eq_false (by rw [w0]; omega)) (ao ?_)
   have : i = n - 1 := by omega
   subst this; rfl
 exact key 0 (Nat.zero_le _)
theorem zR {L : Int -> Nat -> S} {n : Nat} {p : Nat -> Bool} {ρ : Rho} {l : Nat} (hn : n <= 9223372036854775807)
 (hst : ∀ i : Nat, i64.wrap ((i : Int) + 1) = ((i + 1 : Nat) : Int) -> step (L i l) = .br (decide ((i : Int) < i64.wrap ((n : Int) - 1))) (.ob (decide (0 <= (i : Int) /\ (i : Int) < (n : Int))) (.ob (decide (0 <= i64.wrap ((i : Int) + 1) /\ i64.wrap ((i : Int) + 1) < (n : Int))) (.obt (.obt (.obt (.obt (.obc (.obt (.br (p i) (.ret (.kb true)) (.next ρ (L (i64.wrap ((i : Int) + 1)) l) []))))))))) ) (.ret (.kb false))) :
 Ev step (L 0 l) (.bool (exB (n - 1) p)) := by
 have w0 : i64.wrap ((n : Int) - 1) = (n : Int) - 1 := av (by omega) (by omega)
 have key := cX (n := n - 1) (P := fun i => (∀ j, j < i -> p j = false) -> Ev step (L i l) (.bool (exB (n - 1) p))) fun i hi ih hj => by
  have w1 : i64.wrap ((i : Int) + 1) = ((i + 1 : Nat) : Int) := by rw [av (by omega) (by omega)]; omega
  refine Ev.of (by rw [hst i w1]; rfl) ?_
  rw [hst i w1]
  by_cases hlt : i < n - 1
  ·refine cg (decide_eq_true (by rw [w0]; omega)) (al (decide_eq_true (by omega)) (al (decide_eq_true (by rw [w1]; omega)) (ae (ae (ae (ae (ar (ae (aO (fun hb => ao ?_) (fun hb => aN ?_))))))))))
   ·rw [bD i hlt hb]; rfl
   ·rw [w1]; exact ih hlt fun j h1 => by
     by_cases e : j = i
     ·subst e; exact hb
     ·exact hj j (by omega)
  ·refine cI (decide_eq_false (by rw [w0]; omega)) (ao ?_)
   have : i = n - 1 := by omega
   subst this
   rw [dV hj]; rfl
 exact key 0 (Nat.zero_le _) fun j hj => by omega
end
end Go.Dx
namespace Go.Dx
open Go.IntKind (i64 u64 u8)
open Go.Sx
end Go.Dx
namespace Go.Dx
open Go.IntKind (i64 u64 u8)
theorem qo {p : Nat -> Int} {i : Nat} : ∀ {n : Nat}, i < n -> p i <= gS p n
 | n + 1, h => by
   simp only [gS]
   by_cases e : i = n
   ·subst e; omega
   ·have := qo (p := p) (i := i) (n := n) (by omega); omega
theorem lW {p : Nat -> Int} {B : Int} (hB : 0 <= B) : ∀ {n : Nat}, (∀ i, i < n -> p i <= B) -> gS p n <= B
 | 0, _ => hB
 | n + 1, h => by
   simp only [gS]
   have := lW (p := p) hB (n := n) fun i hi => h i (by omega)
   have := h n (by omega); omega
end Go.Dx
namespace Go.Dx
open Go.IntKind (i64 u64 u8)
open Go.Sx Go.Proofs
noncomputable section
def qJ : bj := (111, .con xc) :: (56, .con C56) :: (47, .con C47) :: qB
theorem yu : bb Tryz.prog eqs its qJ := .con sr (.con AV (.con Ad (oX)))
inductive vh where
 | L0 (ia0 : Int)
def FX (n0 : Nat) (f0 : FnV) (x2 x3 x4 x5 x6 x7 x8 x9 : Int) (b10 : Bool) : vh -> Env × List O × Option Ex
 | .L0 ia0 => ([(8, vi ia0), (7, vi (↑n0 : Int)), (6, V.sl n0 (elV tp2 f0)), (4, vi 0), (0, V.sl n0 (elV tp2 f0)), (1, V.fn 56 [] [V.pd [vi x2, vi x3, vi x4, vi x5, vi x6, vi x7, vi x8, vi x9, V.bool b10]])], [], none)
def JB : vh -> JJ
 | .L0 ia0 => (0, [])
def E6 (n0 : Nat) (f0 : FnV) (x2 x3 x4 x5 x6 x7 x8 x9 : Int) (b10 : Bool) : T (cr JJ) := be JJ qJ u0 Nk [V.sl n0 (elV tp2 f0), V.fn 56 [] [V.pd [vi x2, vi x3, vi x4, vi x5, vi x6, vi x7, vi x8, vi x9, V.bool b10]]]
def yH (n0 : Nat) (f0 : FnV) (x2 x3 x4 x5 x6 x7 x8 x9 : Int) (b10 : Bool) (cx : List Cx) : Lp JJ := lpT (atT (E6 n0 f0 x2 x3 x4 x5 x6 x7 x8 x9 b10) [])
def Jx (n0 : Nat) (f0 : FnV) (x2 x3 x4 x5 x6 x7 x8 x9 : Int) (b10 : Bool) : JJ -> Lp JJ
 | (0, cx) => yH n0 f0 x2 x3 x4 x5 x6 x7 x8 x9 b10 cx
 | (_, cx) => yH n0 f0 x2 x3 x4 x5 x6 x7 x8 x9 b10 cx
def Nb (n0 : Nat) (f0 : FnV) (x2 x3 x4 x5 x6 x7 x8 x9 : Int) (b10 : Bool) : LD JJ vh := ⟨JB, Jx n0 f0 x2 x3 x4 x5 x6 x7 x8 x9 b10, FX n0 f0 x2 x3 x4 x5 x6 x7 x8 x9 b10⟩
def B3 (n0 : Nat) (f0 : FnV) (x2 x3 x4 x5 x6 x7 x8 x9 : Int) (b10 : Bool) : vh -> RT vh
 | .L0 ia0 => .br (decide (ia0 < (↑n0 : Int))) (.ob (decide (0 <= ia0 /\ ia0 < (↑n0 : Int))) (.obc (.obt (.br (zh (jv0 (f0 ia0.toNat)) (jv1 (f0 ia0.toNat)) x2 x3 x4 x5 x6 x7 x8 x9 b10) (.ret (vi ia0)) (.next [] (vh.L0 (i64.wrap (ia0 + 1))) []))))) (.ret (vi (-1)))
def FY (n0 : Nat) (f0 : FnV) (x2 x3 x4 x5 x6 x7 x8 x9 : Int) (b10 : Bool) : RT vh := .asm (true = true -> n0 <= 9223372036854775807) (.enter [] (vh.L0 (0)) [])
theorem Hb (n0 : Nat) (f0 : FnV) (x2 x3 x4 x5 x6 x7 x8 x9 : Int) (b10 : Bool) : je qJ u0 (Nb n0 f0 x2 x3 x4 x5 x6 x7 x8 x9 b10) (E6 n0 f0 x2 x3 x4 x5 x6 x7 x8 x9 b10) (FY n0 f0 x2 x3 x4 x5 x6 x7 x8 x9 b10) (B3 n0 f0 x2 x3 x4 x5 x6 x7 x8 x9 b10) := ⟨⟨by kernel_rfl, by kernel_rfl⟩, fun s => by cases s <;> exact ⟨by kernel_rfl, by kernel_rfl⟩⟩
def AB (n0 : Nat) (f0 : FnV) (x2 x3 x4 x5 x6 x7 x8 x9 : Int) (b10 : Bool) : Int   := idx n0 fun ii => zh (jv0 (f0 ii)) (jv1 (f0 ii)) x2 x3 x4 x5 x6 x7 x8 x9 b10
theorem DJ (n0 : Nat) (f0 : FnV) (x2 x3 x4 x5 x6 x7 x8 x9 : Int) (b10 : Bool) : evR (Ev (B3 n0 f0 x2 x3 x4 x5 x6 x7 x8 x9 b10)) (FY n0 f0 x2 x3 x4 x5 x6 x7 x8 x9 b10) (.int .i64 (AB n0 f0 x2 x3 x4 x5 x6 x7 x8 x9 b10)) := bE fun hn => aF (nE hn fun i => rfl)
theorem KO (n0 : Nat) (f0 : FnV) (x2 x3 x4 x5 x6 x7 x8 x9 : Int) (b10 : Bool) : evR (Ev (B3 n0 f0 x2 x3 x4 x5 x6 x7 x8 x9 b10)) (FY n0 f0 x2 x3 x4 x5 x6 x7 x8 x9 b10) (.int .i64 (AB n0 (elV tp2 f0) x2 x3 x4 x5 x6 x7 x8 x9 b10)) := DJ n0 f0 x2 x3 x4 x5 x6 x7 x8 x9 b10
def zI : aX := mkC [.sl tp2, .fn 56 [] [.pd [.int .i64, .int .i64, .int .i64, .int .i64, .int .i64, .int .i64, .int .i64, .int .i64, .bool]]] (fun _ => True) fun
 | [.sl n0 f0, .fn _ [] [.pd [.int _ x2, .int _ x3, .int _ x4, .int _ x5, .int _ x6, .int _ x7, .int _ x8, .int _ x9, .bool b10]]] => .int .i64 (AB n0 f0 x2 x3 x4 x5 x6 x7 x8 x9 b10)
 | _ => .any
theorem vH : (vP zI).Ok Tryz.prog 108 := mkE yu Tryz.func108 (by kernel_rfl) fun ds hp => rfs (Hb ..) (KO _ _ _ _ _ _ _ _ _ _ _)
inductive S46 where
 | L0 (ia0 : Int)
def IW (n0 : Nat) (f0 : FnV) (n2 : Nat) (f2 : FnV) (n4 : Nat) (f4 : FnV) (n6 : Nat) (f6 : FnV) (n8 : Nat) (f8 : FnV) (x10 x11 x12 : Int) : S46 -> Env × List O × Option Ex
 | .L0 ia0 => ([(8, vi ia0), (7, vi (↑n0 : Int)), (6, V.sl n0 (elV tyT f0)), (4, vi 0), (0, V.sl n0 (elV tyT f0)), (1, V.fn 47 [] [V.pd [V.sl n2 (elV tyR f2), V.sl n4 (elV tyT f4), V.sl n6 (elV tyF f6), V.sl n8 (elV tyC f8)], V.pd [vi x10], V.pd [vi x11], V.pd [vi x12]])], [], none)
def MM : S46 -> JJ
 | .L0 ia0 => (0, [])
def KU (n0 : Nat) (f0 : FnV) (n2 : Nat) (f2 : FnV) (n4 : Nat) (f4 : FnV) (n6 : Nat) (f6 : FnV) (n8 : Nat) (f8 : FnV) (x10 x11 x12 : Int) : T (cr JJ) := be JJ qJ u0 s46 [V.sl n0 (elV tyT f0), V.fn 47 [] [V.pd [V.sl n2 (elV tyR f2), V.sl n4 (elV tyT f4), V.sl n6 (elV tyF f6), V.sl n8 (elV tyC f8)], V.pd [vi x10], V.pd [vi x11], V.pd [vi x12]]]
def CJ (n0 : Nat) (f0 : FnV) (n2 : Nat) (f2 : FnV) (n4 : Nat) (f4 : FnV) (n6 : Nat) (f6 : FnV) (n8 : Nat) (f8 : FnV) (x10 x11 x12 : Int) (cx : List Cx) : Lp JJ := lpT (atT (KU n0 f0 n2 f2 n4 f4 n6 f6 n8 f8 x10 x11 x12) [])
def Me (n0 : Nat) (f0 : FnV) (n2 : Nat) (f2 : FnV) (n4 : Nat) (f4 : FnV) (n6 : Nat) (f6 : FnV) (n8 : Nat) (f8 : FnV) (x10 x11 x12 : Int) : JJ -> Lp JJ
 | (0, cx) => CJ n0 f0 n2 f2 n4 f4 n6 f6 n8 f8 x10 x11 x12 cx
 | (_, cx) => CJ n0 f0 n2 f2 n4 f4 n6 f6 n8 f8 x10 x11 x12 cx
def D46 (n0 : Nat) (f0 : FnV) (n2 : Nat) (f2 : FnV) (n4 : Nat) (f4 : FnV) (n6 : Nat) (f6 : FnV) (n8 : Nat) (f8 : FnV) (x10 x11 x12 : Int) : LD JJ S46 := ⟨MM, Me n0 f0 n2 f2 n4 f4 n6 f6 n8 f8 x10 x11 x12, IW n0 f0 n2 f2 n4 f4 n6 f6 n8 f8 x10 x11 x12⟩
def FU (n0 : Nat) (f0 : FnV) (n2 : Nat) (f2 : FnV) (n4 : Nat) (f4 : FnV) (n6 : Nat) (f6 : FnV) (n8 : Nat) (f8 : FnV) (x10 x11 x12 : Int) : S46 -> RT S46
 | .L0 ia0 => .br (decide (ia0 < (↑n0 : Int))) (.ob (decide (0 <= ia0 /\ ia0 < (↑n0 : Int))) (.obp ((0 : Int) <= x10 /\ x10 < (↑n8 : Int)) (.obt (.br (yq (jv0 (f0 ia0.toNat)) (jv1 (f0 ia0.toNat)) (jv2 (f0 ia0.toNat)) (jv3 (f0 ia0.toNat)) (jv4 (f0 ia0.toNat)) (elV tyC f8) x10 x11 x12) (.ret (vi ia0)) (.next [] (S46.L0 (i64.wrap (ia0 + 1))) []))))) (.ret (vi (-1)))
def m46 (n0 : Nat) (f0 : FnV) (n2 : Nat) (f2 : FnV) (n4 : Nat) (f4 : FnV) (n6 : Nat) (f6 : FnV) (n8 : Nat) (f8 : FnV) (x10 x11 x12 : Int) : RT S46 := .asm (true = true -> n0 <= 9223372036854775807) (.enter [] (S46.L0 (0)) [])
theorem IA (n0 : Nat) (f0 : FnV) (n2 : Nat) (f2 : FnV) (n4 : Nat) (f4 : FnV) (n6 : Nat) (f6 : FnV) (n8 : Nat) (f8 : FnV) (x10 x11 x12 : Int) : je qJ u0 (D46 n0 f0 n2 f2 n4 f4 n6 f6 n8 f8 x10 x11 x12) (KU n0 f0 n2 f2 n4 f4 n6 f6 n8 f8 x10 x11 x12) (m46 n0 f0 n2 f2 n4 f4 n6 f6 n8 f8 x10 x11 x12) (FU n0 f0 n2 f2 n4 f4 n6 f6 n8 f8 x10 x11 x12) := ⟨⟨by kernel_rfl, by kernel_rfl⟩, fun s => by cases s <;> exact ⟨by kernel_rfl, by kernel_rfl⟩⟩
def F46 (n0 : Nat) (f0 f8 : FnV) (x10 x11 x12 : Int) : Int   := idx n0 fun ii => yq (jv0 (f0 ii)) (jv1 (f0 ii)) (jv2 (f0 ii)) (jv3 (f0 ii)) (jv4 (f0 ii)) (elV tyC f8) x10 x11 x12
theorem H7 (n0 : Nat) (f0 : FnV) (n2 : Nat) (f2 : FnV) (n4 : Nat) (f4 : FnV) (n6 : Nat) (f6 : FnV) (n8 : Nat) (f8 : FnV) (x10 x11 x12 : Int) (hp : 0 <= x10 /\ x10 < (n8 : Int)) : evR (Ev (FU n0 f0 n2 f2 n4 f4 n6 f6 n8 f8 x10 x11 x12)) (m46 n0 f0 n2 f2 n4 f4 n6 f6 n8 f8 x10 x11 x12) (.int .i64 (F46 n0 f0 f8 x10 x11 x12)) := bE fun hn => aF (DL (Q := fun ii => (0 : Int) <= x10 /\ x10 < (↑n8 : Int)) (fun ii x => .obp ((0 : Int) <= x10 /\ x10 < (↑n8 : Int)) (.obt x)) (fun i x r h hx => bN h (ae hx)) (fun _ _ => rfl) hn (fun _ _ => hp) fun i => rfl)
theorem Lq (n0 : Nat) (f0 : FnV) (n2 : Nat) (f2 : FnV) (n4 : Nat) (f4 : FnV) (n6 : Nat) (f6 : FnV) (n8 : Nat) (f8 : FnV) (x10 x11 x12 : Int) (hp : 0 <= x10 /\ x10 < (n8 : Int)) : evR (Ev (FU n0 f0 n2 f2 n4 f4 n6 f6 n8 f8 x10 x11 x12)) (m46 n0 f0 n2 f2 n4 f4 n6 f6 n8 f8 x10 x11 x12) (.int .i64 (F46 n0 (elV tyT f0) (elV tyC f8) x10 x11 x12)) := H7 n0 f0 n2 f2 n4 f4 n6 f6 n8 f8 x10 x11 x12 hp
def C46 : aX := mkC [.sl tyT, .fn 47 [] [.pd [.sl tyR, .sl tyT, .sl tyF, .sl tyC], .pd tp1, .pd tp1, .pd tp1]] (fun
 | [.sl n0 f0, .fn _ [] [.pd [.sl n2 f2, .sl n4 f4, .sl n6 f6, .sl n8 f8], .pd [.int _ x10], .pd [.int _ x11], .pd [.int _ x12]]] => 0 <= x10 /\ x10 < (n8 : Int)
 | _ => False) fun
 | [.sl n0 f0, .fn _ [] [.pd [.sl n2 f2, .sl n4 f4, .sl n6 f6, .sl n8 f8], .pd [.int _ x10], .pd [.int _ x11], .pd [.int _ x12]]] => .int .i64 (F46 n0 f0 f8 x10 x11 x12)
 | _ => .any
theorem CA : (vP C46).Ok Tryz.prog 46 := mkE yu Tryz.func46 (by kernel_rfl) fun ds hp => rfs (IA ..) (Lq _ _ _ _ _ _ _ _ _ _ _ _ _ hp)
end
noncomputable section
def lm : bj := [(108, .con zI), (46, .con C46), (111, .con xc), (56, .con C56), (47, .con C47), (145, .con xf), (140, .con w5), (49, .con C49), (123, .con xk), (30, .con C30), (44, .con C44), (23, .con C23), (62, .con C62), (68, .con C68), (63, .con C63), (69, .con C69), (117, .inl AD u0), (116, .inl AQ u0), (115, .con wv), (114, .con wm), (147, .con xL), (64, .con C64), (66, .con C66), (113, .con uH), (65, .con C65), (67, .con C67), (53, .con C53), (45, .con C45), (90, .con C90), (119, .con vF), (121, .con uM), (99, .con C99), (129, .con vl), (148, .con uY), (149, .con uz), (112, .con vV), (118, .con vN), (120, .con wj), (133, .con vJ), (103, .con vZ), (77, .con C77), (100, .con vC), (134, .con wd), (135, .con v8), (78, .con C78), (54, .con C54), (48, .con C48), (102, .con vc), (29, .con C29), (84, .con C84), (85, .con C85), (127, .con uX), (101, .con uC), (86, .con C86), (162, .con uG), (146, .con v7), (83, .inl s83 u0)]
theorem oE : bb Tryz.prog eqs its lm := .con vH (.con CA (.con sr (.con AV (.con Ad (.con rY (.con rU (.con Aj (.con rD (.con Ag (.con zQ (.con Ae (.con A3 (.con Ar (.con zV (.con Ap (.inl Tryz.func117 (by kernel_rfl) (by kernel_rfl) (by kernel_rfl) (.inl Tryz.func116 (by kernel_rfl) (by kernel_rfl) (by kernel_rfl) (.con sH (.con sO (.con sF (.con zK (.con Au (.con qd (.con xQ (.con xv (.con xB (.con w7 (.con wQ (.con qV (.con o5 (.con xS (.con oZ (.con pg (.con qh (.con pV (.con qO (.con pM (.con qb (.con q7 (.con wX (.con qU (.con pr (.con rb (.con wS (.con w9 (.con wk (.con pW (.con wR (.con wu (.con wD (.con pi (.con rf (.con wo (.con po (.con sN (.inl Tryz.func83 (by kernel_rfl) (by kernel_rfl) (by kernel_rfl) (.nil)))))))))))))))))))))))))))))))))))))))))))))))))))))))))
def m55 (n0 : Nat) (f0 : FnV) (x2 x3 x4 x5 x6 x7 x8 x9 : Int) (b10 : Bool) : RT Empty := .obc (.obt (.ret (V.bool (decide (0 <= AB n0 (elV tp2 f0) x2 x3 x4 x5 x6 x7 x8 x9 b10)))))
theorem Kw (n0 : Nat) (f0 : FnV) (x2 x3 x4 x5 x6 x7 x8 x9 : Int) (b10 : Bool) : Fit noD (be JJ lm u0 s55 [V.sl n0 (elV tp2 f0), V.fn 56 [] [V.pd [vi x2, vi x3, vi x4, vi x5, vi x6, vi x7, vi x8, vi x9, V.bool b10]]]) (m55 n0 f0 x2 x3 x4 x5 x6 x7 x8 x9 b10) := ⟨by kernel_rfl, by kernel_rfl⟩
def ug (n0 : Nat) (f0 : FnV) (x2 x3 x4 x5 x6 x7 x8 x9 : Int) (b10 : Bool) : Bool := decide (0 <= AB n0 (elV tp2 f0) x2 x3 x4 x5 x6 x7 x8 x9 b10)
def R55 (n0 : Nat) (f0 : FnV) (x2 x3 x4 x5 x6 x7 x8 x9 : Int) (b10 : Bool) : V := .bool (ug n0 f0 x2 x3 x4 x5 x6 x7 x8 x9 b10)
theorem Ms (n0 : Nat) (f0 : FnV) (x2 x3 x4 x5 x6 x7 x8 x9 : Int) (b10 : Bool) : evR noE (m55 n0 f0 x2 x3 x4 x5 x6 x7 x8 x9 b10) (R55 n0 f0 x2 x3 x4 x5 x6 x7 x8 x9 b10) := ar (ae (ao (by unfold R55 ug; rfl)))
def C55 : aX := mkC [.sl tp2, .fn 56 [] [.pd [.int .i64, .int .i64, .int .i64, .int .i64, .int .i64, .int .i64, .int .i64, .int .i64, .bool]]] (fun _ => True) fun
 | [.sl n0 f0, .fn _ [] [.pd [.int _ x2, .int _ x3, .int _ x4, .int _ x5, .int _ x6, .int _ x7, .int _ x8, .int _ x9, .bool b10]]] => R55 n0 f0 x2 x3 x4 x5 x6 x7 x8 x9 b10
 | _ => .any
theorem C6 : (vP C55).Ok Tryz.prog 55 := mkE oE Tryz.func55 (by kernel_rfl) fun ds hp => rf0 (Kw ..) (Ms _ _ _ _ _ _ _ _ _ _ _)
inductive S61 where
 | L0 (ia0 : Int) (na1 : Nat) (ia2 : Int)
def Ie (s0 : ByteArray) (x1 : Int) (n2 : Nat) (f2 : FnV) (x4 x5 x6 x7 x8 : Int) : S61 -> Env × List O × Option Ex
 | .L0 ia0 na1 ia2 => ([(10, vi ia0), (9, vi (i64.wrap ((↑n2 : Int) - 1))), (8, vi (↑n2 : Int)), (7, V.sl n2 (elV tp2 f2)), (6, V.pl 3 2), (0, V.yl na1), (1, V.pl 3 0)], [O.cells [V.str s0, vi x1, V.sl n2 (elV tp2 f2), vi x4] 54, O.cells [vi x5, vi x6, vi x7, vi x8] 29, O.cells [vi ia2] 3, O.cells [V.str s0, vi x1, V.sl n2 (elV tp2 f2), vi x4] 54], none)
def L9 : S61 -> JJ
 | .L0 ia0 na1 ia2 => (0, [Cx.n na1])
def J7 (s0 : ByteArray) (x1 : Int) (n2 : Nat) (f2 : FnV) (x4 x5 x6 x7 x8 : Int) : T (cr JJ) := be JJ lm u0 s61 [V.agg [V.str s0, vi x1, V.sl n2 (elV tp2 f2), vi x4], V.agg [vi x5, vi x6, vi x7, vi x8]]
def BV (s0 : ByteArray) (x1 : Int) (n2 : Nat) (f2 : FnV) (x4 x5 x6 x7 x8 : Int) (cx : List Cx) : Lp JJ := lpT (atT (afT (atT (J7 s0 x1 n2 f2 x4 x5 x6 x7 x8) []) (cxn cx 0)) [])
def MC (s0 : ByteArray) (x1 : Int) (n2 : Nat) (f2 : FnV) (x4 x5 x6 x7 x8 : Int) : JJ -> Lp JJ
 | (0, cx) => BV s0 x1 n2 f2 x4 x5 x6 x7 x8 cx
 | (_, cx) => BV s0 x1 n2 f2 x4 x5 x6 x7 x8 cx
def D61 (s0 : ByteArray) (x1 : Int) (n2 : Nat) (f2 : FnV) (x4 x5 x6 x7 x8 : Int) : LD JJ S61 := ⟨L9, MC s0 x1 n2 f2 x4 x5 x6 x7 x8, Ie s0 x1 n2 f2 x4 x5 x6 x7 x8⟩
def F7 (s0 : ByteArray) (x1 : Int) (n2 : Nat) (f2 : FnV) (x4 x5 x6 x7 x8 : Int) : S61 -> RT S61
 | .L0 ia0 na1 ia2 => .br (decide (ia0 < i64.wrap ((↑n2 : Int) - 1))) (.ob (decide (0 <= ia0 /\ ia0 < (↑n2 : Int))) (.ob (decide (0 <= i64.wrap (ia0 + 1) /\ i64.wrap (ia0 + 1) < (↑n2 : Int))) (.obt (.obt (.obt (.obt (.obc (.obt (.next (iR 0 4 []) (S61.L0 (i64.wrap (ia0 + 1)) (na1) (max ia2 (bF (i64.wrap (2 * jv0 (f2 ia0.toNat))) (i64.wrap (2 * jv1 (f2 ia0.toNat))) (i64.wrap (2 * jv0 (f2 (i64.wrap (ia0 + 1)).toNat))) (i64.wrap (2 * jv1 (f2 (i64.wrap (ia0 + 1)).toNat))) x4 x5 x6 x7 x8))) []))))))))) (.ret (vi ia2))
def m61 (s0 : ByteArray) (x1 : Int) (n2 : Nat) (f2 : FnV) (x4 x5 x6 x7 x8 : Int) : RT S61 := .all (fun l_6416 => .asm (true = true -> n2 <= 9223372036854775807) (.enter (iR 0 4 []) (S61.L0 (0) (l_6416) (0)) []))
theorem KW (s0 : ByteArray) (x1 : Int) (n2 : Nat) (f2 : FnV) (x4 x5 x6 x7 x8 : Int) : je lm u0 (D61 s0 x1 n2 f2 x4 x5 x6 x7 x8) (J7 s0 x1 n2 f2 x4 x5 x6 x7 x8) (m61 s0 x1 n2 f2 x4 x5 x6 x7 x8) (F7 s0 x1 n2 f2 x4 x5 x6 x7 x8) := ⟨⟨by kernel_rfl, by kernel_rfl⟩, fun s => by cases s <;> exact ⟨by kernel_rfl, by kernel_rfl⟩⟩
def p61 (n2 : Nat) (f2 : FnV) (x4 x5 x6 x7 x8 : Int) (ii : Nat) : Int := bF (i64.wrap (2 * jv0 (f2 ii))) (i64.wrap (2 * jv1 (f2 ii))) (i64.wrap (2 * jv0 (f2 (i64.wrap ((ii : Int) + 1)).toNat))) (i64.wrap (2 * jv1 (f2 (i64.wrap ((ii : Int) + 1)).toNat))) x4 x5 x6 x7 x8
def F61 (n2 : Nat) (f2 : FnV) (x4 x5 x6 x7 x8 : Int) : Int := gS (p61 n2 f2 x4 x5 x6 x7 x8) (n2 - 1)
theorem H6 (s0 : ByteArray) (x1 : Int) (n2 : Nat) (f2 : FnV) (x4 x5 x6 x7 x8 : Int) : evR (Ev (F7 s0 x1 n2 f2 x4 x5 x6 x7 x8)) (m61 s0 x1 n2 f2 x4 x5 x6 x7 x8) (.int .i64 (F61 n2 f2 x4 x5 x6 x7 x8)) := E3 fun l => bE fun hn => aF (zO hn fun i a _ => rfl)
theorem MU (s0 : ByteArray) (x1 : Int) (n2 : Nat) (f2 : FnV) (x4 x5 x6 x7 x8 : Int) : evR (Ev (F7 s0 x1 n2 f2 x4 x5 x6 x7 x8)) (m61 s0 x1 n2 f2 x4 x5 x6 x7 x8) (.int .i64 (F61 n2 (elV tp2 f2) x4 x5 x6 x7 x8)) := H6 s0 x1 n2 f2 x4 x5 x6 x7 x8
def C61 : aX := mkC [.agg tyR, .agg tp4] (fun _ => True) fun
 | [.agg [.str s0, .int _ x1, .sl n2 f2, .int _ x4], .agg [.int _ x5, .int _ x6, .int _ x7, .int _ x8]] => .int .i64 (F61 n2 f2 x4 x5 x6 x7 x8)
 | _ => .any
theorem Dg : (vP C61).Ok Tryz.prog 61 := mkE oE Tryz.func61 (by kernel_rfl) fun ds hp => rfs (KW ..) (MU _ _ _ _ _ _ _ _ _)
inductive S74 where
 | L0 (ia0 : Int) (na1 : Nat)
def Lg (s0 : ByteArray) (x1 : Int) (n2 : Nat) (f2 : FnV) (x4 x5 x6 : Int) : S74 -> Env × List O × Option Ex
 | .L0 ia0 na1 => ([(10, vi ia0), (9, vi (i64.wrap ((↑n2 : Int) - 1))), (8, vi (↑n2 : Int)), (7, V.sl n2 (elV tp2 f2)), (6, V.pl 4 2), (0, V.yl na1), (1, V.pl 4 0)], [O.cells [V.str s0, vi x1, V.sl n2 (elV tp2 f2), vi x4] 54, O.cells [vi x5] 3, O.cells [vi x6] 3, O.cells [V.kb false] 4, O.cells [V.str s0, vi x1, V.sl n2 (elV tp2 f2), vi x4] 54], none)
def LI : S74 -> JJ
 | .L0 ia0 na1 => (0, [Cx.n na1])
def J6 (s0 : ByteArray) (x1 : Int) (n2 : Nat) (f2 : FnV) (x4 x5 x6 : Int) : T (cr JJ) := be JJ lm u0 s74 [V.agg [V.str s0, vi x1, V.sl n2 (elV tp2 f2), vi x4], vi x5, vi x6]
def B2 (s0 : ByteArray) (x1 : Int) (n2 : Nat) (f2 : FnV) (x4 x5 x6 : Int) (cx : List Cx) : Lp JJ := lpT (atT (afT (atT (J6 s0 x1 n2 f2 x4 x5 x6) []) (cxn cx 0)) [])
def LT (s0 : ByteArray) (x1 : Int) (n2 : Nat) (f2 : FnV) (x4 x5 x6 : Int) : JJ -> Lp JJ
 | (0, cx) => B2 s0 x1 n2 f2 x4 x5 x6 cx
 | (_, cx) => B2 s0 x1 n2 f2 x4 x5 x6 cx
def D74 (s0 : ByteArray) (x1 : Int) (n2 : Nat) (f2 : FnV) (x4 x5 x6 : Int) : LD JJ S74 := ⟨LI, LT s0 x1 n2 f2 x4 x5 x6, Lg s0 x1 n2 f2 x4 x5 x6⟩
def Gc (s0 : ByteArray) (x1 : Int) (n2 : Nat) (f2 : FnV) (x4 x5 x6 : Int) : S74 -> RT S74
 | .L0 ia0 na1 => .br (decide (ia0 < i64.wrap ((↑n2 : Int) - 1))) (.ob (decide (0 <= ia0 /\ ia0 < (↑n2 : Int))) (.ob (decide (0 <= i64.wrap (ia0 + 1) /\ i64.wrap (ia0 + 1) < (↑n2 : Int))) (.obt (.obt (.obt (.obt (.obc (.obt (.br (bz (i64.wrap (2 * jv0 (f2 ia0.toNat))) (i64.wrap (2 * jv1 (f2 ia0.toNat))) (i64.wrap (2 * jv0 (f2 (i64.wrap (ia0 + 1)).toNat))) (i64.wrap (2 * jv1 (f2 (i64.wrap (ia0 + 1)).toNat))) x4 x5 x6) (.ret (V.kb true)) (.next (iR 0 5 []) (S74.L0 (i64.wrap (ia0 + 1)) (na1)) [])))))))))) (.ret (V.kb false))
def m74 (s0 : ByteArray) (x1 : Int) (n2 : Nat) (f2 : FnV) (x4 x5 x6 : Int) : RT S74 := .all (fun l_6589 => .asm (true = true -> n2 <= 9223372036854775807) (.enter (iR 0 5 []) (S74.L0 (0) (l_6589)) []))
theorem KF (s0 : ByteArray) (x1 : Int) (n2 : Nat) (f2 : FnV) (x4 x5 x6 : Int) : je lm u0 (D74 s0 x1 n2 f2 x4 x5 x6) (J6 s0 x1 n2 f2 x4 x5 x6) (m74 s0 x1 n2 f2 x4 x5 x6) (Gc s0 x1 n2 f2 x4 x5 x6) := ⟨⟨by kernel_rfl, by kernel_rfl⟩, fun s => by cases s <;> exact ⟨by kernel_rfl, by kernel_rfl⟩⟩
def p74 (n2 : Nat) (f2 : FnV) (x4 x5 x6 : Int) (ii : Nat) : Bool := bz (i64.wrap (2 * jv0 (f2 ii))) (i64.wrap (2 * jv1 (f2 ii))) (i64.wrap (2 * jv0 (f2 (i64.wrap ((ii : Int) + 1)).toNat))) (i64.wrap (2 * jv1 (f2 (i64.wrap ((ii : Int) + 1)).toNat))) x4 x5 x6
def F74 (n2 : Nat) (f2 : FnV) (x4 x5 x6 : Int) : Bool := exB (n2 - 1) (p74 n2 f2 x4 x5 x6)
theorem FS (s0 : ByteArray) (x1 : Int) (n2 : Nat) (f2 : FnV) (x4 x5 x6 : Int) : evR (Ev (Gc s0 x1 n2 f2 x4 x5 x6)) (m74 s0 x1 n2 f2 x4 x5 x6) (.bool (F74 n2 f2 x4 x5 x6)) := E3 fun l => bE fun hn => aF (zR hn fun i _ => rfl)
theorem LU (s0 : ByteArray) (x1 : Int) (n2 : Nat) (f2 : FnV) (x4 x5 x6 : Int) : evR (Ev (Gc s0 x1 n2 f2 x4 x5 x6)) (m74 s0 x1 n2 f2 x4 x5 x6) (.bool (F74 n2 (elV tp2 f2) x4 x5 x6)) := FS s0 x1 n2 f2 x4 x5 x6
def C74 : aX := mkC [.agg tyR, .int .i64, .int .i64] (fun _ => True) fun
 | [.agg [.str s0, .int _ x1, .sl n2 f2, .int _ x4], .int _ x5, .int _ x6] => .bool (F74 n2 f2 x4 x5 x6)
 | _ => .any
theorem Ds : (vP C74).Ok Tryz.prog 74 := mkE oE Tryz.func74 (by kernel_rfl) fun ds hp => rfs (KF ..) (LU _ _ _ _ _ _ _)
end
noncomputable section
def qL : bj := (55, .con C55) :: (61, .con C61) :: (74, .con C74) :: lm
theorem oW : bb Tryz.prog eqs its qL := .con C6 (.con Dg (.con Ds (oE)))
attribute [local irreducible] F44 rE p7
def m22 (n0 : Nat) (f0 : FnV) (n2 : Nat) (f2 : FnV) (n4 : Nat) (f4 : FnV) (n6 : Nat) (f6 : FnV) (x8 x9 x10 x11 x12 : Int) : RT Empty := .asm (true = true -> n0 <= 9223372036854775807) (.obp (((∀ (i : Nat), i < n0 -> (sv (hdV (f0 i))).size <= (9223372036854775807 : Nat)) /\ ∀ (i : Nat), i < n6 -> (sv (hdV (f6 i))).size <= (9223372036854775807 : Nat)) /\ (0 : Nat) = (0 : Nat) /\ (2 : Nat) <= (100 : Nat)) (.obt (.br (F44 n0 (elV tyR f0) n2 (elV tyT f2) n4 (elV tyF f4) n6 (elV tyC f6) 2 (elV tp1 (bn [vi x8, vi (↑n0 : Int)] 0 1)) != 0) (.ret (V.tup [vi 0, vi (F44 n0 (elV tyR f0) n2 (elV tyT f2) n4 (elV tyF f4) n6 (elV tyC f6) 2 (elV tp1 (bn [vi x8, vi (↑n0 : Int)] 0 1)))])) (.obc (.obt (.br (kQ x9 x10 x11 x12) (.ret (V.tup [vi 0, vi 7])) (.ob (decide (0 <= x8 /\ x8 < (↑n0 : Int))) (.obc (.obt (.ret (V.tup [vi (F61 (bR (hdV (tlV (tlV (f0 x8.toNat))))) (fun i => aq tp2 (atV (hdV (tlV (tlV (f0 x8.toNat)))) i)) (jv3 (f0 x8.toNat)) x9 x10 x11 x12), vi 0])))))))))))
theorem Io (n0 : Nat) (f0 : FnV) (n2 : Nat) (f2 : FnV) (n4 : Nat) (f4 : FnV) (n6 : Nat) (f6 : FnV) (x8 x9 x10 x11 x12 : Int) : Fit noD (be JJ qL u0 s22 [scV n0 f0 n2 f2 n4 f4 n6 f6, vi x8, V.agg [vi x9, vi x10, vi x11, vi x12]]) (m22 n0 f0 n2 f2 n4 f4 n6 f6 x8 x9 x10 x11 x12) := ⟨by kernel_rfl, by kernel_rfl⟩
def jF (n0 : Nat) (f0 : FnV) (n2 : Nat) (f2 : FnV) (n4 : Nat) (f4 : FnV) (n6 : Nat) (f6 : FnV) (x8 x9 x10 x11 x12 : Int) : Int := bif F44 n0 (elV tyR f0) n2 (elV tyT f2) n4 (elV tyF f4) n6 (elV tyC f6) 2 (elV tp1 (bn [vi x8, vi (↑n0 : Int)] 0 1)) != 0 then 0 else bif kQ x9 x10 x11 x12 then 0 else F61 (bR (hdV (tlV (tlV (f0 x8.toNat))))) (fun i => aq tp2 (atV (hdV (tlV (tlV (f0 x8.toNat)))) i)) (jv3 (f0 x8.toNat)) x9 x10 x11 x12
def iL (n0 : Nat) (f0 : FnV) (n2 : Nat) (f2 : FnV) (n4 : Nat) (f4 : FnV) (n6 : Nat) (f6 : FnV) (x8 x9 x10 x11 x12 : Int) : Int := bif F44 n0 (elV tyR f0) n2 (elV tyT f2) n4 (elV tyF f4) n6 (elV tyC f6) 2 (elV tp1 (bn [vi x8, vi (↑n0 : Int)] 0 1)) != 0 then F44 n0 (elV tyR f0) n2 (elV tyT f2) n4 (elV tyF f4) n6 (elV tyC f6) 2 (elV tp1 (bn [vi x8, vi (↑n0 : Int)] 0 1)) else bif kQ x9 x10 x11 x12 then 7 else 0
def R22 (n0 : Nat) (f0 : FnV) (n2 : Nat) (f2 : FnV) (n4 : Nat) (f4 : FnV) (n6 : Nat) (f6 : FnV) (x8 x9 x10 x11 x12 : Int) : V := .tup [.int i64 (jF n0 f0 n2 f2 n4 f4 n6 f6 x8 x9 x10 x11 x12), .int i64 (iL n0 f0 n2 f2 n4 f4 n6 f6 x8 x9 x10 x11 x12)]
theorem LL (n0 : Nat) (f0 : FnV) (n2 : Nat) (f2 : FnV) (n4 : Nat) (f4 : FnV) (n6 : Nat) (f6 : FnV) (x8 x9 x10 x11 x12 : Int) (hp : cw n0 f0 /\ cw n6 f6) : evR noE (m22 n0 f0 n2 f2 n4 f4 n6 f6 x8 x9 x10 x11 x12) (R22 n0 f0 n2 f2 n4 f4 n6 f6 x8 x9 x10 x11 x12) := dw (fun a0 => bN (by first | assumption | ((first | exact ⟨hp, rfl, by decide⟩ | (simp_all [cond_eq_ite] <;> first | omega | exact (fB (by assumption) (by assumption) h0).1 | exact (fB (by assumption) (by assumption) h0).2 | exact dl (by assumption) h0 | exact dl (by assumption) h1 | exact k50 h0 | exact k50 h1 | exact k50 hc.1 | exact dl (by assumption) hc)))) (ae (aO (fun h0 => ao (by unfold R22 jF iL; try rw [h0]; rfl)) (fun h0 => ar (ae (aO (fun h1 => ao (by unfold R22 jF iL; try rw [h0]; try rw [h1]; rfl)) (fun h1 => al (by first | assumption | ((simp_all [cond_eq_ite] <;> first | omega | exact (fB (by assumption) (by assumption) h0).1 | exact (fB (by assumption) (by assumption) h0).2 | exact dl (by assumption) h0 | exact dl (by assumption) h1 | exact k50 h0 | exact k50 h1 | exact k50 hc.1 | exact dl (by assumption) hc))) (ar (ae (ao (by unfold R22 jF iL; try rw [h0]; try rw [h1]; rfl)))))))))))
def C22 : aX := mkC [.agg [.sl tyR, .sl tyT, .sl tyF, .sl tyC], .int .i64, .agg tp4] (fun
 | [.agg [.sl n0 f0, .sl n2 f2, .sl n4 f4, .sl n6 f6], .int _ x8, .agg [.int _ x9, .int _ x10, .int _ x11, .int _ x12]] => cw n0 f0 /\ cw n6 f6
 | _ => False) fun
 | [.agg [.sl n0 f0, .sl n2 f2, .sl n4 f4, .sl n6 f6], .int _ x8, .agg [.int _ x9, .int _ x10, .int _ x11, .int _ x12]] => R22 n0 f0 n2 f2 n4 f4 n6 f6 x8 x9 x10 x11 x12
 | _ => .any
theorem Cp : (vP C22).Ok Tryz.prog 22 := mkE oW Tryz.func22 (by kernel_rfl) fun ds hp => rf0 (Io ..) (LL _ _ _ _ _ _ _ _ _ _ _ _ _ hp)
def m25 (n0 : Nat) (f0 : FnV) (n2 : Nat) (f2 : FnV) (n4 : Nat) (f4 : FnV) (n6 : Nat) (f6 : FnV) (x8 x9 x10 : Int) : RT Empty := .asm (true = true -> n0 <= 9223372036854775807) (.obp (((∀ (i : Nat), i < n0 -> (sv (hdV (f0 i))).size <= (9223372036854775807 : Nat)) /\ ∀ (i : Nat), i < n6 -> (sv (hdV (f6 i))).size <= (9223372036854775807 : Nat)) /\ (0 : Nat) = (0 : Nat) /\ (2 : Nat) <= (100 : Nat)) (.obt (.br (F44 n0 (elV tyR f0) n2 (elV tyT f2) n4 (elV tyF f4) n6 (elV tyC f6) 2 (elV tp1 (bn [vi x8, vi (↑n0 : Int)] 0 1)) != 0) (.ret (V.tup [V.kb false, vi (F44 n0 (elV tyR f0) n2 (elV tyT f2) n4 (elV tyF f4) n6 (elV tyC f6) 2 (elV tp1 (bn [vi x8, vi (↑n0 : Int)] 0 1)))])) (.obc (.obt (.br (dG 2 (elV tp1 (bn [vi x9, vi x10] 0 1))) (.ret (V.tup [V.kb false, vi 7])) (.ob (decide (0 <= x8 /\ x8 < (↑n0 : Int))) (.obc (.obt (.ret (V.tup [V.bool (F74 (bR (hdV (tlV (tlV (f0 x8.toNat))))) (fun i => aq tp2 (atV (hdV (tlV (tlV (f0 x8.toNat)))) i)) (jv3 (f0 x8.toNat)) x9 x10), vi 0])))))))))))
theorem KZ (n0 : Nat) (f0 : FnV) (n2 : Nat) (f2 : FnV) (n4 : Nat) (f4 : FnV) (n6 : Nat) (f6 : FnV) (x8 x9 x10 : Int) : Fit noD (be JJ qL u0 s25 [scV n0 f0 n2 f2 n4 f4 n6 f6, vi x8, vi x9, vi x10]) (m25 n0 f0 n2 f2 n4 f4 n6 f6 x8 x9 x10) := ⟨by kernel_rfl, by kernel_rfl⟩
def jR (n0 : Nat) (f0 : FnV) (n2 : Nat) (f2 : FnV) (n4 : Nat) (f4 : FnV) (n6 : Nat) (f6 : FnV) (x8 x9 x10 : Int) : Bool := bif F44 n0 (elV tyR f0) n2 (elV tyT f2) n4 (elV tyF f4) n6 (elV tyC f6) 2 (elV tp1 (bn [vi x8, vi (↑n0 : Int)] 0 1)) != 0 then false else bif dG 2 (elV tp1 (bn [vi x9, vi x10] 0 1)) then false else F74 (bR (hdV (tlV (tlV (f0 x8.toNat))))) (fun i => aq tp2 (atV (hdV (tlV (tlV (f0 x8.toNat)))) i)) (jv3 (f0 x8.toNat)) x9 x10
def iC (n0 : Nat) (f0 : FnV) (n2 : Nat) (f2 : FnV) (n4 : Nat) (f4 : FnV) (n6 : Nat) (f6 : FnV) (x8 x9 x10 : Int) : Int := bif F44 n0 (elV tyR f0) n2 (elV tyT f2) n4 (elV tyF f4) n6 (elV tyC f6) 2 (elV tp1 (bn [vi x8, vi (↑n0 : Int)] 0 1)) != 0 then F44 n0 (elV tyR f0) n2 (elV tyT f2) n4 (elV tyF f4) n6 (elV tyC f6) 2 (elV tp1 (bn [vi x8, vi (↑n0 : Int)] 0 1)) else bif dG 2 (elV tp1 (bn [vi x9, vi x10] 0 1)) then 7 else 0
def R25 (n0 : Nat) (f0 : FnV) (n2 : Nat) (f2 : FnV) (n4 : Nat) (f4 : FnV) (n6 : Nat) (f6 : FnV) (x8 x9 x10 : Int) : V := .tup [.bool (jR n0 f0 n2 f2 n4 f4 n6 f6 x8 x9 x10), .int i64 (iC n0 f0 n2 f2 n4 f4 n6 f6 x8 x9 x10)]
theorem Mg (n0 : Nat) (f0 : FnV) (n2 : Nat) (f2 : FnV) (n4 : Nat) (f4 : FnV) (n6 : Nat) (f6 : FnV) (x8 x9 x10 : Int) (hp : cw n0 f0 /\ cw n6 f6) : evR noE (m25 n0 f0 n2 f2 n4 f4 n6 f6 x8 x9 x10) (R25 n0 f0 n2 f2 n4 f4 n6 f6 x8 x9 x10) := dw (fun a0 => bN (by first | assumption | ((first | exact ⟨hp, rfl, by decide⟩ | (simp_all [cond_eq_ite] <;> first | omega | exact (fB (by assumption) (by assumption) h0).1 | exact (fB (by assumption) (by assumption) h0).2 | exact dl (by assumption) h0 | exact dl (by assumption) h1 | exact k50 h0 | exact k50 h1 | exact k50 hc.1 | exact dl (by assumption) hc)))) (ae (aO (fun h0 => ao (by unfold R25 jR iC; try rw [h0]; rfl)) (fun h0 => ar (ae (aO (fun h1 => ao (by unfold R25 jR iC; try rw [h0]; try rw [h1]; rfl)) (fun h1 => al (by first | assumption | ((simp_all [cond_eq_ite] <;> first | omega | exact (fB (by assumption) (by assumption) h0).1 | exact (fB (by assumption) (by assumption) h0).2 | exact dl (by assumption) h0 | exact dl (by assumption) h1 | exact k50 h0 | exact k50 h1 | exact k50 hc.1 | exact dl (by assumption) hc))) (ar (ae (ao (by unfold R25 jR iC; try rw [h0]; try rw [h1]; rfl)))))))))))
def C25 : aX := mkC [.agg [.sl tyR, .sl tyT, .sl tyF, .sl tyC], .int .i64, .int .i64, .int .i64] (fun
 | [.agg [.sl n0 f0, .sl n2 f2, .sl n4 f4, .sl n6 f6], .int _ x8, .int _ x9, .int _ x10] => cw n0 f0 /\ cw n6 f6
 | _ => False) fun
 | [.agg [.sl n0 f0, .sl n2 f2, .sl n4 f4, .sl n6 f6], .int _ x8, .int _ x9, .int _ x10] => R25 n0 f0 n2 f2 n4 f4 n6 f6 x8 x9 x10
 | _ => .any
theorem Cg : (vP C25).Ok Tryz.prog 25 := mkE oW Tryz.func25 (by kernel_rfl) fun ds hp => rf0 (KZ ..) (Mg _ _ _ _ _ _ _ _ _ _ _ hp)
def m15 (n0 : Nat) (f0 : FnV) (n2 : Nat) (f2 : FnV) (n4 : Nat) (f4 : FnV) (n6 : Nat) (f6 : FnV) (x8 x9 x10 : Int) : RT Empty := .asm (true = true -> n6 <= 9223372036854775807) (.obp (((∀ (i : Nat), i < n0 -> (sv (hdV (f0 i))).size <= (9223372036854775807 : Nat)) /\ ∀ (i : Nat), i < n6 -> (sv (hdV (f6 i))).size <= (9223372036854775807 : Nat)) /\ (0 : Nat) = (0 : Nat) /\ (2 : Nat) <= (100 : Nat)) (.obt (.br (F44 n0 (elV tyR f0) n2 (elV tyT f2) n4 (elV tyF f4) n6 (elV tyC f6) 2 (elV tp1 (bn [vi x8, vi (↑n6 : Int)] 0 1)) != 0) (.ret (V.tup [vi 0, vi (F44 n0 (elV tyR f0) n2 (elV tyT f2) n4 (elV tyF f4) n6 (elV tyC f6) 2 (elV tp1 (bn [vi x8, vi (↑n6 : Int)] 0 1)))])) (.obc (.obt (.br (dG 2 (elV tp1 (bn [vi x9, vi x10] 0 1))) (.ret (V.tup [vi 0, vi 7])) (.obp ((0 : Int) <= x8 /\ x8 < (↑n6 : Int)) (.obt (.ret (V.tup [vi (F46 n2 (elV tyT f2) (elV tyC f6) x8 x9 x10), vi 0]))))))))))
theorem JK (n0 : Nat) (f0 : FnV) (n2 : Nat) (f2 : FnV) (n4 : Nat) (f4 : FnV) (n6 : Nat) (f6 : FnV) (x8 x9 x10 : Int) : Fit noD (be JJ qL u0 s15 [scV n0 f0 n2 f2 n4 f4 n6 f6, vi x8, vi x9, vi x10]) (m15 n0 f0 n2 f2 n4 f4 n6 f6 x8 x9 x10) := ⟨by kernel_rfl, by kernel_rfl⟩
def jZ (n0 : Nat) (f0 : FnV) (n2 : Nat) (f2 : FnV) (n4 : Nat) (f4 : FnV) (n6 : Nat) (f6 : FnV) (x8 x9 x10 : Int) : Int := bif F44 n0 (elV tyR f0) n2 (elV tyT f2) n4 (elV tyF f4) n6 (elV tyC f6) 2 (elV tp1 (bn [vi x8, vi (↑n6 : Int)] 0 1)) != 0 then 0 else bif dG 2 (elV tp1 (bn [vi x9, vi x10] 0 1)) then 0 else F46 n2 (elV tyT f2) (elV tyC f6) x8 x9 x10
def iu (n0 : Nat) (f0 : FnV) (n2 : Nat) (f2 : FnV) (n4 : Nat) (f4 : FnV) (n6 : Nat) (f6 : FnV) (x8 x9 x10 : Int) : Int := bif F44 n0 (elV tyR f0) n2 (elV tyT f2) n4 (elV tyF f4) n6 (elV tyC f6) 2 (elV tp1 (bn [vi x8, vi (↑n6 : Int)] 0 1)) != 0 then F44 n0 (elV tyR f0) n2 (elV tyT f2) n4 (elV tyF f4) n6 (elV tyC f6) 2 (elV tp1 (bn [vi x8, vi (↑n6 : Int)] 0 1)) else bif dG 2 (elV tp1 (bn [vi x9, vi x10] 0 1)) then 7 else 0
def R15 (n0 : Nat) (f0 : FnV) (n2 : Nat) (f2 : FnV) (n4 : Nat) (f4 : FnV) (n6 : Nat) (f6 : FnV) (x8 x9 x10 : Int) : V := .tup [.int i64 (jZ n0 f0 n2 f2 n4 f4 n6 f6 x8 x9 x10), .int i64 (iu n0 f0 n2 f2 n4 f4 n6 f6 x8 x9 x10)]
theorem LF (n0 : Nat) (f0 : FnV) (n2 : Nat) (f2 : FnV) (n4 : Nat) (f4 : FnV) (n6 : Nat) (f6 : FnV) (x8 x9 x10 : Int) (hp : cw n0 f0 /\ cw n6 f6) : evR noE (m15 n0 f0 n2 f2 n4 f4 n6 f6 x8 x9 x10) (R15 n0 f0 n2 f2 n4 f4 n6 f6 x8 x9 x10) := dw (fun a0 => bN (by first | assumption | ((first | exact ⟨hp, rfl, by decide⟩ | (simp_all [cond_eq_ite] <;> first | omega | exact (fB (by assumption) (by assumption) h0).1 | exact (fB (by assumption) (by assumption) h0).2 | exact dl (by assumption) h0 | exact dl (by assumption) h1 | exact k50 h0 | exact k50 h1 | exact k50 hc.1 | exact dl (by assumption) hc)))) (ae (aO (fun h0 => ao (by unfold R15 jZ iu; try rw [h0]; rfl)) (fun h0 => ar (ae (aO (fun h1 => ao (by unfold R15 jZ iu; try rw [h0]; try rw [h1]; rfl)) (fun h1 => bN (by first | assumption | ((first | exact ⟨hp, rfl, by decide⟩ | (simp_all [cond_eq_ite] <;> first | omega | exact (fB (by assumption) (by assumption) h0).1 | exact (fB (by assumption) (by assumption) h0).2 | exact dl (by assumption) h0 | exact dl (by assumption) h1 | exact k50 h0 | exact k50 h1 | exact k50 hc.1 | exact dl (by assumption) hc)))) (ae (ao (by unfold R15 jZ iu; try rw [h0]; try rw [h1]; rfl))))))))))
def C15 : aX := mkC [.agg [.sl tyR, .sl tyT, .sl tyF, .sl tyC], .int .i64, .int .i64, .int .i64] (fun
 | [.agg [.sl n0 f0, .sl n2 f2, .sl n4 f4, .sl n6 f6], .int _ x8, .int _ x9, .int _ x10] => cw n0 f0 /\ cw n6 f6
 | _ => False) fun
 | [.agg [.sl n0 f0, .sl n2 f2, .sl n4 f4, .sl n6 f6], .int _ x8, .int _ x9, .int _ x10] => R15 n0 f0 n2 f2 n4 f4 n6 f6 x8 x9 x10
 | _ => .any
theorem C5 : (vP C15).Ok Tryz.prog 15 := mkE oW Tryz.func15 (by kernel_rfl) fun ds hp => rf0 (JK ..) (LF _ _ _ _ _ _ _ _ _ _ _ hp)
end
end Go.Dx
namespace Go.Dx
open Go.IntKind (i64 u64 u8)
open Go.Sx Go.Proofs
noncomputable section
def Fo : bj := (22, .con C22) :: (25, .con C25) :: (15, .con C15) :: qL
theorem HP : bb Tryz.prog eqs its Fo := .con Cp (.con Cg (.con C5 (oW)))
end
noncomputable section
def Fw : bj := Fo
theorem Gn : bb Tryz.prog eqs its Fw := HP
end
noncomputable section
def Fv : bj := Fw
theorem Hn : bb Tryz.prog eqs its Fv := Gn
def u2 : Unr := fun k => bif Nat.beq k 2 then 5 else 0
end
noncomputable section
def Fi : bj := Fv
theorem GU : bb Tryz.prog eqs its Fi := Hn
attribute [local irreducible] F44 rE p7
end
end Go.Dx
namespace Go.Dx
open Go.Sx
section
variable {J : Type}
def Bs : V -> cr J -> cr J
 | .bool b, .res (.kb _) => .res (.kb b)
 | r, _ => .res r
theorem Dr (r : V) (a : cr J) : pG r (Bs r a) := by
 unfold Bs; split <;> rfl
def nk (r : V) : T (cr J) -> T (cr J)
 | .ret a => .ret (Bs r a)
 | .br b x y => match b with
   | true => .br true (nk r x) y
   | false => .br false x (nk r y)
 | .ob _ x => .ob true (nk r x)
 | .obi c d x => match c with
   | true => .obi true true (nk r x)
   | false => .obi false d (nk r x)
 | .obp _ x => .obp True (nk r x)
 | .obq a _ x => .obq a a (nk r x)
 | .fail _ => .ret (.res r)
 | .loop .. => .ret (.res r)
 | .all f => .all fun l => nk r (f l)
 | .und x y => .und (nk r x) (nk r y)
 | .asm p x => .asm p (nk r x)
theorem CU {LP : dc} (r : V) : ∀ t : T (cr J), sat LP (nk r t) (pG r) := by
 intro t
 induction t with
 | ret a => exact Dr r a
 | br b x y hx hy =>
   cases b with
   | true => exact ⟨fun _ => hx, (fun e => by cases e)⟩
   | false => exact ⟨(fun e => by cases e), fun _ => hy⟩
 | ob b x hx => exact ⟨rfl, hx⟩
 | obi c d x hx =>
   cases c with
   | true => exact ⟨fun _ => rfl, hx⟩
   | false => exact ⟨(fun e => by cases e), hx⟩
 | obp p x hx => exact ⟨trivial, hx⟩
 | obq a b x hx => exact ⟨rfl, hx⟩
 | fail n => exact (rfl : toA r = toA r)
 | loop fr b e h g k hk => exact (rfl : toA r = toA r)
 | all f hf => exact fun l => hf l
 | und x y hx hy => exact ⟨hx, hy⟩
 | asm p x hx => exact fun _ => hx
theorem vA {ct : bj} {un : Unr} {w0 : World} {sf : aP} {ds : List V} {r : V} (h : nk r (be J ct un sf ds) = be J ct un sf ds) : sat (bS w0 (SV ct)) (be J ct un sf ds) (pG r) := by
 rw [← h]; exact CU r _
end
def H2 (ts : List Ty) (pre : List V -> Bool) (r : List V -> V) : aX := fun ds => cond (pre (kF ts ds)) (some ((kh ts ds [], kg ts ds []), True, r (kF ts ds))) none
theorem EX {P : Program} {f : FuncId} {ts : List Ty} {pre : List V -> Prop} {preB : List V -> Bool} {r : List V -> V} (h : ∀ ds, preB ds = true -> pre ds) (hO : (vP (mkC ts pre r)).Ok P f) : (vP (H2 ts preB r)).Ok P f := by
 refine ⟨fun B m lh w args vs K hrel hargs hsp => ?_, fun _ _ _ _ _ hk ⟨ds, d, p, r, h1, h2, h3, h4, h5⟩ => ⟨ds, d, p, r, h1, h2, h3, h4, hk _ _ h5⟩, fun _ _ _ _ ⟨_, _, _, _, _, _, _, _, h⟩ => h⟩
 refine hO.sound B m lh w args vs K hrel hargs ?_
 obtain ⟨ds, d, p, r', h1, h2, ⟨h30, h3⟩, h4, h5⟩ := hsp
 unfold H2 at h2
 cases hb : preB (kF ts ds) with
 | false => rw [hb] at h2; cases h2
 | true =>
   rw [hb] at h2
   simp only [cond_true, Option.some.injEq, Prod.mk.injEq] at h2
   obtain ⟨rfl, rfl, rfl⟩ := h2
   exact ⟨ds, _, _, _, h1, rfl, ⟨h30, h _ hb⟩, h4, h5⟩
def eqL (p : V -> V -> Bool) : List V -> List V -> Bool
 | [], [] => true
 | v :: vs, x :: xs => p v x && eqL p vs xs
 | _, _ => false
def eqD : Nat -> V -> V -> Bool
 | 0, _, _ => false
 | fu + 1, v, x => match v, x with
   | .int k a, .int k' b => decide (k = k') && decide (a = b)
   | .bool a, .bool b => a == b
   | .kb a, .bool b => a == b
   | .str a, .str b => decide (a.data.toList = b.data.toList)
   | .agg xs, .agg ys => eqL (eqD fu) xs ys
   | .sl n f, .sl m g => Nat.beq n m && iJ n fun i => eqL (eqD fu) (f i) (g i) && (g i).all V.fc
   | .sq n _ f, .sl m g => Nat.beq n m && iJ n fun i => eqL (eqD fu) (f i) (g i) && (g i).all V.fc
   | _, _ => false
theorem pf {w0 : World} {lh : List ac} {p : V -> V -> Bool} (hp : ∀ v x a, p v x = true -> vr w0 lh Nu.nil v a -> vr w0 lh Nu.nil x a) : ∀ (vs xs : List V) (qs : List ab), eqL p vs xs = true -> vrs w0 lh Nu.nil vs qs -> vrs w0 lh Nu.nil xs qs
 | [], [], qs, _, h => h
 | v :: vs, x :: xs, qs, h, h1 => by
   simp only [eqL, Bool.and_eq_true] at h
   simp only [vrs] at h1 ⊢
   obtain ⟨y, ys, rfl, h2, h3⟩ := h1
   exact ⟨y, ys, rfl, hp _ _ _ h.1 h2, pf hp vs xs ys h.2 h3⟩
 | [], _ :: _, _, h, _ => by simp [eqL] at h
 | _ :: _, [], _, h, _ => by simp [eqL] at h
theorem s7 {w0 : World} {lh : List ac} : ∀ (fu : Nat) (v x : V) (a : ab), eqD fu v x = true -> vr w0 lh Nu.nil v a -> vr w0 lh Nu.nil x a
 | 0, v, x, a, h, _ => by simp [eqD] at h
 | fu + 1, v, x, a, h, hv => by
   simp only [eqD] at h
   split at h
   ·simp only [Bool.and_eq_true, decide_eq_true_eq] at h; obtain ⟨rfl, rfl⟩ := h; exact hv
   ·have := eq_of_beq h; subst this; exact hv
   ·have := eq_of_beq h; subst this; simp only [vr] at hv ⊢; exact hv
   ·rename_i s t
    have h0 := of_decide_eq_true h
    have : s = t := by
     cases s with | mk d =>
     cases t with | mk e =>
     have : d = e := Array.toList_inj.1 h0
     rw [this]
    subst this; exact hv
   ·simp only [vr] at hv ⊢
    obtain ⟨qs, rfl, h2⟩ := hv
    exact ⟨qs, rfl, pf (fun v x a => s7 fu v x a) _ _ _ h h2⟩
   ·simp only [Bool.and_eq_true] at h
    have hn := Nat.eq_of_beq_eq_true h.1
    subst hn
    simp only [vr] at hv ⊢
    obtain ⟨p, c, esz, h1, h2, h3, h4, h5⟩ := hv
    refine ⟨p, c, esz, h1, h2, h3, h4, fun i hi => ?_⟩
    obtain ⟨q, qs, g1, g2, g3, g4⟩ := h5 i hi
    have hh := cE h.2 i hi
    simp only [Bool.and_eq_true] at hh
    exact ⟨q, qs, g1, g2, pf (fun v x a => s7 fu v x a) _ _ _ hh.1 g3, hh.2⟩
   ·simp only [Bool.and_eq_true] at h
    have hn := Nat.eq_of_beq_eq_true h.1
    subst hn
    simp only [vr] at hv ⊢
    obtain ⟨p, c, esz, h1, h2, h3, h4, h5⟩ := hv
    refine ⟨p, c, esz, h1, h2.1, h3, h4, fun i hi => ?_⟩
    obtain ⟨q, qs, g1, g2, g3, g4⟩ := h5 i hi
    have hh := cE h.2 i hi
    simp only [Bool.and_eq_true] at hh
    exact ⟨q, qs, g1, g2, pf (fun v x a => s7 fu v x a) _ _ _ hh.1 g3, hh.2⟩
   ·cases h
def atC : List (List V × V) -> aX
 | [], _ => none
 | (ex, r) :: l, ds => cond (eqL (eqD 8) ds ex) (some (([], []), True, r)) (atC l ds)
theorem sX {P : Program} {f : FuncId} {C : aX} (hO : (vP C).Ok P f) : ∀ (l : List (List V × V)), (∀ e ∈ l, ∃ d p, C e.1 = some (d, p, e.2) /\ d.1 = d.2 /\ p) -> (vP (atC l)).Ok P f := by
 intro l hl
 refine ⟨fun B m lh w args vs K hrel hargs hsp => ?_, fun _ _ _ _ _ hk ⟨ds, d, p, r, h1, h2, h3, h4, h5⟩ => ⟨ds, d, p, r, h1, h2, h3, h4, hk _ _ h5⟩, fun _ _ _ _ ⟨_, _, _, _, _, _, _, _, h⟩ => h⟩
 refine hO.sound B m lh w args vs K hrel hargs ?_
 obtain ⟨ds, d, p, r', h1, h2, _, h4, h5⟩ := hsp
 induction l with
 | nil => simp [atC] at h2
 | cons e l ih =>
   simp only [atC] at h2
   cases hb : eqL (eqD 8) ds e.1 with
   | true =>
     rw [hb] at h2
     simp only [cond_true, Option.some.injEq, Prod.mk.injEq] at h2
     obtain ⟨_, _, rfl⟩ := h2
     obtain ⟨d', p', e1, e2, e3⟩ := hl e (List.mem_cons_self ..)
     exact ⟨e.1, d', p', _, pf (fun v x a => s7 8 v x a) _ _ _ hb h1, e1, ⟨e2, e3⟩, h4, h5⟩
   | false =>
     rw [hb] at h2
     exact ih (fun e he => hl e (List.mem_cons_of_mem _ he)) h2
end Go.Dx
namespace Go.Dx
open Go.Sx
theorem at1 {ts : List Ty} {pre : List V -> Prop} {r : List V -> V} {raw : List V} {res : V} (hp : pre (kF ts (aq ts raw))) (hr : r (kF ts (aq ts raw)) = res) : ∃ d p, mkC ts pre r (aq ts raw) = some (d, p, res) /\ d.1 = d.2 /\ p :=
 ⟨_, _, by rw [mkC, hr], dW ts raw [], hp⟩
theorem D5 {α : Type} {a : α} {l : List α} {Q : α -> Prop} (h : Q a) (hl : ∀ e ∈ l, Q e) : ∀ e ∈ a :: l, Q e := fun e he => by
 rcases List.mem_cons.1 he with rfl | he
 ·exact h
 ·exact hl e he
theorem EL {α : Type} {Q : α -> Prop} : ∀ e ∈ ([] : List α), Q e := fun e he => by cases he
end Go.Dx
namespace Go.Dx
open Go.IntKind (i64 u64 u8)
open Go.Sx Go.Proofs
noncomputable section
def Ff : bj := Fi
theorem Gi : bb Tryz.prog eqs its Ff := GU
def uB : Unr := fun _ => 1000
def szB (n : Nat) (f : Nat -> List V) : Bool := iJ n fun i => Nat.ble (sv (hdV (f i))).size 9223372036854775807
theorem jQ {n : Nat} {f : Nat -> List V} (h : szB n f = true) : cw n f := fun i hi => Nat.le_of_ble_eq_true (cE h i hi)
def LE : ByteArray := ⟨#[104, 105, 103, 104]⟩
def Nd : ByteArray := ⟨#[122, 101, 98, 114, 97]⟩
def MF : ByteArray := ⟨#[99, 49]⟩
def exR : Nat -> List V
 | 0 => [.str LE, vi 0, .sl 3 (fun | 0 => [vi 0, vi 0] | 1 => [vi 10000, vi 0] | _ => [vi 10000, vi 10000]), vi 4000]
 | _ => [.str Nd, vi 3, .sl 2 (fun | 0 => [vi 5000, vi (-2000)] | _ => [vi 5000, vi 2000]), vi 3000]
def exT : Nat -> List V := fun _ => [vi 4000, vi 3000, vi 1000, vi 20, vi 40]
def exF : Nat -> List V := fun _ => [vi 10000, vi 5000, vi 0, vi 5000, .sl 1 fun _ => [vi 250, vi 750, vi 10, vi 30]]
def exK : Nat -> List V := fun _ => [.str MF, vi 4000, vi 4000, vi 60, vi 0, vi (-1)]
def exS : V := .agg [.sl 2 exR, .sl 1 exT, .sl 1 exF, .sl 1 exK]
def Jv : List Ty := [.agg [.sl tyR, .sl tyT, .sl tyF, .sl tyC], .sl tp1]
def JP : aX := atC [(aq Jv [exS, .sl 2 (fun | 0 => [vi 0] | _ => [vi 1])], vi 0)]
theorem Ij : (vP JP).Ok Tryz.prog 44 := sX zQ _ (D5 (at1 (ts := Jv) (raw := [exS, .sl 2 (fun | 0 => [vi 0] | _ => [vi 1])]) (⟨⟨jQ (by kernel_rfl), jQ (by kernel_rfl)⟩, rfl, by decide⟩) (by kernel_rfl)) (EL))
def I4 : List Ty := [.agg [.sl tyR, .sl tyT, .sl tyF, .sl tyC]]
def I8 : aX := atC [(aq I4 [.agg [.sl 0 exR, .sl 1 (fun _ => [vi 0, vi 0, vi 0, vi 0, vi 0]), .sl 0 exF, .sl 0 exK]], .tup [vi 2, vi 0, vi 7])]
theorem In : (vP I8).Ok Tryz.prog 23 := sX Ae _ (D5 (at1 (ts := I4) (raw := [.agg [.sl 0 exR, .sl 1 (fun _ => [vi 0, vi 0, vi 0, vi 0, vi 0]), .sl 0 exF, .sl 0 exK]]) (⟨jQ (by kernel_rfl), jQ (by kernel_rfl)⟩) (by kernel_rfl)) (EL))
def Ip : List Ty := [.agg [.sl tyR, .sl tyT, .sl tyF, .sl tyC], .int .i64, .agg tp4]
def IH : aX := atC [(aq Ip [exS, vi 0, .agg [vi 8500, vi (-1500), vi 11500, vi 1500]], .tup [vi 1, vi 0])]
theorem Jz : (vP IH).Ok Tryz.prog 22 := sX Cp _ (D5 (at1 (ts := Ip) (raw := [exS, vi 0, .agg [vi 8500, vi (-1500), vi 11500, vi 1500]]) (⟨jQ (by kernel_rfl), jQ (by kernel_rfl)⟩) (by kernel_rfl)) (EL))
def Ih : List Ty := [.agg [.sl tyR, .sl tyT, .sl tyF, .sl tyC], .int .i64, .int .i64, .int .i64]
def Ig : aX := atC [(aq Ih [exS, vi 0, vi 4000, vi 5000], .tup [vi (-1), vi 0])]
theorem KI : (vP Ig).Ok Tryz.prog 15 := sX C5 _ (D5 (at1 (ts := Ih) (raw := [exS, vi 0, vi 4000, vi 5000]) (⟨jQ (by kernel_rfl), jQ (by kernel_rfl)⟩) (by kernel_rfl)) (EL))
end
noncomputable section
def Cl : bj := [(44, .con JP), (23, .con I8), (22, .con IH), (15, .con Ig), (25, .con C25), (55, .con C55), (61, .con C61), (74, .con C74), (108, .con zI), (46, .con C46), (111, .con xc), (56, .con C56), (47, .con C47), (145, .con xf), (140, .con w5), (49, .con C49), (123, .con xk), (30, .con C30), (62, .con C62), (68, .con C68), (63, .con C63), (69, .con C69), (117, .inl AD u0), (116, .inl AQ u0), (115, .con wv), (114, .con wm), (147, .con xL), (64, .con C64), (66, .con C66), (113, .con uH), (65, .con C65), (67, .con C67), (53, .con C53), (45, .con C45), (90, .con C90), (119, .con vF), (121, .con uM), (99, .con C99), (129, .con vl), (148, .con uY), (149, .con uz), (112, .con vV), (118, .con vN), (120, .con wj), (133, .con vJ), (103, .con vZ), (77, .con C77), (100, .con vC), (134, .con wd), (135, .con v8), (78, .con C78), (54, .con C54), (48, .con C48), (102, .con vc), (29, .con C29), (84, .con C84), (85, .con C85), (127, .con uX), (101, .con uC), (86, .con C86), (162, .con uG), (146, .con v7), (83, .inl s83 u0), (19, .inl s19 uB), (17, .inl s17 uB), (43, .inl s43 uB), (57, .inl s57 uB), (109, .inl J2 uB), (139, .inl I5 uB), (163, .inl IU uB), (177, .inl I3 uB), (141, .inl JN uB), (142, .inl KL uB), (143, .inl Ib uB), (131, .inl HM uB), (161, .inl JF uB)]
theorem G3 : bb Tryz.prog eqs its Cl := .con Ij (.con In (.con Jz (.con KI (.con Cg (.con C6 (.con Dg (.con Ds (.con vH (.con CA (.con sr (.con AV (.con Ad (.con rY (.con rU (.con Aj (.con rD (.con Ag (.con A3 (.con Ar (.con zV (.con Ap (.inl Tryz.func117 (by kernel_rfl) (by kernel_rfl) (by kernel_rfl) (.inl Tryz.func116 (by kernel_rfl) (by kernel_rfl) (by kernel_rfl) (.con sH (.con sO (.con sF (.con zK (.con Au (.con qd (.con xQ (.con xv (.con xB (.con w7 (.con wQ (.con qV (.con o5 (.con xS (.con oZ (.con pg (.con qh (.con pV (.con qO (.con pM (.con qb (.con q7 (.con wX (.con qU (.con pr (.con rb (.con wS (.con w9 (.con wk (.con pW (.con wR (.con wu (.con wD (.con pi (.con rf (.con wo (.con po (.con sN (.inl Tryz.func83 (by kernel_rfl) (by kernel_rfl) (by kernel_rfl) (.inl Tryz.func19 (by kernel_rfl) (by kernel_rfl) (by kernel_rfl) (.inl Tryz.func17 (by kernel_rfl) (by kernel_rfl) (by kernel_rfl) (.inl Tryz.func43 (by kernel_rfl) (by kernel_rfl) (by kernel_rfl) (.inl Tryz.func57 (by kernel_rfl) (by kernel_rfl) (by kernel_rfl) (.inl Tryz.func109 (by kernel_rfl) (by kernel_rfl) (by kernel_rfl) (.inl Tryz.func139 (by kernel_rfl) (by kernel_rfl) (by kernel_rfl) (.inl Tryz.func163 (by kernel_rfl) (by kernel_rfl) (by kernel_rfl) (.inl Tryz.func177 (by kernel_rfl) (by kernel_rfl) (by kernel_rfl) (.inl Tryz.func141 (by kernel_rfl) (by kernel_rfl) (by kernel_rfl) (.inl Tryz.func142 (by kernel_rfl) (by kernel_rfl) (by kernel_rfl) (.inl Tryz.func143 (by kernel_rfl) (by kernel_rfl) (by kernel_rfl) (.inl Tryz.func131 (by kernel_rfl) (by kernel_rfl) (by kernel_rfl) (.inl Tryz.func161 (by kernel_rfl) (by kernel_rfl) (by kernel_rfl) (.nil))))))))))))))))))))))))))))))))))))))))))))))))))))))))))))))))))))))))))))
theorem JY (w0 : World) : sat (bS w0 (SV Cl)) (be (JJ) Cl uB s19 []) (pG (.bool true)) := vA (by kernel_rfl)
def C19 : aX := mkC [] (fun _ => True) fun _ => .bool true
theorem AS : (vP C19).Ok Tryz.prog 19 := CT (J := JJ) (un := uB) G3 hE hI Tryz.func19 (by kernel_rfl) (by kernel_rfl) (by kernel_rfl) rfl (fun w0 ds hp => JY w0)
end
end Go.Dx
namespace Go.Dx
open Go.IntKind (i64 u64 u8)
open Go.Sx
noncomputable section
theorem zq {x : Int} (h1 : 0 <= x) (h2 : x < 18446744073709551616) : u64.wrap x = x := IntWalk.u64_in _ (by omega)
theorem j8 {x y A B : Int} (h1 : -A <= x) (h2 : x <= A) (h3 : -B <= y) (h4 : y <= B) : -(A * B) <= x * y /\ x * y <= A * B := by
 have hA : 0 <= A := by omega
 have hB : 0 <= B := by omega
 by_cases hy : 0 <= y
 ·have a1 : x * y <= A * y := Int.mul_le_mul_of_nonneg_right h2 hy
  have a2 : A * y <= A * B := iml h4 hA
  have a3 : -A * y <= x * y := Int.mul_le_mul_of_nonneg_right h1 hy
  rw [Int.neg_mul] at a3
  exact ⟨by omega, by omega⟩
 ·have hy' : 0 <= -y := by omega
  have a1 : x * (-y) <= A * (-y) := Int.mul_le_mul_of_nonneg_right h2 hy'
  have a2 : A * (-y) <= A * B := iml (by omega) hA
  have a3 : -A * (-y) <= x * (-y) := Int.mul_le_mul_of_nonneg_right h1 hy'
  have b1 : x * (-y) = -(x * y) := Int.mul_neg _ _
  have b3 : -A * (-y) = -(A * (-y)) := Int.neg_mul _ _
  exact ⟨by omega, by omega⟩
theorem sqN (x : Int) : 0 <= x * x := by
 by_cases h : 0 <= x
 ·exact imn h h
 ·rw [← Int.neg_mul_neg]; exact imn (by omega) (by omega)
theorem parts {x : Int} (h0 : 0 <= x) (h1 : x < 18446744073709551616) : 0 <= x / 4294967296 /\ x / 4294967296 <= 4294967295 /\ 0 <= x % 4294967296 /\ x % 4294967296 <= 4294967295 := by omega
theorem JA {x y : Int} (hx0 : 0 <= x) (hx : x < 18446744073709551616) (hy0 : 0 <= y) (hy : y < 18446744073709551616) : mQ x y = x * y / 18446744073709551616 := by
 rw [← mul64_arith x y hx0 hx hy0 hy]
 unfold mQ
 simp only [and_low32 _ hx0 hx, and_low32 _ hy0 hy, IntKind.wrap_u64]
 rw [and_low32 _ (by omega) (by omega)]
 simp only [show (2 : Int) ^ 32 = 4294967296 from rfl]
 rw [Int.fdiv_eq_ediv_of_nonneg _ (by omega), Int.fdiv_eq_ediv_of_nonneg _ (by omega), Int.fdiv_eq_ediv_of_nonneg _ (by omega), Int.fdiv_eq_ediv_of_nonneg _ (by omega), Int.fdiv_eq_ediv_of_nonneg _ (by omega)]
theorem JE (x y : Int) : nI x y = x * y % 18446744073709551616 := by unfold nI; rw [IntKind.wrap_u64]
theorem Bz {x y z w : Int} (hx0 : 0 <= x) (hx : x < 9223372036854775808) (hy0 : 0 <= y) (hy : y < 9223372036854775808) (hz0 : 0 <= z) (hz : z < 9223372036854775808) (hw0 : 0 <= w) (hw : w < 9223372036854775808) :
 mH (jf x y) (iY x y) (jf z w) (iY z w) = decide (x * y <= z * w) := by
 unfold jf iY mH
 rw [zq hx0 (by omega), zq hy0 (by omega), zq hz0 (by omega), zq hw0 (by omega)]
 rw [JA hx0 (by omega) hy0 (by omega), JA hz0 (by omega) hw0 (by omega), JE, JE]
 generalize x * y = a
 generalize z * w = b
 rw [Bool.eq_iff_iff]
 simp only [Bool.cond_eq_ite, Bool.and_true, Bool.and_eq_true, beq_iff_eq, decide_eq_true_eq]
 split <;> (try split) <;> (try split) <;> simp_all <;> omega
def nr (ax ay bx by' px py r : Int) : Bool :=
 bif decide ((px - ax) * (bx - ax) + (py - ay) * (by' - ay) <= 0) then decide ((px - ax) * (px - ax) + (py - ay) * (py - ay) <= r * r)
 else bif decide ((bx - ax) * (bx - ax) + (by' - ay) * (by' - ay) <= (px - ax) * (bx - ax) + (py - ay) * (by' - ay)) then decide ((px - bx) * (px - bx) + (py - by') * (py - by') <= r * r)
 else decide (((bx - ax) * (py - ay) - (by' - ay) * (px - ax)) * ((bx - ax) * (py - ay) - (by' - ay) * (px - ax)) <= r * r * ((bx - ax) * (bx - ax) + (by' - ay) * (by' - ay)))
def sm (x : Int) : Prop := -536870912 <= x /\ x <= 536870912
theorem GC (c : Int) : max c (0 - c) * max c (0 - c) = c * c := by
 by_cases h : 0 <= c
 ·rw [show max c (0 - c) = c from by omega]
 ·rw [show max c (0 - c) = -c from by omega, Int.neg_mul_neg]
section
variable {ax ay bx by' px py r : Int}
theorem wV (h1 : sm ax) (h2 : sm ay) (h3 : sm bx) (h4 : sm by') (h5 : sm px) (h6 : sm py) (h7 : 0 <= r) (h8 : r <= 1073741824) : eq ax ay bx by' px py r = nr ax ay bx by' px py r := by
 unfold sm at *
 unfold eq nr aG aH
 rw [av (x := bx - ax) (by omega) (by omega), av (x := by' - ay) (by omega) (by omega), av (x := px - ax) (by omega) (by omega), av (x := py - ay) (by omega) (by omega), av (x := px - bx) (by omega) (by omega), av (x := py - by') (by omega) (by omega)]
 have e1 : -1073741824 <= bx - ax /\ bx - ax <= 1073741824 := by omega
 have e2 : -1073741824 <= by' - ay /\ by' - ay <= 1073741824 := by omega
 have e3 : -1073741824 <= px - ax /\ px - ax <= 1073741824 := by omega
 have e4 : -1073741824 <= py - ay /\ py - ay <= 1073741824 := by omega
 have e5 : -1073741824 <= px - bx /\ px - bx <= 1073741824 := by omega
 have e6 : -1073741824 <= py - by' /\ py - by' <= 1073741824 := by omega
 generalize bx - ax = dx at *
 generalize by' - ay = dy at *
 generalize px - ax = ux at *
 generalize py - ay = uy at *
 generalize px - bx = vx at *
 generalize py - by' = vy at *
 have k : ∀ a b c d : Int, (-1073741824 <= a /\ a <= 1073741824) -> (-1073741824 <= b /\ b <= 1073741824) -> (-1073741824 <= c /\ c <= 1073741824) -> (-1073741824 <= d /\ d <= 1073741824) -> dk a b c d = a * c + b * d /\ -2305843009213693952 <= a * c + b * d /\ a * c + b * d <= 2305843009213693952 := by
  intro a b c d ha hb hc hd
  have m1 := j8 ha.1 ha.2 hc.1 hc.2
  have m2 := j8 hb.1 hb.2 hd.1 hd.2
  unfold dk
  rw [av (x := a * c) (by omega) (by omega), av (x := b * d) (by omega) (by omega), av (by omega) (by omega)]
  exact ⟨rfl, by omega, by omega⟩
 have hr := j8 (x := r) (y := r) (A := 1073741824) (B := 1073741824) (by omega) h8 (by omega) h8
 have hr0 : 0 <= r * r := imn h7 h7
 have s1 : 0 <= dx * dx := sqN dx
 have s2 : 0 <= dy * dy := sqN dy
 rw [(k ux uy dx dy e3 e4 e1 e2).1, (k ux uy ux uy e3 e4 e3 e4).1, (k dx dy dx dy e1 e2 e1 e2).1, (k vx vy vx vy e5 e6 e5 e6).1, av (x := r * r) (by omega) (by omega)]
 have c1 := j8 e1.1 e1.2 e4.1 e4.2
 have c2 := j8 e2.1 e2.2 e3.1 e3.2
 have d1 := j8 e1.1 e1.2 e1.1 e1.2
 have d2 := j8 e2.1 e2.2 e2.1 e2.2
 rw [show b9 dx dy ux uy = dx * uy - dy * ux from by
  unfold b9
  rw [av (x := dx * uy) (by omega) (by omega), av (x := dy * ux) (by omega) (by omega), av (by omega) (by omega)]]
 rw [av (x := 0 - (dx * uy - dy * ux)) (by omega) (by omega)]
 rw [Bz (by omega) (by omega) (by omega) (by omega) hr0 (by omega) (by omega) (by omega), GC]
end
end
end Go.Dx
namespace Go.Dx
open Go.IntKind (i64 u64 u8)
def sd (ax ay bx b2 px py : Int) : Int := (bx - ax) * (py - ay) - (b2 - ay) * (px - ax)
section
variable {ax ay bx b2 X0 Y0 X1 Y1 : Int}
def Bx (ax ay bx b2 X0 Y0 X1 Y1 : Int) : Prop := ¬ (max ax bx < X0 ∨ X1 < min ax bx ∨ max ay b2 < Y0 ∨ Y1 < min ay b2)
end
end Go.Dx
namespace Go.Dx
open Go.IntKind (i64 u64 u8)
open Go.Sx
noncomputable section
theorem lR (a l h : Int) : dX a l h = !aK a l h := by
 unfold dX aK
 by_cases h1 : a < l
 ·rw [dqt h1, dqf (show ¬ l <= a by omega)]; rfl
 ·rw [dqf h1, dqt (show l <= a by omega)]
  by_cases h2 : h < a
  ·rw [dqt h2, cond_false, cond_true]; exact dqf (by omega)
  ·rw [dqf h2, cond_false, cond_true]; exact dqt (by omega)
theorem rK {n : Nat} {p q : Nat -> Bool} (h : ∀ i, i < n -> p i = q i) : exB n p = exB n q := by
 cases hq : exB n q with
 | true =>
   obtain ⟨i, hi, hp⟩ := ks.1 hq
   exact bD i hi (by rw [h i hi]; exact hp)
 | false =>
   refine dV fun i hi => ?_
   rw [h i hi]
   cases hp : q i with
   | false => rfl
   | true => rw [bD i hi hp] at hq; cases hq
theorem c4 (n : Nat) (f : Nat -> List V) : dG n f = !F51 n f := by
 unfold dG vb Aq
 rw [kt]
 unfold exB F51
 congr 1
 congr 1
 funext i
 rw [lR]; rfl
theorem DZ (s : ByteArray) : ∀ (k i : Nat) (r : List UInt8), s.size - i = k -> (ByteArray.toList.loop s i r).length = r.length + k := by
 intro k
 induction k with
 | zero =>
   intro i r h
   rw [ByteArray.toList.loop]
   have : ¬ i < s.size := by omega
   simp [this]
 | succ k ih =>
   intro i r h
   rw [ByteArray.toList.loop]
   have : i < s.size := by omega
   simp only [this, if_true]
   rw [ih (i + 1) _ (by omega)]
   simp; omega
theorem yR (s : ByteArray) : (s.toList == (⟨#[]⟩ : ByteArray).toList) = decide (s.size = 0) := by
 have e : (⟨#[]⟩ : ByteArray).toList = [] := by decide +kernel
 rw [e]
 have hl : s.toList.length = s.size := by
  unfold ByteArray.toList; rw [DZ s s.size 0 [] (by omega)]; simp
 by_cases h : s.size = 0
 ·rw [dqt h]
  have : s.toList = [] := List.eq_nil_of_length_eq_zero (by omega)
  rw [this]; rfl
 ·rw [dqf h]
  cases hs : s.toList with
  | nil => rw [hs] at hl; simp at hl; omega
  | cons a l => rfl
theorem ip {α : Type} {p : α -> Bool} : ∀ {l : List α}, l.dropWhile p = [] ↔ ∀ x ∈ l, p x = true
 | [] => by simp
 | a :: l => by
   rw [List.dropWhile_cons]
   cases h : p a with
   | true => simp only [if_true]; rw [ip]; simp [h]
   | false => simp [h]
theorem CE (l cs : List UInt8) : Lib.trimS l cs = [] ↔ ∀ b ∈ l, cs.contains b = true := by
 unfold Lib.trimS Lib.trimLeftS Lib.trimRightS
 rw [ip]
 constructor
 ·intro h
  have h1 : l.reverse.dropWhile (cs.contains ·) = [] := by
   cases hd : l.reverse.dropWhile (cs.contains ·) with
   | nil => rfl
   | cons a r =>
     have ha : cs.contains a = true := h a (by rw [hd]; simp)
     have hh := List.head_dropWhile_not (cs.contains ·) (l := l.reverse) (by rw [hd]; simp)
     simp only [hd, List.head_cons] at hh
     rw [ha] at hh; cases hh
  rw [ip] at h1
  exact fun b hb => h1 b (by simpa using hb)
 ·intro h b hb
  have : b ∈ l.reverse := by
   have := List.mem_reverse.1 hb
   exact (List.dropWhile_sublist _).subset this
  exact h b (by simpa using this)
def nmB (b : Nat) : Bool := (decide (97 <= b) && decide (b <= 122)) || ((decide (48 <= b) && decide (b <= 57)) || decide (b = 45))
theorem rO (b : UInt8) : ([97, 98, 99, 100, 101, 102, 103, 104, 105, 106, 107, 108, 109, 110, 111, 112, 113, 114, 115, 116, 117, 118, 119, 120, 121, 122, 48, 49, 50, 51, 52, 53, 54, 55, 56, 57, 45] : List UInt8).contains b = nmB b.toNat := by
 have key : ∀ n : Fin 256, ([97, 98, 99, 100, 101, 102, 103, 104, 105, 106, 107, 108, 109, 110, 111, 112, 113, 114, 115, 116, 117, 118, 119, 120, 121, 122, 48, 49, 50, 51, 52, 53, 54, 55, 56, 57, 45] : List UInt8).contains (UInt8.ofNat n.val) = nmB n.val := by decide +kernel
 have := key ⟨b.toNat, b.toNat_lt⟩
 simpa using this
theorem zu {l : List UInt8} {i : Nat} (h : i < l.length) : l.getD i 0 = l[i] := by simp [List.getD, h]
theorem tL (s : ByteArray) (i : Nat) : (!El s i) = (nmB (s.data.toList.getD i 0).toNat && (decide (0 < i) || (decide (97 <= (s.data.toList.getD i 0).toNat) && decide ((s.data.toList.getD i 0).toNat <= 122)))) := by
 unfold El nmB
 generalize (s.data.toList.getD i 0).toNat = b
 rw [Bool.eq_iff_iff]
 simp only [Bool.cond_eq_ite, Bool.not_eq_true', Bool.and_eq_true, Bool.or_eq_true, decide_eq_true_eq]
 split <;> split <;> (try split) <;> simp_all <;> omega
theorem yK (s : ByteArray) : kc s = AN s := by
 unfold kc AN
 rw [yR]
 have hsz : s.size = s.data.toList.length := by rw [Array.length_toList]; rfl
 by_cases h0 : s.size = 0
 ·rw [dqt h0, h0]; rfl
 rw [dqf h0]
 have e0 : decide (0 < (s.size : Int)) = true := dqt (by omega)
 rw [e0]
 by_cases h24 : (s.size : Int) <= 24
 case neg => rw [dqf h24]; simp
 rw [dqt h24]
 simp only [Bool.not_false, cond_true, Bool.and_true]
 rw [yR]
 rw [Bool.eq_iff_iff]
 have ht : (ri s (ByteArray.mk (Array.mk [97, 98, 99, 100, 101, 102, 103, 104, 105, 106, 107, 108, 109, 110, 111, 112, 113, 114, 115, 116, 117, 118, 119, 120, 121, 122, 48, 49, 50, 51, 52, 53, 54, 55, 56, 57, 45]))).size = 0 ↔ ∀ b ∈ s.data.toList, nmB b.toNat = true := by
  rw [show (ri s (ByteArray.mk (Array.mk [97, 98, 99, 100, 101, 102, 103, 104, 105, 106, 107, 108, 109, 110, 111, 112, 113, 114, 115, 116, 117, 118, 119, 120, 121, 122, 48, 49, 50, 51, 52, 53, 54, 55, 56, 57, 45]))).size = (Lib.trimS s.data.toList [97, 98, 99, 100, 101, 102, 103, 104, 105, 106, 107, 108, 109, 110, 111, 112, 113, 114, 115, 116, 117, 118, 119, 120, 121, 122, 48, 49, 50, 51, 52, 53, 54, 55, 56, 57, 45]).length from by simp [ri, ByteArray.size]]
  rw [List.length_eq_zero_iff, CE]
  constructor
  ·intro h b hb; rw [← rO]; exact h b hb
  ·intro h b hb; rw [rO]; exact h b hb
 have hb : iJ s.size (fun i => !El s i) = true ↔ (∀ b ∈ s.data.toList, nmB b.toNat = true) /\ 97 <= (s.data.toList.getD 0 0).toNat /\ (s.data.toList.getD 0 0).toNat <= 122 := by
  rw [AP]
  constructor
  ·intro h
   refine ⟨fun b hb => ?_, ?_⟩
   ·obtain ⟨i, hi, rfl⟩ := List.getElem_of_mem hb
    have := h i (by omega)
    rw [tL, Bool.and_eq_true] at this
    rw [zu hi] at this
    exact this.1
   ·have := h 0 (by omega)
    rw [tL] at this
    simp only [Bool.and_eq_true, Bool.or_eq_true, decide_eq_true_eq] at this
    rcases this.2 with h1 | h1
    ·omega
    ·exact h1
  ·rintro ⟨h1, h2, h3⟩ i hi
   rw [tL]
   have hi' : i < s.data.toList.length := by omega
   rw [h1 _ (by rw [zu hi']; exact List.getElem_mem hi')]
   by_cases hz : i = 0
   ·subst hz; rw [dqt h2, dqt h3]; rfl
   ·simp; omega
 rw [hb, ← ht]
 cases hd : decide ((ri s (ByteArray.mk (Array.mk [97, 98, 99, 100, 101, 102, 103, 104, 105, 106, 107, 108, 109, 110, 111, 112, 113, 114, 115, 116, 117, 118, 119, 120, 121, 122, 48, 49, 50, 51, 52, 53, 54, 55, 56, 57, 45]))).size = 0) with
 | false =>
   have := of_decide_eq_false hd
   simp [this]
 | true =>
   have := of_decide_eq_true hd
   simp only [cond_true, this, true_and]
   rw [show s.data.1.getD 0 0 = s.data.toList.getD 0 0 from rfl]
   generalize (s.data.toList.getD 0 0).toNat = b
   by_cases g : 97 <= b
   ·rw [dqt (show (97 : Int) <= (b : Int) by omega)]
    simp only [cond_true, decide_eq_true_eq]; omega
   ·rw [dqf (show ¬ (97 : Int) <= (b : Int) by omega)]
    simp; omega
end
noncomputable section
theorem EU (x y : Int) : ny x y = !fG x y := by unfold ny fG; exact c4 _ _
theorem HS (n : Nat) (f : Nat -> List V) (s : ByteArray) : ox n f s = exB n fun k => (sv (hdV (f k))).toList == s.toList := by
 unfold ox AT; rw [kt]; rfl
theorem DX (n : Nat) (f : Nat -> List V) (s : ByteArray) : mM n f s = exB n fun k => (sv (hdV (f k))).toList == s.toList := by
 unfold mM AA; rw [kt]; rfl
theorem HH (n : Nat) (f : Nat -> List V) : gy n f = exB n fun i => !fG (jv0 (f i)) (jv1 (f i)) := by
 unfold gy A2; rw [kt]; exact rK fun i _ => EU _ _
theorem ym (n0 : Nat) (f0 : FnV) (i : Nat) : c62 n0 (elV tyR f0) i = cR n0 f0 i := by
 unfold c62 cR F63 F70 y8
 rw [yK, HS, HH]
 simp only [Int.toNat_natCast, Nat.sub_zero, Nat.zero_add, lR, Bool.not_not]
 rfl
theorem zH (n2 : Nat) (f2 : FnV) (i : Nat) : c64 n2 (elV tyT f2) i = cT f2 i := by
 show kl (jv0 (f2 i)) (jv1 (f2 i)) (jv2 (f2 i)) (jv3 (f2 i)) (jv4 (f2 i)) = _
 unfold cT kl yz
 rw [c4]
 show (bif !!fG _ _ then _ else _) = _
 generalize fG _ _ = p
 generalize jv2 (f2 i) = a
 generalize jv3 (f2 i) = z
 generalize jv4 (f2 i) = w
 cases p
 ·rfl
 ·simp only [Bool.not_true, Bool.not_false, cond_true]
  rw [lR]
  cases ha : aK a 1 20000
  ·simp only [Bool.not_false, Bool.not_true, cond_true, cond_false]
   by_cases hw : 1 <= w /\ w <= 1000
   ·have e : aK w 1 1000 = false := by unfold aK; rw [dqf (by omega), cond_false]; exact dqf (by omega)
    rw [e, av (by omega) (by omega)]
    unfold aK
    by_cases hz : z < 0
    ·rw [dqt hz]; rfl
    ·rw [dqf hz]
     by_cases hz2 : w <= z
     ·rw [dqt (show w - 1 < z by omega), dqt hz2]; rfl
     ·rw [dqf (show ¬ w - 1 < z by omega), dqf hz2, dqf (show ¬ 1000 < w by omega)]; rfl
   ·have e : aK w 1 1000 = true := by
     unfold aK
     by_cases h1 : w < 1
     ·rw [dqt h1]; rfl
     ·rw [dqf h1, cond_false]; exact dqt (by omega)
    rw [e]
    have : (bif bif decide (z < 0) then true else decide (w <= z) then true else decide (1000 < w)) = true := by
     by_cases hz : z < 0
     ·rw [dqt hz]; rfl
     ·rw [dqf hz, cond_false]
      by_cases h2 : w <= z
      ·rw [dqt h2]; rfl
      ·rw [dqf h2, cond_false]; exact dqt (by omega)
    rw [this]
    cases !aK z 0 (i64.wrap (w - 1)) <;> rfl
  ·rfl
theorem GJ (x0 x1 x2 x3 : Int) : iq x0 x1 x2 x3 = bif bif bif bif bif decide (x0 < 0) then true else decide (x1 <= x0) then true else decide (1000 < x1) then true else decide (x2 < 0) then true else decide (x3 <= x2) then true else decide (1000 < x3) := by
 have key : ∀ a b : Int, ((bif !aK b 1 1000 then aK a 0 (i64.wrap (b - 1)) else true) = true) ↔ (a < 0 ∨ b <= a ∨ 1000 < b) := by
  intro a b
  unfold aK
  by_cases h1 : b < 1
  ·rw [dqt h1]; simp; omega
  ·rw [dqf h1]
   by_cases h2 : 1000 < b
   ·rw [dqt h2]; simp; omega
   ·rw [dqf h2, av (by omega) (by omega)]
    simp only [cond_false, Bool.not_false, cond_true, Bool.cond_eq_ite]
    split <;> simp_all <;> omega
 have e1 := key x0 x1
 have e2 := key x2 x3
 have : iq x0 x1 x2 x3 = (bif !(bif !aK x1 1 1000 then aK x0 0 (i64.wrap (x1 - 1)) else true) then (bif !aK x3 1 1000 then aK x2 0 (i64.wrap (x3 - 1)) else true) else true) := by
  unfold iq
  cases aK x1 1 1000 <;> cases aK x0 0 (i64.wrap (x1 - 1)) <;> rfl
 rw [this]
 generalize (bif !aK x1 1 1000 then aK x0 0 (i64.wrap (x1 - 1)) else true) = p at e1 ⊢
 generalize (bif !aK x3 1 1000 then aK x2 0 (i64.wrap (x3 - 1)) else true) = q at e2 ⊢
 rw [Bool.eq_iff_iff]
 simp only [Bool.cond_eq_ite]
 cases p <;> cases q <;> simp_all <;> omega
theorem ve (n4 : Nat) (f4 : FnV) (i : Nat) : c66 n4 (elV tyF f4) i = cF f4 i := by
 show jT (jv0 (f4 i)) (jv1 (f4 i)) (jv2 (f4 i)) (jv3 (f4 i)) (bR (hdV (tlV (tlV (tlV (tlV (f4 i))))))) (fun j => aq tp4 (atV (hdV (tlV (tlV (tlV (tlV (f4 i)))))) j)) = _
 unfold cF jT F72
 rw [c4]
 have : ∀ n (f : Nat -> List V), mS n f = exB n fun j => CW (f j) := by
  intro n f
  unfold mS Ak; rw [kt]
  exact rK fun j _ => by rw [GJ]; rfl
 rw [this]
 rfl
theorem Nz (p q r t : Bool) (B : Int) : (bif p then bif !q then bif !r then bif t then 7 else B else 7 else 7 else 7) = (bif bif bif bif !p then true else q then true else r then true else t then 7 else B) := by
 cases p <;> cases q <;> cases r <;> cases t <;> rfl
theorem Bc (n6 : Nat) (f6 : FnV) (i : Nat) : c68 n6 (elV tyC f6) i = cC n6 f6 i := by
 unfold c68 cC iQ F73
 rw [yK, DX, c4]
 simp only [Int.toNat_natCast, Nat.sub_zero, Nat.zero_add]
 unfold DU
 simp only [lR, Bool.not_not]
 rw [Nz]
 rfl
theorem c5 {n : Nat} {c d : Nat -> Int} (h : ∀ i, c i = d i) : eO n c = eO n d /\ cN n c = cN n d := by
 have : c = d := funext h
 rw [this]; exact ⟨rfl, rfl⟩
theorem Bk (n0 : Nat) (f0 : FnV) (n2 : Nat) (f2 : FnV) (n4 : Nat) (f4 : FnV) (n6 : Nat) (f6 : FnV) :
 (iV n0 f0 n2 f2 n4 f4 n6 f6, iG n0 f0 n2 f2 n4 f4 n6 f6, ef n0 f0 n2 f2 n4 f4 n6 f6) = F24 n0 f0 n2 f2 n4 f4 n6 f6 := by
 unfold iV iG ef F24 ET z1 z2 z3 r24 sh kR sD kM sM kV sE kP
 rw [(c5 (ym n0 f0)).1, (c5 (ym n0 f0)).2, (c5 (zH n2 f2)).1, (c5 (zH n2 f2)).2, (c5 (ve n4 f4)).1, (c5 (ve n4 f4)).2, (c5 (Bc n6 f6)).1, (c5 (Bc n6 f6)).2]
 cases (bif bif bif decide (8 < (n0 : Int)) then true else decide (12 < (n2 : Int)) then true else decide (8 < (n4 : Int)) then true else decide (24 < (n6 : Int)))
 ·simp only [cond_false]
  cases h1 : cN n0 (cR n0 f0) != 0
  ·simp only [cond_false]
   cases h2 : cN n2 (cT f2) != 0
   ·simp only [cond_false]
    cases h3 : cN n4 (cF f4) != 0
    ·simp only [cond_false]
     cases h4 : cN n6 (cC n6 f6) != 0
     ·rfl
     ·rfl
    ·rfl
   ·rfl
  ·rfl
 ·rfl
end
noncomputable section
theorem oA (ts : List Ty) (f : Nat -> List V) : elV ts (elV ts f) = elV ts f := by
 funext i; exact c9 ts _
theorem ue {n : Nat} {c : Nat -> Int} (h : cN n c = 0) : ∀ i, i < n -> c i = 0 := by
 unfold cN at h
 rcases pC (n := n) (p := fun i => c i != 0) with ⟨_, h2⟩ | ⟨j, h1, h2, h3, _⟩
 ·intro i hi
  have := h2 i hi
  simpa using this
 ·rw [h2] at h
  have : ((j : Int) == -1) = false := by rw [beq_eq_false_iff_ne]; omega
  rw [this, cond_false, Int.toNat_natCast] at h
  rw [h] at h3; cases h3
section
variable {n0 : Nat} {f0 : Nat -> List V} {n2 : Nat} {f2 : Nat -> List V} {n4 : Nat} {f4 : Nat -> List V} {n6 : Nat} {f6 : Nat -> List V} {i j m l : Int}
structure KQ (n0 : Nat) (f0 : FnV) (n2 : Nat) (f2 : FnV) (n4 : Nat) (f4 : FnV) (n6 : Nat) (f6 : FnV) : Prop where
 l0 : n0 <= 8
 l2 : n2 <= 12
 l4 : n4 <= 8
 l6 : n6 <= 24
 rd : ∀ i, i < n0 -> cR n0 f0 i = 0
 tr : ∀ i, i < n2 -> cT f2 i = 0
 fr : ∀ i, i < n4 -> cF f4 i = 0
 cl : ∀ i, i < n6 -> cC n6 f6 i = 0
theorem l7 {n : Nat} {c : Nat -> Int} {k : Int} {z : Int × Int × Int} (h : (r24 n c k z).2.2 = 0) : (∀ i, i < n -> c i = 0) /\ z.2.2 = 0 := by
 unfold r24 at h
 cases hb : cN n c != 0 with
 | true => rw [hb] at h; simp only [cond_true] at h; rw [h] at hb; cases hb
 | false =>
   rw [hb] at h
   exact ⟨ue (by simpa using hb), h⟩
theorem dK (h : bW n0 f0 n2 f2 n4 f4 n6 f6 = 0) : KQ n0 f0 n2 f2 n4 f4 n6 f6 := by
 unfold bW F24 at h
 cases hl : ET n0 f0 n2 f2 n4 f4 n6 f6 with
 | true => rw [hl] at h; cases h
 | false =>
   rw [hl, cond_false] at h
   obtain ⟨h1, h⟩ := l7 h
   unfold z1 at h
   obtain ⟨h2, h⟩ := l7 h
   unfold z2 at h
   obtain ⟨h3, h⟩ := l7 h
   unfold z3 at h
   obtain ⟨h4, _⟩ := l7 h
   unfold ET at hl
   simp only [Bool.cond_eq_ite, Bool.ite_eq_false_distrib] at hl
   have : n0 <= 8 /\ n2 <= 12 /\ n4 <= 8 /\ n6 <= 24 := by
    refine ⟨?_, ?_, ?_, ?_⟩ <;> (apply Classical.byContradiction; intro hn) <;> simp_all <;> omega
   exact ⟨this.1, this.2.1, this.2.2.1, this.2.2.2, h1, h2, h3, h4⟩
def wK (i m : Int) : Bool := bif decide (i < 0) then true else decide (m <= i)
def ix1 (e i m : Int) : Int := bif e == 0 then (bif wK i m then 4 else 0) else e
def ix2 (e i m j l : Int) : Int := bif e == 0 then (bif bif wK i m then true else wK j l then 4 else 0) else e
theorem sV : ef n0 f0 n2 f2 n4 f4 n6 f6 = bW n0 f0 n2 f2 n4 f4 n6 f6 := congrArg (fun t => t.2.2) (Bk n0 f0 n2 f2 n4 f4 n6 f6)
theorem tf {i : Int} {m : Nat} (hm : m <= 9223372036854775807) : aK i 0 (i64.wrap ((m : Int) - 1)) = wK i m := by
 unfold aK wK
 rw [av (by omega) (by omega)]
 by_cases h : i < 0
 ·rw [dqt h]; rfl
 ·rw [dqf h, cond_false, cond_false]
  by_cases g : (m : Int) <= i
  ·rw [dqt g]; exact dqt (by omega)
  ·rw [dqf g]; exact dqf (by omega)
theorem Ce {i : Int} {m : Nat} (hm : bW n0 (elV tyR f0) n2 (elV tyT f2) n4 (elV tyF f4) n6 (elV tyC f6) = 0 -> m <= 9223372036854775807) :
 F44 n0 (elV tyR f0) n2 (elV tyT f2) n4 (elV tyF f4) n6 (elV tyC f6) 2 (elV tp1 (bn [vi i, vi m] 0 1)) = ix1 (bW n0 (elV tyR f0) n2 (elV tyT f2) n4 (elV tyF f4) n6 (elV tyC f6)) i m := by
 unfold F44 xK ix1
 simp only [oA, sV]
 cases he : bW n0 (elV tyR f0) n2 (elV tyT f2) n4 (elV tyF f4) n6 (elV tyC f6) == 0 with
 | false => rfl
 | true =>
   rw [cond_true, cond_true]
   have := hm (eq_of_beq he)
   rw [← tf this]
   show (bif !(true && !aK i 0 (i64.wrap ((m : Int) - 1))) then _ else _) = _
   rw [Bool.true_and, Bool.not_not]
theorem MW {i j : Int} {m l : Nat} (hm : bW n0 (elV tyR f0) n2 (elV tyT f2) n4 (elV tyF f4) n6 (elV tyC f6) = 0 -> m <= 9223372036854775807 /\ l <= 9223372036854775807) :
 F44 n0 (elV tyR f0) n2 (elV tyT f2) n4 (elV tyF f4) n6 (elV tyC f6) 4 (elV tp1 (bn [vi i, vi m, vi j, vi l] 0 1)) = ix2 (bW n0 (elV tyR f0) n2 (elV tyT f2) n4 (elV tyF f4) n6 (elV tyC f6)) i m j l := by
 unfold F44 xK ix2
 simp only [oA, sV]
 cases he : bW n0 (elV tyR f0) n2 (elV tyT f2) n4 (elV tyF f4) n6 (elV tyC f6) == 0 with
 | false => rfl
 | true =>
   rw [cond_true, cond_true]
   have := hm (eq_of_beq he)
   rw [← tf this.1, ← tf this.2]
   show (bif !((true && !aK i 0 (i64.wrap ((m : Int) - 1))) && !aK j 0 (i64.wrap ((l : Int) - 1))) then _ else _) = _
   cases aK i 0 (i64.wrap ((m : Int) - 1)) <;> cases aK j 0 (i64.wrap ((l : Int) - 1)) <;> rfl
end
end
noncomputable section
theorem dF {a l h : Int} (hf : dX a l h = true) : l <= a /\ a <= h := by
 unfold dX at hf
 by_cases h1 : l <= a
 ·rw [dqt h1, cond_true] at hf; exact ⟨h1, of_decide_eq_true hf⟩
 ·rw [dqf h1] at hf; cases hf
theorem vO {f4 : Nat -> List V} {i : Nat} (h : cF f4 i = 0) :
 (∀ x, x ∈ [jv0 (f4 i), jv1 (f4 i), jv2 (f4 i), jv3 (f4 i)] -> -100000 <= x /\ x <= 100000) /\ bR (hdV (tlV (tlV (tlV (tlV (f4 i)))))) <= 6 /\ ∀ j, j < bR (hdV (tlV (tlV (tlV (tlV (f4 i)))))) -> CW (aq tp4 (atV (hdV (tlV (tlV (tlV (tlV (f4 i)))))) j)) = false := by
 unfold cF F72 at h
 generalize jv0 (f4 i) = a at h ⊢
 generalize jv1 (f4 i) = b at h ⊢
 generalize jv2 (f4 i) = c at h ⊢
 generalize jv3 (f4 i) = d at h ⊢
 generalize bR (hdV (tlV (tlV (tlV (tlV (f4 i)))))) = n at h ⊢
 generalize hdV (tlV (tlV (tlV (tlV (f4 i))))) = w at h ⊢
 cases hp : F51 4 (elV tp1 (bn [V.int .i64 a, V.int .i64 b, V.int .i64 c, V.int .i64 d] 0 1)) with
 | false => rw [hp] at h; cases h
 | true =>
   rw [hp, Bool.not_true, cond_false] at h
   cases he : (a == c && (b == d && true)) with
   | true => rw [he] at h; cases h
   | false =>
     rw [he, cond_false] at h
     by_cases hn : 6 < (n : Int)
     ·rw [dqt hn] at h; cases h
     ·rw [dqf hn, cond_false] at h
      cases hw : exB n (fun j => CW (aq tp4 (atV w j))) with
      | true => rw [hw] at h; cases h
      | false =>
        unfold F51 at hp
        have h0 := dF (cE hp 0 (by omega))
        have h1 := dF (cE hp 1 (by omega))
        have h2 := dF (cE hp 2 (by omega))
        have h3 := dF (cE hp 3 (by omega))
        refine ⟨fun x hx => ?_, by omega, fun j hj => ?_⟩
        ·simp only [List.mem_cons, List.not_mem_nil, or_false] at hx
         rcases hx with rfl | rfl | rfl | rfl
         ·exact h0
         ·exact h1
         ·exact h2
         ·exact h3
        ·cases hb : CW (aq tp4 (atV w j)) with
         | false => rfl
         | true => rw [bD j hj hb] at hw; cases hw
end
noncomputable section
section
variable {ax ay bx b2 px py r : Int}
theorem Lf (h1 : sm ax) (h2 : sm ay) (h3 : sm bx) (h4 : sm b2) (h5 : sm px) (h6 : sm py) : b9 (aG bx ax) (aH b2 ay) (aG px ax) (aH py ay) = sd ax ay bx b2 px py /\ -4611686018427387904 <= sd ax ay bx b2 px py /\ sd ax ay bx b2 px py <= 4611686018427387904 := by
 unfold sm at *
 unfold sd b9 aG aH
 rw [av (x := bx - ax) (by omega) (by omega), av (x := b2 - ay) (by omega) (by omega), av (x := px - ax) (by omega) (by omega), av (x := py - ay) (by omega) (by omega)]
 have c1 := j8 (x := bx - ax) (y := py - ay) (A := 1073741824) (B := 1073741824) (by omega) (by omega) (by omega) (by omega)
 have c2 := j8 (x := b2 - ay) (y := px - ax) (A := 1073741824) (B := 1073741824) (by omega) (by omega) (by omega) (by omega)
 rw [av (x := (bx - ax) * (py - ay)) (by omega) (by omega), av (x := (b2 - ay) * (px - ax)) (by omega) (by omega), av (by omega) (by omega)]
 exact ⟨rfl, by omega, by omega⟩
end
end
noncomputable section
theorem qe {e i m : Int} (h : ix1 e i m = 0) : e = 0 /\ 0 <= i /\ i < m := by
 unfold ix1 at h
 cases he : e == 0 with
 | false => rw [he, cond_false] at h; rw [h] at he; cases he
 | true =>
   rw [he, cond_true] at h
   refine ⟨eq_of_beq he, ?_⟩
   unfold wK at h
   by_cases h1 : i < 0
   ·rw [dqt h1] at h; cases h
   ·rw [dqf h1, cond_false] at h
    by_cases h2 : m <= i
    ·rw [dqt h2] at h; cases h
    ·omega
end
noncomputable section
def u7 (ax ay X0 Y0 X1 Y1 : Int) : Int := i64.wrap (i64.wrap (max (max 0 (i64.wrap (i64.wrap (2 * X0) - ax))) (i64.wrap (ax - i64.wrap (2 * X1))) * max (max 0 (i64.wrap (i64.wrap (2 * X0) - ax))) (i64.wrap (ax - i64.wrap (2 * X1)))) + i64.wrap (max (max 0 (i64.wrap (i64.wrap (2 * Y0) - ay))) (i64.wrap (ay - i64.wrap (2 * Y1))) * max (max 0 (i64.wrap (i64.wrap (2 * Y0) - ay))) (i64.wrap (ay - i64.wrap (2 * Y1)))))
section
variable {ax ay bx b2 w X0 Y0 X1 Y1 px py : Int}
def pl (x : Int) : Prop := -100000000 <= x /\ x <= 100000000
theorem dbl {x : Int} (h : pl x) : i64.wrap (2 * x) = 2 * x /\ sm (2 * x) := by
 unfold pl at h; unfold sm
 exact ⟨av (by omega) (by omega), by omega⟩
theorem j0 (h1 : sm ax) (h2 : sm ay) (h3 : sm bx) (h4 : sm b2) (h7 : 0 <= w) (h8 : w <= 1073741824) (hx : pl px) (hy : pl py) : bz ax ay bx b2 w px py = nr ax ay bx b2 (2 * px) (2 * py) w := by
 unfold bz
 rw [(dbl hx).1, (dbl hy).1]
 exact wV h1 h2 h3 h4 (dbl hx).2 (dbl hy).2 h7 h8
theorem Fl (ax ay X0 Y0 X1 Y1 : Int) : dk (max (max (i64.wrap (i64.wrap (2 * X0) - ax)) 0) (i64.wrap (ax - i64.wrap (2 * X1)))) (max (max (i64.wrap (i64.wrap (2 * Y0) - ay)) 0) (i64.wrap (ay - i64.wrap (2 * Y1)))) (max (max (i64.wrap (i64.wrap (2 * X0) - ax)) 0) (i64.wrap (ax - i64.wrap (2 * X1)))) (max (max (i64.wrap (i64.wrap (2 * Y0) - ay)) 0) (i64.wrap (ay - i64.wrap (2 * Y1)))) = u7 ax ay X0 Y0 X1 Y1 := by
 unfold dk u7
 rw [Int.max_comm (i64.wrap (i64.wrap (2 * X0) - ax)) 0, Int.max_comm (i64.wrap (i64.wrap (2 * Y0) - ay)) 0]
theorem K5 (h1 : sm ax) (h2 : sm ay) (h3 : sm bx) (h4 : sm b2) (g1 : pl X0) (g2 : pl Y0) (g3 : pl X1) (g4 : pl Y1) :
 ja ax ay bx b2 X0 Y0 X1 Y1 = true ↔ (Bx ax ay bx b2 (2 * X0) (2 * Y0) (2 * X1) (2 * Y1) /\ (0 <= sd ax ay bx b2 (2 * X0) (2 * Y0) ∨ 0 <= sd ax ay bx b2 (2 * X1) (2 * Y0) ∨ 0 <= sd ax ay bx b2 (2 * X1) (2 * Y1) ∨ 0 <= sd ax ay bx b2 (2 * X0) (2 * Y1)) /\ (sd ax ay bx b2 (2 * X0) (2 * Y0) <= 0 ∨ sd ax ay bx b2 (2 * X1) (2 * Y0) <= 0 ∨ sd ax ay bx b2 (2 * X1) (2 * Y1) <= 0 ∨ sd ax ay bx b2 (2 * X0) (2 * Y1) <= 0)) := by
 have s : ∀ px py, pl px -> pl py -> bo ax ay bx b2 (cq px 2) (co py 2) = sd ax ay bx b2 (2 * px) (2 * py) := fun px py hx hy => by
  unfold bo cq co
  rw [(dbl hx).1, (dbl hy).1]
  exact (Lf h1 h2 h3 h4 (dbl hx).2 (dbl hy).2).1
 unfold ja
 rw [s _ _ g1 g2, s _ _ g3 g2, s _ _ g3 g4, s _ _ g1 g4, (dbl g1).1, (dbl g2).1, (dbl g3).1, (dbl g4).1]
 generalize sd ax ay bx b2 (2 * X0) (2 * Y0) = p
 generalize sd ax ay bx b2 (2 * X1) (2 * Y0) = q
 generalize sd ax ay bx b2 (2 * X1) (2 * Y1) = u
 generalize sd ax ay bx b2 (2 * X0) (2 * Y1) = t
 unfold Bx
 have o4 : ∀ a b c d : Bool, (bif bif bif a then true else b then true else c then true else d) = true ↔ (a = true ∨ b = true ∨ c = true ∨ d = true) := by
  intro a b c d; cases a <;> cases b <;> cases c <;> cases d <;> simp
 have e1 := o4 (decide (max ax bx < 2 * X0)) (decide (2 * X1 < min ax bx)) (decide (max ay b2 < 2 * Y0)) (decide (2 * Y1 < min ay b2))
 have e2 := o4 (decide (0 <= p)) (decide (0 <= q)) (decide (0 <= u)) (decide (0 <= t))
 have e3 := o4 (decide (p <= 0)) (decide (q <= 0)) (decide (u <= 0)) (decide (t <= 0))
 simp only [decide_eq_true_eq] at e1 e2 e3
 rw [← e1, ← e2, ← e3]
 generalize (bif bif bif decide (max ax bx < 2 * X0) then true else decide (2 * X1 < min ax bx) then true else decide (max ay b2 < 2 * Y0) then true else decide (2 * Y1 < min ay b2)) = A
 generalize (bif bif bif decide (0 <= p) then true else decide (0 <= q) then true else decide (0 <= u) then true else decide (0 <= t)) = B
 generalize (bif bif bif decide (p <= 0) then true else decide (q <= 0) then true else decide (u <= 0) then true else decide (t <= 0)) = C
 cases A <;> cases B <;> cases C <;> simp
end
end
noncomputable section
theorem qG (a b c d : Int) : kQ a b c d = !fh a b c d := by
 unfold kQ fh
 rw [c4]
 generalize F51 _ _ = p
 have e1 : decide (c < a) = !decide (a <= c) := by by_cases h : a <= c <;> simp [h] <;> omega
 have e2 : decide (d < b) = !decide (b <= d) := by by_cases h : b <= d <;> simp [h] <;> omega
 rw [e1, e2]
 generalize decide (a <= c) = q
 generalize decide (b <= d) = u
 cases p <;> cases q <;> cases u <;> rfl
theorem gC {a b c d : Int} (h : fh a b c d = true) : (-100000 <= a /\ a <= 100000) /\ (-100000 <= b /\ b <= 100000) /\ (-100000 <= c /\ c <= 100000) /\ (-100000 <= d /\ d <= 100000) /\ a <= c /\ b <= d := by
 unfold fh at h
 cases hp : F51 4 (elV tp1 (bn [vi a, vi b, vi c, vi d] 0 1)) with
 | false => rw [hp] at h; cases h
 | true =>
   rw [hp, cond_true] at h
   by_cases h1 : a <= c
   ·rw [dqt h1, cond_true] at h
    have h2 := of_decide_eq_true h
    unfold F51 at hp
    exact ⟨dF (cE hp 0 (by omega)), dF (cE hp 1 (by omega)), dF (cE hp 2 (by omega)), dF (cE hp 3 (by omega)), h1, h2⟩
   ·rw [dqf h1] at h; cases h
theorem ph {x y : Int} (h : fG x y = true) : (-100000 <= x /\ x <= 100000) /\ (-100000 <= y /\ y <= 100000) := by
 unfold fG F51 at h
 exact ⟨dF (cE h 0 (by omega)), dF (cE h 1 (by omega))⟩
structure ej (n : Nat) (f : Nat -> List V) (w : Int) : Prop where
 two : 2 <= n
 eight : n <= 8
 pts : ∀ j, j < n -> (-100000 <= jv0 (f j) /\ jv0 (f j) <= 100000) /\ (-100000 <= jv1 (f j) /\ jv1 (f j) <= 100000)
 adj : ∀ j, j + 1 < n -> eqP f (j + 1) j = false
 w1 : 100 <= w
 w2 : w <= 30000
theorem yE {n0 : Nat} {f0 : Nat -> List V} {i : Nat} (h : cR n0 f0 i = 0) : ej (bR (hdV (tlV (tlV (f0 i))))) (fun j => aq tp2 (atV (hdV (tlV (tlV (f0 i)))) j)) (jv3 (f0 i)) := by
 have h' : F70 n0 (elV tyR f0) (i : Int) = 0 := h
 unfold F70 at h'
 simp only [Int.toNat_natCast] at h'
 cases hn : AN (sv (hdV (elV tyR f0 i))) with
 | false => rw [hn] at h'; cases h'
 | true =>
   rw [hn, Bool.not_true, cond_false] at h'
   cases hd : exB i (fun k => (sv (hdV (elV tyR f0 k))).toList == (sv (hdV (elV tyR f0 i))).toList) with
   | true => rw [hd] at h'; cases h'
   | false =>
     rw [hd, cond_false] at h'
     have h2 : y8 (jv1 (f0 i)) (bR (hdV (tlV (tlV (f0 i))))) (fun j => aq tp2 (atV (hdV (tlV (tlV (f0 i)))) j)) (jv3 (f0 i)) = 0 := h'
     unfold y8 at h2
     generalize (fun j => aq tp2 (atV (hdV (tlV (tlV (f0 i)))) j)) = f at h2 ⊢
     generalize bR (hdV (tlV (tlV (f0 i)))) = n at h2 ⊢
     generalize jv3 (f0 i) = w at h2 ⊢
     generalize jv1 (f0 i) = k at h2
     cases h3 : dX k 0 3 with
     | false => rw [h3] at h2; cases h2
     | true =>
       rw [h3, Bool.not_true, cond_false] at h2
       by_cases h4 : (n : Int) < 2
       ·rw [dqt h4] at h2; cases h2
       ·rw [dqf h4, cond_false] at h2
        by_cases h5 : 8 < (n : Int)
        ·rw [dqt h5] at h2; cases h2
        ·rw [dqf h5, cond_false] at h2
         cases h6 : exB n (fun i => !fG (jv0 (f i)) (jv1 (f i))) with
         | true => rw [h6] at h2; cases h2
         | false =>
           rw [h6, cond_false] at h2
           cases h7 : dX w 100 30000 with
           | false => rw [h7] at h2; cases h2
           | true =>
             rw [h7, Bool.not_true, cond_false] at h2
             cases h8 : iN n f with
             | true => rw [h8] at h2; cases h2
             | false =>
               have hw := dF h7
               refine ⟨by omega, by omega, fun j hj => ?_, fun j hj => ?_, hw.1, hw.2⟩
               ·apply ph
                cases hp : fG (jv0 (f j)) (jv1 (f j)) with
                | true => rfl
                | false => rw [bD j hj (by rw [hp]; rfl)] at h6; cases h6
               ·cases hp : eqP f (j + 1) j with
                | false => rfl
                | true =>
                  unfold iN at h8
                  rw [bD (j + 1) hj (by rw [Nat.add_sub_cancel, hp]; simp)] at h8; cases h8
section
variable {n : Nat} {f : Nat -> List V} {w : Int}
theorem w1p {j n : Nat} (h : j < n) (hn : n <= 8) : (i64.wrap ((j : Int) + 1)).toNat = j + 1 := by
 rw [av (by omega) (by omega)]; omega
theorem dpt {x : Int} (h : -100000 <= x /\ x <= 100000) : i64.wrap (2 * x) = 2 * x /\ sm (2 * x) := dbl (by unfold pl; omega)
end
section
variable {n0 : Nat} {f0 : Nat -> List V} {n2 : Nat} {f2 : Nat -> List V} {n4 : Nat} {f4 : Nat -> List V} {n6 : Nat} {f6 : Nat -> List V}
theorem yB {x8 : Int} (h : ix1 (bW n0 (elV tyR f0) n2 (elV tyT f2) n4 (elV tyF f4) n6 (elV tyC f6)) x8 n0 = 0) : ej (bR (hdV (tlV (tlV (f0 x8.toNat))))) (fun j => aq tp2 (atV (hdV (tlV (tlV (f0 x8.toNat)))) j)) (jv3 (f0 x8.toNat)) := by
 obtain ⟨h1, h2, h3⟩ := qe h
 have hv := (dK h1).rd x8.toNat (by omega)
 exact yE (f0 := f0) (n0 := n0) (by have : cR n0 (elV tyR f0) x8.toNat = cR n0 f0 x8.toNat := by unfold cR; rw [oA]
                                    rw [← this]; exact hv)
end
end
end Go.Dx
namespace Go.Dx
open Go.IntKind (i64 u64 u8)
open Go.Sx Go.Proofs
noncomputable section
def E2 : bj := (19, .con C19) :: Ff
theorem G2 : bb Tryz.prog eqs its E2 := .con AS (Gi)
end
noncomputable section
def zt : bj := [(19, .con C19), (22, .con C22), (25, .con C25), (15, .con C15), (55, .con C55), (61, .con C61), (74, .con C74), (108, .con zI), (46, .con C46), (111, .con xc), (56, .con C56), (47, .con C47), (145, .con xf), (140, .con w5), (49, .con C49), (123, .con xk), (30, .con C30), (44, .con C44), (23, .con C23), (62, .con C62), (68, .con C68), (63, .con C63), (69, .con C69), (117, .inl AD u0), (116, .inl AQ u0), (115, .con wv), (114, .con wm), (147, .con xL), (64, .con C64), (66, .con C66), (113, .con uH), (65, .con C65), (67, .con C67), (53, .con C53), (45, .con C45), (90, .con C90), (119, .con vF), (121, .con uM), (99, .con C99), (129, .con vl), (148, .con uY), (149, .con uz), (112, .con vV), (118, .con vN), (120, .con wj), (133, .con vJ), (103, .con vZ), (77, .con C77), (100, .con vC), (134, .con wd), (135, .con v8), (78, .con C78), (54, .con C54), (48, .con C48), (102, .con vc), (29, .con C29), (84, .con C84), (85, .con C85), (127, .con uX), (101, .con uC), (86, .con C86), (162, .con uG), (146, .con v7), (83, .inl s83 u0), (161, .inl JF u0)]
theorem HK : bb Tryz.prog eqs its zt := .con AS (.con Cp (.con Cg (.con C5 (.con C6 (.con Dg (.con Ds (.con vH (.con CA (.con sr (.con AV (.con Ad (.con rY (.con rU (.con Aj (.con rD (.con Ag (.con zQ (.con Ae (.con A3 (.con Ar (.con zV (.con Ap (.inl Tryz.func117 (by kernel_rfl) (by kernel_rfl) (by kernel_rfl) (.inl Tryz.func116 (by kernel_rfl) (by kernel_rfl) (by kernel_rfl) (.con sH (.con sO (.con sF (.con zK (.con Au (.con qd (.con xQ (.con xv (.con xB (.con w7 (.con wQ (.con qV (.con o5 (.con xS (.con oZ (.con pg (.con qh (.con pV (.con qO (.con pM (.con qb (.con q7 (.con wX (.con qU (.con pr (.con rb (.con wS (.con w9 (.con wk (.con pW (.con wR (.con wu (.con wD (.con pi (.con rf (.con wo (.con po (.con sN (.inl Tryz.func83 (by kernel_rfl) (by kernel_rfl) (by kernel_rfl) (.inl Tryz.func161 (by kernel_rfl) (by kernel_rfl) (by kernel_rfl) (.nil)))))))))))))))))))))))))))))))))))))))))))))))))))))))))))))))))
def Km : List V -> Prop
 | [.int _ x] => x = 8
 | _ => False
def Lu : aX := mkC [.int .u64] Km fun _ => .int .i64 4
theorem MA {w0 : World} : sat (bS w0 (SV zt)) (be JJ zt u0 HM [.int .u64 8]) (pG (.int .i64 4)) := vA (by kernel_rfl)
theorem J1 : (vP Lu).Ok Tryz.prog 131 := mkE (un := u0) HK Tryz.func131 (by kernel_rfl) fun ds hp => by
 have hp' : jv0 ds = 8 := hp
 intro hd w0
 show sat _ (be JJ zt u0 HM [.int .u64 (jv0 ds)]) _
 rw [hp']
 exact MA
def K1 : List V -> Bool
 | [.int _ x] => decide (x = 8)
 | _ => false
def yA : aX := H2 [.int .u64] K1 fun _ => .int .i64 4
theorem wF : (vP yA).Ok Tryz.prog 131 := EX (pre := Km) (fun ds h => by
 unfold K1 at h
 split at h
 ·rename_i x; exact (show x = 8 from of_decide_eq_true h)
 ·cases h) J1
end
end Go.Dx
namespace Go.Dx
theorem Fg {ts : List Ty} (h : ts.all aZ = true) {n : Nat} {p : Nat -> Bool} {ds : List V} {f : Nat -> List V} (h1 : pR ts n f) (hf : gQ [] (aq ts ds) ds = aq ts ds) : pR ts n fun i => cond (p i) ds (f i) := fun i hi => by
 show okE _ (aq ts (cond (p i) ds (f i))) = true /\ cZ [] (cond (p i) ds (f i)) (aq ts (cond (p i) ds (f i)))
 cases p i with
 | true => exact ⟨fM h _, dM _ _ hf⟩
 | false => exact h1 i hi
end Go.Dx
