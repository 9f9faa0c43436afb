/- Part 4 of a proof. No conditions. -/
import Derived.Test.YtkdokmjehblpoaaGreatDoorRg3
import Derived.IntWalk
import Derived.WalkKit
import Derived.Ground.NamesProg
import Derived.Shelf.Strings.SlTrimAscii
import Derived.Laws.MathBits
set_option maxRecDepth 100000
set_option linter.unusedVariables false
set_option linter.unusedSimpArgs false
namespace Go.Dx
open Go.IntKind (i64 u64 u8)
open Go.Sx Go.Proofs
def wP : bj := []
theorem q8 : be Tryz.prog eqs its wP := .nil
def m84 (x0 x1 x2 x3 : Int) : RT Empty := .ret (V.agg [vi (i64.wrap (x0 - x2)), vi (i64.wrap (x1 - x3))])
theorem HL (x0 x1 x2 x3 : Int) : Fit noD (bk JJ wP u0 s84 [V.agg [vi x0, vi x1], V.agg [vi x2, vi x3]]) (m84 x0 x1 x2 x3) := ⟨by kernel_rfl, by kernel_rfl⟩
def aG (x0 x2 : Int) : Int := i64.wrap (x0 - x2)
def aH (x1 x3 : Int) : Int := i64.wrap (x1 - x3)
def R84 (x0 x1 x2 x3 : Int) : V := .agg [.int i64 (aG x0 x2), .int i64 (aH x1 x3)]
theorem KM (x0 x1 x2 x3 : Int) : evR noE (m84 x0 x1 x2 x3) (R84 x0 x1 x2 x3) := ao (by unfold R84 aG aH; rfl)
def C84 : a7 := mkC [.agg tp2, .agg tp2] (fun _ => True) fun
 | [.agg [.int _ x0, .int _ x1], .agg [.int _ x2, .int _ x3]] => R84 x0 x1 x2 x3
 | _ => .any
theorem zq : (vP C84).Ok Tryz.prog 84 := mkE q8 Tryz.func84 (by kernel_rfl) fun ds hp => rf0 (HL ..) (KM _ _ _ _)
def m85 (x0 x1 x2 x3 : Int) : RT Empty := .ret (vi (i64.wrap (i64.wrap (x0 * x2) + i64.wrap (x1 * x3))))
theorem Ju (x0 x1 x2 x3 : Int) : Fit noD (bk JJ wP u0 s85 [V.agg [vi x0, vi x1], V.agg [vi x2, vi x3]]) (m85 x0 x1 x2 x3) := ⟨by kernel_rfl, by kernel_rfl⟩
def dm (x0 x1 x2 x3 : Int) : Int := i64.wrap (i64.wrap (x0 * x2) + i64.wrap (x1 * x3))
def R85 (x0 x1 x2 x3 : Int) : V := .int i64 (dm x0 x1 x2 x3)
theorem KH (x0 x1 x2 x3 : Int) : evR noE (m85 x0 x1 x2 x3) (R85 x0 x1 x2 x3) := ao (by unfold R85 dm; rfl)
def C85 : a7 := mkC [.agg tp2, .agg tp2] (fun _ => True) fun
 | [.agg [.int _ x0, .int _ x1], .agg [.int _ x2, .int _ x3]] => R85 x0 x1 x2 x3
 | _ => .any
theorem zp : (vP C85).Ok Tryz.prog 85 := mkE q8 Tryz.func85 (by kernel_rfl) fun ds hp => rf0 (Ju ..) (KH _ _ _ _)
def Im (x0 x1 x2 x3 : Int) : RT Empty := .ret (vi (i64.wrap (i64.wrap (x0 * x3) - i64.wrap (x1 * x2))))
theorem FK (x0 x1 x2 x3 : Int) : Fit noD (bk JJ wP u0 K9 [V.agg [vi x0, vi x1], V.agg [vi x2, vi x3]]) (Im x0 x1 x2 x3) := ⟨by kernel_rfl, by kernel_rfl⟩
def bY (x0 x1 x2 x3 : Int) : Int := i64.wrap (i64.wrap (x0 * x3) - i64.wrap (x1 * x2))
def GH (x0 x1 x2 x3 : Int) : V := .int i64 (bY x0 x1 x2 x3)
theorem Ia (x0 x1 x2 x3 : Int) : evR noE (Im x0 x1 x2 x3) (GH x0 x1 x2 x3) := ao (by unfold GH bY; rfl)
def wQ : a7 := mkC [.agg tp2, .agg tp2] (fun _ => True) fun
 | [.agg [.int _ x0, .int _ x1], .agg [.int _ x2, .int _ x3]] => GH x0 x1 x2 x3
 | _ => .any
theorem rL : (vP wQ).Ok Tryz.prog 127 := mkE q8 Tryz.func127 (by kernel_rfl) fun ds hp => rf0 (FK ..) (Ia _ _ _ _)
def I6 (x0 x1 x2 : Int) : RT Empty := .ret (V.agg [vi (i64.wrap (x2 * x0)), vi (i64.wrap (x2 * x1))])
theorem E7 (x0 x1 x2 : Int) : Fit noD (bk JJ wP u0 Ls [V.agg [vi x0, vi x1], vi x2]) (I6 x0 x1 x2) := ⟨by kernel_rfl, by kernel_rfl⟩
def cq (x0 x2 : Int) : Int := i64.wrap (x2 * x0)
def cr (x1 x2 : Int) : Int := i64.wrap (x2 * x1)
def FB (x0 x1 x2 : Int) : V := .agg [.int i64 (cq x0 x2), .int i64 (cr x1 x2)]
theorem IM (x0 x1 x2 : Int) : evR noE (I6 x0 x1 x2) (FB x0 x1 x2) := ao (by unfold FB cq cr; rfl)
def wp : a7 := mkC [.agg tp2, .int .i64] (fun _ => True) fun
 | [.agg [.int _ x0, .int _ x1], .int _ x2] => FB x0 x1 x2
 | _ => .any
theorem rp : (vP wp).Ok Tryz.prog 101 := mkE q8 Tryz.func101 (by kernel_rfl) fun ds hp => rf0 (E7 ..) (IM _ _ _)
def m86 (x0 x1 x2 : Int) : RT Empty := .obi (.obi (.obi (.ret (V.bool (bif decide (x0 < x1) then true else decide (x2 < x0))))))
theorem IH (x0 x1 x2 : Int) : Fit noD (bk JJ wP u0 s86 [vi x0, vi x1, vi x2]) (m86 x0 x1 x2) := ⟨by kernel_rfl, by kernel_rfl⟩
def aP (x0 x1 x2 : Int) : Bool := bif decide (x0 < x1) then true else decide (x2 < x0)
def R86 (x0 x1 x2 : Int) : V := .bool (aP x0 x1 x2)
theorem KE (x0 x1 x2 : Int) : evR noE (m86 x0 x1 x2) (R86 x0 x1 x2) := ak (ak (ak (ao (by unfold R86 aP; rfl))))
def C86 : a7 := mkC [.int .i64, .int .i64, .int .i64] (fun _ => True) fun
 | [.int _ x0, .int _ x1, .int _ x2] => R86 x0 x1 x2
 | _ => .any
theorem zw : (vP C86).Ok Tryz.prog 86 := mkE q8 Tryz.func86 (by kernel_rfl) fun ds hp => rf0 (IH ..) (KE _ _ _)
def eK (x0 x1 x2 : Int) : Bool := bif decide (x1 <= x0) then decide (x0 <= x2) else false
def bG (x0 x2 : Int) : Int := i64.wrap (x0 - x2)
def bF (x1 x3 : Int) : Int := i64.wrap (x1 - x3)
def qp (x0 x1 x2 x3 : Int) : Int := i64.wrap (i64.wrap (x0 * x2) + i64.wrap (x1 * x3))
def j7 (x0 x1 x2 x3 : Int) : Int := i64.wrap (i64.wrap (x0 * x3) - i64.wrap (x1 * x2))
def tc (x0 : Int) : Int := max x0 (i64.wrap (0 - x0))
def mS (x0 : Int) : Int := max (-1) (min 1 x0)
def Jq (x0 x1 : Int) : RT Empty := .obt (.obt (.obt (.obt (.obt (.ret (V.tup [V.int u64 (u64.wrap (u64.wrap (u64.wrap (x0.fdiv (2 ^ 32) * x1.fdiv (2 ^ 32)) + (u64.wrap (u64.wrap (x0.fdiv (2 ^ 32) * bits BinOp.and u64 x1 4294967295) + (u64.wrap (bits BinOp.and u64 x0 4294967295 * bits BinOp.and u64 x1 4294967295)).fdiv (2 ^ 32))).fdiv (2 ^ 32)) + (u64.wrap (bits BinOp.and u64 (u64.wrap (u64.wrap (x0.fdiv (2 ^ 32) * bits BinOp.and u64 x1 4294967295) + (u64.wrap (bits BinOp.and u64 x0 4294967295 * bits BinOp.and u64 x1 4294967295)).fdiv (2 ^ 32))) 4294967295 + u64.wrap (bits BinOp.and u64 x0 4294967295 * x1.fdiv (2 ^ 32)))).fdiv (2 ^ 32))), V.int u64 (u64.wrap (x0 * x1))]))))))
theorem Hi (x0 x1 : Int) : Fit noD (bk JJ wP u0 KS [V.int u64 x0, V.int u64 x1]) (Jq x0 x1) := ⟨by kernel_rfl, by kernel_rfl⟩
def m5 (x0 x1 : Int) : Int := u64.wrap (u64.wrap (u64.wrap (x0.fdiv (2 ^ 32) * x1.fdiv (2 ^ 32)) + (u64.wrap (u64.wrap (x0.fdiv (2 ^ 32) * bits BinOp.and u64 x1 4294967295) + (u64.wrap (bits BinOp.and u64 x0 4294967295 * bits BinOp.and u64 x1 4294967295)).fdiv (2 ^ 32))).fdiv (2 ^ 32)) + (u64.wrap (bits BinOp.and u64 (u64.wrap (u64.wrap (x0.fdiv (2 ^ 32) * bits BinOp.and u64 x1 4294967295) + (u64.wrap (bits BinOp.and u64 x0 4294967295 * bits BinOp.and u64 x1 4294967295)).fdiv (2 ^ 32))) 4294967295 + u64.wrap (bits BinOp.and u64 x0 4294967295 * x1.fdiv (2 ^ 32)))).fdiv (2 ^ 32))
def nm (x0 x1 : Int) : Int := u64.wrap (x0 * x1)
def E9 (x0 x1 : Int) : V := .tup [.int u64 (m5 x0 x1), .int u64 (nm x0 x1)]
theorem HH (x0 x1 : Int) : evR noE (Jq x0 x1) (E9 x0 x1) := af (af (af (af (af (ao (by unfold E9 m5 nm; rfl))))))
def wo : a7 := mkC [.int .u64, .int .u64] (fun _ => True) fun
 | [.int _ x0, .int _ x1] => E9 x0 x1
 | _ => .any
theorem ra : (vP wo).Ok Tryz.prog 162 := mkE q8 Tryz.func162 (by kernel_rfl) fun ds hp => rf0 (Hi ..) (HH _ _)
def tH : bj := [(84, .con C84), (85, .con C85), (127, .con wQ), (101, .con wp), (86, .con C86), (162, .con wo)]
theorem qf : be Tryz.prog eqs its tH := .con zq (.con zp (.con rL (.con rp (.con zw (.con ra (.nil))))))
def JS (x0 x1 : Int) : RT Empty := .obc (.obt (.ret (V.agg [V.int u64 (m5 (u64.wrap x0) (u64.wrap x1)), V.int u64 (nm (u64.wrap x0) (u64.wrap x1))])))
theorem GW (x0 x1 : Int) : Fit noD (bk JJ tH u0 Mm [vi x0, vi x1]) (JS x0 x1) := ⟨by kernel_rfl, by kernel_rfl⟩
def jG (x0 x1 : Int) : Int := m5 (u64.wrap x0) (u64.wrap x1)
def jl (x0 x1 : Int) : Int := nm (u64.wrap x0) (u64.wrap x1)
def F2 (x0 x1 : Int) : V := .agg [.int u64 (jG x0 x1), .int u64 (jl x0 x1)]
theorem H4 (x0 x1 : Int) : evR noE (JS x0 x1) (F2 x0 x1) := ar (af (ao (by unfold F2 jG jl; rfl)))
def ww : a7 := mkC tp2 (fun _ => True) fun
 | [.int _ x0, .int _ x1] => F2 x0 x1
 | _ => .any
theorem rJ : (vP ww).Ok Tryz.prog 134 := mkE qf Tryz.func134 (by kernel_rfl) fun ds hp => rf0 (GW ..) (H4 _ _)
def IW (x0 x1 x2 x3 : Int) : RT Empty := .obi (.obi (.obi (.obi (.obi (.obi (.obi (.obi (.obi (.obi (.obi (.obi (.obi (.obi (.obi (.obi (.obi (.ret (V.bool (bif bif x0 == x2 && (x1 == x3 && true) then true else decide (x0 < x2) then true else bif x0 == x2 then decide (x1 < x3) else false)))))))))))))))))))
theorem Fi (x0 x1 x2 x3 : Int) : Fit noD (bk JJ tH u0 Kj [V.agg [V.int u64 x0, V.int u64 x1], V.agg [V.int u64 x2, V.int u64 x3]]) (IW x0 x1 x2 x3) := ⟨by kernel_rfl, by kernel_rfl⟩
def mT (x0 x1 x2 x3 : Int) : Bool := bif bif x0 == x2 && (x1 == x3 && true) then true else decide (x0 < x2) then true else bif x0 == x2 then decide (x1 < x3) else false
def GC (x0 x1 x2 x3 : Int) : V := .bool (mT x0 x1 x2 x3)
theorem JQ (x0 x1 x2 x3 : Int) : evR noE (IW x0 x1 x2 x3) (GC x0 x1 x2 x3) := ak (ak (ak (ak (ak (ak (ak (ak (ak (ak (ak (ak (ak (ak (ak (ak (ak (ao (by unfold GC mT; rfl))))))))))))))))))
def wH : a7 := mkC [.agg [.int .u64, .int .u64], .agg [.int .u64, .int .u64]] (fun _ => True) fun
 | [.agg [.int _ x0, .int _ x1], .agg [.int _ x2, .int _ x3]] => GC x0 x1 x2 x3
 | _ => .any
theorem qK : (vP wH).Ok Tryz.prog 135 := mkE qf Tryz.func135 (by kernel_rfl) fun ds hp => rf0 (Fi ..) (JQ _ _ _ _)
def Fq (x0 x1 x2 x3 : Int) : Bool := bif decide (x2 < x0) then true else bif x0 == x2 then decide (x3 < x1) else false
def Ba (x0 x1 : Int) : Int := u64.wrap (u64.wrap (u64.wrap (u64.wrap ((u64.wrap x0).tdiv 4294967296) * u64.wrap ((u64.wrap x1).tdiv 4294967296)) + u64.wrap ((u64.wrap (u64.wrap (u64.wrap ((u64.wrap x0).tdiv 4294967296) * (u64.wrap x1).tmod 4294967296) + u64.wrap ((u64.wrap ((u64.wrap x0).tmod 4294967296 * (u64.wrap x1).tmod 4294967296)).tdiv 4294967296))).tdiv 4294967296)) + u64.wrap ((u64.wrap (u64.wrap ((u64.wrap x0).tmod 4294967296 * u64.wrap ((u64.wrap x1).tdiv 4294967296)) + (u64.wrap (u64.wrap (u64.wrap ((u64.wrap x0).tdiv 4294967296) * (u64.wrap x1).tmod 4294967296) + u64.wrap ((u64.wrap ((u64.wrap x0).tmod 4294967296 * (u64.wrap x1).tmod 4294967296)).tdiv 4294967296))).tmod 4294967296)).tdiv 4294967296))
def Br (x0 x1 : Int) : Int := u64.wrap (u64.wrap (u64.wrap (u64.wrap ((u64.wrap x0).tmod 4294967296 * u64.wrap ((u64.wrap x1).tdiv 4294967296)) + (u64.wrap (u64.wrap (u64.wrap ((u64.wrap x0).tdiv 4294967296) * (u64.wrap x1).tmod 4294967296) + u64.wrap ((u64.wrap ((u64.wrap x0).tmod 4294967296 * (u64.wrap x1).tmod 4294967296)).tdiv 4294967296))).tmod 4294967296) * 4294967296) + (u64.wrap ((u64.wrap x0).tmod 4294967296 * (u64.wrap x1).tmod 4294967296)).tmod 4294967296)
def m78 (x0 x1 x2 x3 x4 x5 : Int) : RT Empty := .obc (.obt (.obc (.obt (.obc (.obt (.ret (vi (bY (aG x2 x0) (aH x3 x1) (aG x4 x0) (aH x5 x1)))))))))
theorem IG (x0 x1 x2 x3 x4 x5 : Int) : Fit noD (bk JJ tH u0 s78 [V.agg [vi x0, vi x1, vi x2, vi x3], V.agg [vi x4, vi x5]]) (m78 x0 x1 x2 x3 x4 x5) := ⟨by kernel_rfl, by kernel_rfl⟩
def bR (x0 x1 x2 x3 x4 x5 : Int) : Int := bY (aG x2 x0) (aH x3 x1) (aG x4 x0) (aH x5 x1)
def R78 (x0 x1 x2 x3 x4 x5 : Int) : V := .int i64 (bR x0 x1 x2 x3 x4 x5)
theorem Kl (x0 x1 x2 x3 x4 x5 : Int) : evR noE (m78 x0 x1 x2 x3 x4 x5) (R78 x0 x1 x2 x3 x4 x5) := ar (af (ar (af (ar (af (ao (by unfold R78 bR; rfl)))))))
def C78 : a7 := mkC [.agg tp4, .agg tp2] (fun _ => True) fun
 | [.agg [.int _ x0, .int _ x1, .int _ x2, .int _ x3], .agg [.int _ x4, .int _ x5]] => R78 x0 x1 x2 x3 x4 x5
 | _ => .any
theorem zu : (vP C78).Ok Tryz.prog 78 := mkE qf Tryz.func78 (by kernel_rfl) fun ds hp => rf0 (IG ..) (Kl _ _ _ _ _ _)
def m54 (x0 x1 x2 x3 : Int) : RT Empty := .ret (V.agg [vi x0, vi x1, vi x2, vi x1, vi x2, vi x3, vi x0, vi x3])
theorem Hp (x0 x1 x2 x3 : Int) : Fit noD (bk JJ tH u0 s54 [V.agg [vi x0, vi x1, vi x2, vi x3]]) (m54 x0 x1 x2 x3) := ⟨by kernel_rfl, by kernel_rfl⟩
def R54 (x0 x1 x2 x3 : Int) : V := .agg [.int i64 (x0), .int i64 (x1), .int i64 (x2), .int i64 (x1), .int i64 (x2), .int i64 (x3), .int i64 (x0), .int i64 (x3)]
theorem Kw (x0 x1 x2 x3 : Int) : evR noE (m54 x0 x1 x2 x3) (R54 x0 x1 x2 x3) := ao (by unfold R54 ; rfl)
def C54 : a7 := mkC [.agg tp4] (fun _ => True) fun
 | [.agg [.int _ x0, .int _ x1, .int _ x2, .int _ x3]] => R54 x0 x1 x2 x3
 | _ => .any
theorem zb : (vP C54).Ok Tryz.prog 54 := mkE qf Tryz.func54 (by kernel_rfl) fun ds hp => rf0 (Hp ..) (Kw _ _ _ _)
def m48 (s0 : ByteArray) (x1 x2 x3 x4 x5 x6 x7 x8 x9 x10 : Int) : RT Empty := .obc (.obt (.ret (V.agg [vi x1, vi x2, vi x3, vi (max 0 (i64.wrap (x3 - x10))), vi (i64.wrap (x3 - x9)), vi (cq x6 x3), vi (cr x7 x3), vi (i64.wrap (x8 * x3)), V.bool (decide (x3 < x9))])))
theorem I7 (s0 : ByteArray) (x1 x2 x3 x4 x5 x6 x7 x8 x9 x10 : Int) : Fit noD (bk JJ tH u0 s48 [V.agg [V.str s0, vi x1, vi x2, vi x3, vi x4, vi x5], V.agg [vi x6, vi x7, vi x8, vi x9, vi x10]]) (m48 s0 x1 x2 x3 x4 x5 x6 x7 x8 x9 x10) := ⟨by kernel_rfl, by kernel_rfl⟩
def gx (x3 x10 : Int) : Int := max 0 (i64.wrap (x3 - x10))
def gM (x3 x9 : Int) : Int := i64.wrap (x3 - x9)
def gL (x3 x6 : Int) : Int := cq x6 x3
def gH (x3 x7 : Int) : Int := cr x7 x3
def gC (x3 x8 : Int) : Int := i64.wrap (x8 * x3)
def eq (x3 x9 : Int) : Bool := decide (x3 < x9)
def R48 (s0 : ByteArray) (x1 x2 x3 x4 x5 x6 x7 x8 x9 x10 : Int) : V := .agg [.int i64 (x1), .int i64 (x2), .int i64 (x3), .int i64 (gx x3 x10), .int i64 (gM x3 x9), .int i64 (gL x3 x6), .int i64 (gH x3 x7), .int i64 (gC x3 x8), .bool (eq x3 x9)]
theorem K4 (s0 : ByteArray) (x1 x2 x3 x4 x5 x6 x7 x8 x9 x10 : Int) : evR noE (m48 s0 x1 x2 x3 x4 x5 x6 x7 x8 x9 x10) (R48 s0 x1 x2 x3 x4 x5 x6 x7 x8 x9 x10) := ar (af (ao (by unfold R48 gx gM gL gH gC eq; rfl)))
def C48 : a7 := mkC [.agg tyC, .agg tyT] (fun _ => True) fun
 | [.agg [.str s0, .int _ x1, .int _ x2, .int _ x3, .int _ x4, .int _ x5], .agg [.int _ x6, .int _ x7, .int _ x8, .int _ x9, .int _ x10]] => R48 s0 x1 x2 x3 x4 x5 x6 x7 x8 x9 x10
 | _ => .any
theorem zB : (vP C48).Ok Tryz.prog 48 := mkE qf Tryz.func48 (by kernel_rfl) fun ds hp => rf0 (I7 ..) (K4 _ _ _ _ _ _ _ _ _ _ _)
def H5 (x0 x1 x2 x3 x4 x5 x6 x7 : Int) (b8 : Bool) (x9 x10 x11 : Int) : RT Empty := .obc (.obt (.ret (V.agg [vi (i64.wrap (i64.wrap (x2 * x0) + i64.wrap (x11 * aG x9 x0))), vi (i64.wrap (i64.wrap (x2 * x1) + i64.wrap (x11 * aH x10 x1)))])))
theorem Gu (x0 x1 x2 x3 x4 x5 x6 x7 : Int) (b8 : Bool) (x9 x10 x11 : Int) : Fit noD (bk JJ tH u0 LU [V.agg [vi x0, vi x1, vi x2, vi x3, vi x4, vi x5, vi x6, vi x7, V.bool b8], V.agg [vi x9, vi x10], vi x11]) (H5 x0 x1 x2 x3 x4 x5 x6 x7 b8 x9 x10 x11) := ⟨by kernel_rfl, by kernel_rfl⟩
def aW (x0 x2 x9 x11 : Int) : Int := i64.wrap (i64.wrap (x2 * x0) + i64.wrap (x11 * aG x9 x0))
def aV (x1 x2 x10 x11 : Int) : Int := i64.wrap (i64.wrap (x2 * x1) + i64.wrap (x11 * aH x10 x1))
def FN (x0 x1 x2 x3 x4 x5 x6 x7 : Int) (b8 : Bool) (x9 x10 x11 : Int) : V := .agg [.int i64 (aW x0 x2 x9 x11), .int i64 (aV x1 x2 x10 x11)]
theorem II (x0 x1 x2 x3 x4 x5 x6 x7 : Int) (b8 : Bool) (x9 x10 x11 : Int) : evR noE (H5 x0 x1 x2 x3 x4 x5 x6 x7 b8 x9 x10 x11) (FN x0 x1 x2 x3 x4 x5 x6 x7 b8 x9 x10 x11) := ar (af (ao (by unfold FN aW aV; rfl)))
def wC : a7 := mkC [.agg [.int .i64, .int .i64, .int .i64, .int .i64, .int .i64, .int .i64, .int .i64, .int .i64, .bool], .agg tp2, .int .i64] (fun _ => True) fun
 | [.agg [.int _ x0, .int _ x1, .int _ x2, .int _ x3, .int _ x4, .int _ x5, .int _ x6, .int _ x7, .bool b8], .agg [.int _ x9, .int _ x10], .int _ x11] => FN x0 x1 x2 x3 x4 x5 x6 x7 b8 x9 x10 x11
 | _ => .any
theorem rD : (vP wC).Ok Tryz.prog 102 := mkE qf Tryz.func102 (by kernel_rfl) fun ds hp => rf0 (Gu ..) (II _ _ _ _ _ _ _ _ _ _ _ _)
def BW (x3 x10 : Int) : Int := i64.wrap (x3 - min x10 x3)
def BB (x3 x9 : Int) : Int := i64.wrap (x3 - x9)
def Cm (x3 x6 : Int) : Int := i64.wrap (x3 * x6)
def Bm (x3 x7 : Int) : Int := i64.wrap (x3 * x7)
def AF (x3 x8 : Int) : Int := i64.wrap (x3 * x8)
end Go.Dx
namespace Go.Dx
open Go.IntKind (i64 u64 u8)
open Go.Sx
theorem dM {n : Nat} {P : Nat -> Prop} (h : ∀ i, i <= n -> (i < n -> P (i + 1)) -> P i) : ∀ i, i <= n -> P i := by
 have key : ∀ k i, i + k = n -> P i := by
  intro k
  induction k with
  | zero => intro i e; exact h i (by omega) fun h => by omega
  | succ k ih => intro i e; exact h i (by omega) fun _ => ih (i + 1) (by omega)
 exact fun i hi => key (n - i) i (by omega)
theorem aA {x : Int} (h1 : -9223372036854775808 <= x) (h2 : x <= 9223372036854775807) : i64.wrap x = x := IntWalk.i64_in _ (by omega)
theorem yG {i n : Nat} (h : i < n) (hn : n <= 9223372036854775807) : i64.wrap ((i : Int) + 1) = ((i + 1 : Nat) : Int) := by
 rw [aA (by omega) (by omega)]; omega
theorem yL {n : Nat} {p : Nat -> Bool} : fO n p = true ↔ ∀ i, i < n -> p i = true := ⟨dJ, mA⟩
theorem qn {n : Nat} {p : Nat -> Bool} (i : Nat) (hi : i < n) (h : p i = false) : fO n p = false := by
 cases hb : fO n p with
 | false => rfl
 | true => rw [dJ hb i hi] at h; cases h
def wO (p : Nat -> Bool) : Nat -> Nat -> Int
 | 0, _ => -1
 | k + 1, i => bif p i then (i : Int) else wO p k (i + 1)
def idx (n : Nat) (p : Nat -> Bool) : Int := wO p n 0
theorem r4 {p : Nat -> Bool} : ∀ (k i : Nat), (∀ j, i <= j -> j < i + k -> p j = false) -> wO p k i = -1
 | 0, _, _ => rfl
 | k + 1, i, h => by simp only [wO, h i (Nat.le_refl _) (by omega), cond_false]; exact r4 k (i + 1) fun j h1 h2 => h j (by omega) (by omega)
theorem rz {p : Nat -> Bool} {j : Nat} (hj : p j = true) : ∀ (k i : Nat), i <= j -> j < i + k -> (∀ l, i <= l -> l < j -> p l = false) -> wO p k i = j
 | 0, i, h1, h2, _ => by omega
 | k + 1, i, h1, h2, h => by
   by_cases e : i = j
   ·subst e; simp only [wO, hj, cond_true]
   ·simp only [wO, h i (Nat.le_refl _) (by omega), cond_false]
    exact rz hj k (i + 1) (by omega) (by omega) fun l h3 h4 => h l (by omega) h4
theorem lT {n : Nat} {p : Nat -> Bool} (h : ∀ j, j < n -> p j = false) : idx n p = -1 := r4 n 0 fun j _ h2 => h j (by omega)
theorem l9 {n : Nat} {p : Nat -> Bool} {j : Nat} (hj : p j = true) (h1 : j < n) (h : ∀ l, l < j -> p l = false) : idx n p = j := rz hj n 0 (by omega) (by omega) fun l _ h4 => h l h4
theorem nG {n : Nat} {p : Nat -> Bool} : (idx n p = -1 /\ ∀ j, j < n -> p j = false) ∨ ∃ j, j < n /\ idx n p = (j : Int) /\ p j = true /\ ∀ l, l < j -> p l = false := by
 by_cases h : ∀ j, j < n -> p j = false
 ·exact .inl ⟨lT h, h⟩
 ·right
  have : ∃ j, j < n /\ p j = true := by
   simp only [Classical.not_forall] at h
   obtain ⟨j, hj, hp⟩ := h
   exact ⟨j, hj, by simpa using hp⟩
  have key : ∀ m, (∃ j, j < m /\ j < n /\ p j = true) -> ∃ j, j < n /\ p j = true /\ ∀ l, l < j -> p l = false := by
   intro m
   induction m with
   | zero => rintro ⟨j, hj, _⟩; omega
   | succ m ih =>
     rintro ⟨j, hj, hn, hp⟩
     by_cases hm : ∃ j, j < m /\ j < n /\ p j = true
     ·exact ih hm
     ·refine ⟨j, hn, hp, fun l hl => ?_⟩
      cases hb : p l with
      | false => rfl
      | true => exact (hm ⟨l, by omega, by omega, hb⟩).elim
  obtain ⟨j, hj, hp⟩ := this
  obtain ⟨j, h1, h2, h3⟩ := key n ⟨j, hj, hj, hp⟩
  exact ⟨j, h1, l9 h2 h1 h3, h2, h3⟩
def exB (n : Nat) (p : Nat -> Bool) : Bool := !fO n fun i => !p i
theorem kw {n : Nat} {p : Nat -> Bool} : decide (0 <= idx n p) = exB n p := by
 rcases nG (n := n) (p := p) with ⟨h1, h2⟩ | ⟨j, h1, h2, h3, _⟩
 ·rw [h1]; unfold exB; rw [mA fun i hi => by rw [h2 i hi]; rfl]; rfl
 ·rw [h2]; unfold exB; rw [qn j h1 (by rw [h3]; rfl)]; simp
section
variable {S : Type} {step : S -> RT S} {r : V}
theorem Ev.st {s : S} (h0 : cz (step s) = true) (h : evR (Ev step) (step s) r) : Ev step s r := Ev.of h0 h
end
end Go.Dx
namespace Go.Dx
open Go.IntKind (i64 u64 u8)
open Go.Sx
section
variable {S : Type} {step : S -> RT S}
theorem nt {L : Int -> S} {n : Nat} {p : Nat -> Bool} (hn : n <= 9223372036854775807)
 (hst : ∀ i : Nat, step (L i) = .br (decide ((i : Int) < (n : Int))) (.ob (decide (0 <= (i : Int) /\ (i : Int) < (n : Int))) (.obc (.obt (.br (p i) (.ret (.int .i64 i)) (.next [] (L (i64.wrap ((i : Int) + 1))) []))))) (.ret (.int .i64 (-1)))) :
 Ev step (L 0) (.int .i64 (idx n p)) := by
 have key := dM (n := n) (P := fun i => (∀ j, j < i -> p j = false) -> Ev step (L i) (.int .i64 (idx n p))) fun i hi ih hj => by
  refine Ev.of (by rw [hst]; rfl) ?_
  rw [hst]
  refine aL (fun h => ?_) (fun h => ?_)
  ·have hlt : i < n := by simpa using h
   refine ac (by simpa using hlt) (ar (af (aL (fun hb => ao ?_) (fun hb => aR ?_))))
   ·rw [l9 hb hlt hj]
   ·rw [yG hlt hn]
    exact ih hlt fun j h1 => by
     by_cases e : j = i
     ·subst e; exact hb
     ·exact hj j (by omega)
  ·have : i = n := by have : ¬ i < n := by simpa using h
                      omega
   subst this
   refine ao ?_
   rw [lT hj]
 exact key 0 (Nat.zero_le _) fun j hj => by omega
end
end Go.Dx
namespace Go.Dx
open Go.IntKind (i64 u64 u8)
open Go.Sx
theorem Ig {n : Nat} (hn : n <= 9223372036854775807) (p : Nat -> Bool) {P : Int -> Prop} (hstep : ∀ i : Nat, i < n -> (∀ j, j < i -> p j = false) -> (p i = false -> P (i64.wrap ((i : Int) + 1))) -> P i) (hend : (∀ j, j < n -> p j = false) -> P n) : P 0 := by
 have key := dM (n := n) (P := fun i => (∀ j, j < i -> p j = false) -> P i) fun i hi ih hj => by
  by_cases hlt : i < n
  ·refine hstep i hlt hj fun hp => ?_
   rw [yG hlt hn]
   exact ih hlt fun j h1 => by
    by_cases e : j = i
    ·subst e; exact hp
    ·exact hj j (by omega)
  ·have : i = n := by omega
   subst this; exact hend hj
 exact key 0 (Nat.zero_le _) fun j hj => by omega
section
variable {S : Type} {Nx : S -> V -> Prop} {r : V} {x y : RT S} {i n : Nat}
theorem Ce (h : i < n) (hx : evR Nx x r) : evR Nx (.br (decide ((i : Int) < (n : Int))) x y) r := ⟨fun _ => hx, fun k => by have := of_decide_eq_false k; omega⟩
theorem mP (hy : evR Nx y r) : evR Nx (.br (decide ((n : Int) < (n : Int))) x y) r := ⟨(fun k => by have := of_decide_eq_true k; omega), fun _ => hy⟩
theorem Cd (h : i < n) (hx : evR Nx x r) : evR Nx (.ob (decide (0 <= (i : Int) /\ (i : Int) < (n : Int))) x) r := ⟨decide_eq_true (by omega), hx⟩
theorem cX {b : Bool} (h : b = true) (hx : evR Nx x r) : evR Nx (.br b x y) r := ⟨fun _ => hx, fun k => by rw [h] at k; cases k⟩
theorem cH {b : Bool} (h : b = false) (hy : evR Nx y r) : evR Nx (.br b x y) r := ⟨(fun k => by rw [h] at k; cases k), fun _ => hy⟩
end
end Go.Dx
namespace Go.Dx
open Go.IntKind (i64 u64 u8)
theorem bN {n : Nat} {p : Nat -> Bool} (i : Nat) (hi : i < n) (h : p i = true) : exB n p = true := by
 unfold exB; rw [qn i hi (by rw [h]; rfl)]; rfl
theorem eg {n : Nat} {p : Nat -> Bool} (h : ∀ i, i < n -> p i = false) : exB n p = false := by
 unfold exB; rw [mA fun i hi => by rw [h i hi]; rfl]; rfl
theorem kz {n : Nat} {p : Nat -> Bool} : exB n p = true ↔ ∃ i, i < n /\ p i = true := by
 constructor
 ·intro h
  apply Classical.byContradiction
  intro hn
  rw [eg fun i hi => by
   cases hp : p i with
   | false => rfl
   | true => exact (hn ⟨i, hi, hp⟩).elim] at h
  cases h
 ·rintro ⟨i, hi, h⟩; exact bN i hi h
end Go.Dx
namespace Go.Dx
open Go.IntKind (i64 u64 u8)
open Go.Sx
def eO (n : Nat) (c : Nat -> Int) : Int := bif idx n (fun i => c i != 0) == -1 then 0 else idx n fun i => c i != 0
def cM (n : Nat) (c : Nat -> Int) : Int := bif idx n (fun i => c i != 0) == -1 then 0 else c (idx n fun i => c i != 0).toNat
theorem pT {n : Nat} {c : Nat -> Int} (h : ∀ j, j < n -> (c j != 0) = false) : eO n c = 0 /\ cM n c = 0 := by
 unfold eO cM; rw [lT h]; exact ⟨rfl, rfl⟩
theorem pi {n : Nat} {c : Nat -> Int} {i : Nat} (hi : i < n) (hc : (c i != 0) = true) (h : ∀ j, j < i -> (c j != 0) = false) : eO n c = i /\ cM n c = c i := by
 unfold eO cM; rw [l9 hc hi h]
 have : ((i : Int) == -1) = false := by rw [beq_eq_false_iff_ne]; omega
 rw [this]; exact ⟨rfl, rfl⟩
section
variable {S : Type} {step : S -> RT S}
theorem mC {L : Int -> S} {n : Nat} {c : Nat -> Int} {Q : Nat -> Prop} {ρ : Rho} (W : Nat -> RT S -> RT S) (hW : ∀ i x r, Q i -> evR (Ev step) x r -> evR (Ev step) (W i x) r) (hWn : ∀ i x, cz (W i x) = cz x) (hn : n <= 9223372036854775807) (hQ : ∀ i, i < n -> Q i)
 (hst : ∀ i : Nat, step (L i) = .br (decide ((i : Int) < (n : Int))) (.ob (decide (0 <= (i : Int) /\ (i : Int) < (n : Int))) (.ob (decide (0 <= (i : Int) /\ (i : Int) <= (n : Int))) (W i (.br (c i != 0) (.ret (.tup [.int .i64 i, .int .i64 (c i)])) (.next ρ (L (i64.wrap ((i : Int) + 1))) []))))) (.ret (.tup [.int .i64 0, .int .i64 0]))) :
 Ev step (L 0) (.tup [.int .i64 (eO n c), .int .i64 (cM n c)]) :=
 Ig hn (fun i => c i != 0) (P := fun i => Ev step (L i) (.tup [.int .i64 (eO n c), .int .i64 (cM n c)])) (fun i hlt hj next => Ev.of (by rw [hst]; simp only [cz, hWn, Bool.and_self]) (by
  rw [hst]
  refine Ce hlt (Cd hlt (ac (decide_eq_true (by omega)) (hW i _ _ (hQ i hlt) (aL (fun hb => ao ?_) (fun hb => aR (next hb))))))
  rw [(pi hlt hb hj).1, (pi hlt hb hj).2])) (fun hj => Ev.of (by rw [hst]; simp only [cz, hWn, Bool.and_self]) (by
  rw [hst]
  refine mP (ao ?_)
  rw [(pT hj).1, (pT hj).2]))
end
def cY (n : Nat) (f : Nat -> List V) : Prop := ∀ i, i < n -> (sv (hdV (f i))).size <= 9223372036854775807
end Go.Dx
namespace Go.Dx
open Go.IntKind (i64 u64 u8)
theorem ng {b : Bool} (h : (!!b) = true) : (!b) = false := by cases b <;> first | rfl | cases h
end Go.Dx
namespace Go.Dx
open Go.IntKind (i64 u64 u8)
open Go.Sx Go.Proofs
def D1 : bj := (134, .con ww) :: (135, .con wH) :: (78, .con C78) :: (54, .con C54) :: (48, .con C48) :: (102, .con wC) :: tH
theorem Bg : be Tryz.prog eqs its D1 := .con rJ (.con qK (.con zu (.con zb (.con zB (.con rD (qf))))))
def HV (x0 x1 x2 x3 x4 x5 x6 : Int) : RT Empty := .obc (.obt (.obc (.obt (.obc (.obt (.obc (.obt (.br (decide (dm (aG x4 x0) (aH x5 x1) (aG x2 x0) (aH x3 x1) <= 0)) (.obc (.obt (.ret (V.bool (decide (dm (aG x4 x0) (aH x5 x1) (aG x4 x0) (aH x5 x1) <= i64.wrap (x6 * x6))))))) (.br (decide (dm (aG x2 x0) (aH x3 x1) (aG x2 x0) (aH x3 x1) <= dm (aG x4 x0) (aH x5 x1) (aG x2 x0) (aH x3 x1))) (.obc (.obt (.obc (.obt (.ret (V.bool (decide (dm (aG x4 x2) (aH x5 x3) (aG x4 x2) (aH x5 x3) <= i64.wrap (x6 * x6))))))))) (.obc (.obt (.obc (.obt (.obc (.obt (.obc (.obt (.ret (V.bool (mT (jG (max (bY (aG x2 x0) (aH x3 x1) (aG x4 x0) (aH x5 x1)) (i64.wrap (0 - bY (aG x2 x0) (aH x3 x1) (aG x4 x0) (aH x5 x1)))) (max (bY (aG x2 x0) (aH x3 x1) (aG x4 x0) (aH x5 x1)) (i64.wrap (0 - bY (aG x2 x0) (aH x3 x1) (aG x4 x0) (aH x5 x1))))) (jl (max (bY (aG x2 x0) (aH x3 x1) (aG x4 x0) (aH x5 x1)) (i64.wrap (0 - bY (aG x2 x0) (aH x3 x1) (aG x4 x0) (aH x5 x1)))) (max (bY (aG x2 x0) (aH x3 x1) (aG x4 x0) (aH x5 x1)) (i64.wrap (0 - bY (aG x2 x0) (aH x3 x1) (aG x4 x0) (aH x5 x1))))) (jG (i64.wrap (x6 * x6)) (dm (aG x2 x0) (aH x3 x1) (aG x2 x0) (aH x3 x1))) (jl (i64.wrap (x6 * x6)) (dm (aG x2 x0) (aH x3 x1) (aG x2 x0) (aH x3 x1)))))))))))))))))))))))
theorem GK (x0 x1 x2 x3 x4 x5 x6 : Int) : Fit noD (bk JJ D1 u0 LS [V.agg [vi x0, vi x1, vi x2, vi x3], V.agg [vi x4, vi x5], vi x6]) (HV x0 x1 x2 x3 x4 x5 x6) := ⟨by kernel_rfl, by kernel_rfl⟩
def eu (x0 x1 x2 x3 x4 x5 x6 : Int) : Bool := bif decide (dm (aG x4 x0) (aH x5 x1) (aG x2 x0) (aH x3 x1) <= 0) then decide (dm (aG x4 x0) (aH x5 x1) (aG x4 x0) (aH x5 x1) <= i64.wrap (x6 * x6)) else bif decide (dm (aG x2 x0) (aH x3 x1) (aG x2 x0) (aH x3 x1) <= dm (aG x4 x0) (aH x5 x1) (aG x2 x0) (aH x3 x1)) then decide (dm (aG x4 x2) (aH x5 x3) (aG x4 x2) (aH x5 x3) <= i64.wrap (x6 * x6)) else mT (jG (max (bY (aG x2 x0) (aH x3 x1) (aG x4 x0) (aH x5 x1)) (i64.wrap (0 - bY (aG x2 x0) (aH x3 x1) (aG x4 x0) (aH x5 x1)))) (max (bY (aG x2 x0) (aH x3 x1) (aG x4 x0) (aH x5 x1)) (i64.wrap (0 - bY (aG x2 x0) (aH x3 x1) (aG x4 x0) (aH x5 x1))))) (jl (max (bY (aG x2 x0) (aH x3 x1) (aG x4 x0) (aH x5 x1)) (i64.wrap (0 - bY (aG x2 x0) (aH x3 x1) (aG x4 x0) (aH x5 x1)))) (max (bY (aG x2 x0) (aH x3 x1) (aG x4 x0) (aH x5 x1)) (i64.wrap (0 - bY (aG x2 x0) (aH x3 x1) (aG x4 x0) (aH x5 x1))))) (jG (i64.wrap (x6 * x6)) (dm (aG x2 x0) (aH x3 x1) (aG x2 x0) (aH x3 x1))) (jl (i64.wrap (x6 * x6)) (dm (aG x2 x0) (aH x3 x1) (aG x2 x0) (aH x3 x1)))
def Bl (x0 x1 x2 x3 x4 x5 x6 : Int) : V := .bool (eu x0 x1 x2 x3 x4 x5 x6)
theorem JU (x0 x1 x2 x3 x4 x5 x6 : Int) : evR noE (HV x0 x1 x2 x3 x4 x5 x6) (Bl x0 x1 x2 x3 x4 x5 x6) := ar (af (ar (af (ar (af (ar (af (aL (fun h0 => ar (af (ao (by unfold Bl eu; try rw [h0]; rfl)))) (fun h0 => aL (fun h1 => ar (af (ar (af (ao (by unfold Bl eu; try rw [h0]; try rw [h1]; rfl)))))) (fun h1 => ar (af (ar (af (ar (af (ar (af (ao (by unfold Bl eu; try rw [h0]; try rw [h1]; rfl)))))))))))))))))))
def vY : a7 := mkC [.agg tp4, .agg tp2, .int .i64] (fun _ => True) fun
 | [.agg [.int _ x0, .int _ x1, .int _ x2, .int _ x3], .agg [.int _ x4, .int _ x5], .int _ x6] => Bl x0 x1 x2 x3 x4 x5 x6
 | _ => .any
theorem q9 : (vP vY).Ok Tryz.prog 103 := mkE Bg Tryz.func103 (by kernel_rfl) fun ds hp => rf0 (GK ..) (JU _ _ _ _ _ _ _)
def Gx (x0 x1 x2 x3 x4 x5 x6 : Int) : Bool := bif decide (qp (bG x0 x2) (bF x1 x3) (bG x4 x2) (bF x5 x3) <= 0) then decide (qp (bG x0 x2) (bF x1 x3) (bG x0 x2) (bF x1 x3) <= i64.wrap (x6 * x6)) else bif decide (qp (bG x4 x2) (bF x5 x3) (bG x4 x2) (bF x5 x3) <= qp (bG x0 x2) (bF x1 x3) (bG x4 x2) (bF x5 x3)) then decide (qp (bG x0 x4) (bF x1 x5) (bG x0 x4) (bF x1 x5) <= i64.wrap (x6 * x6)) else !Fq (Ba (tc (j7 (bG x4 x2) (bF x5 x3) (bG x0 x2) (bF x1 x3))) (tc (j7 (bG x4 x2) (bF x5 x3) (bG x0 x2) (bF x1 x3)))) (Br (tc (j7 (bG x4 x2) (bF x5 x3) (bG x0 x2) (bF x1 x3))) (tc (j7 (bG x4 x2) (bF x5 x3) (bG x0 x2) (bF x1 x3)))) (Ba (i64.wrap (x6 * x6)) (qp (bG x4 x2) (bF x5 x3) (bG x4 x2) (bF x5 x3))) (Br (i64.wrap (x6 * x6)) (qp (bG x4 x2) (bF x5 x3) (bG x4 x2) (bF x5 x3)))
def F7 (x0 x1 x2 x3 x4 x5 x6 x7 : Int) : Bool := bif !j7 (bG x4 x2) (bF x5 x3) (bG x6 x2) (bF x7 x3) == 0 then bif bif bif decide (0 <= mS (j7 (bG x4 x2) (bF x5 x3) (bG x0 x2) (bF x1 x3))) then decide (0 <= mS (j7 (bG x6 x4) (bF x7 x5) (bG x0 x4) (bF x1 x5))) else false then decide (0 <= mS (j7 (bG x2 x6) (bF x3 x7) (bG x0 x6) (bF x1 x7))) else false then true else bif bif decide (mS (j7 (bG x4 x2) (bF x5 x3) (bG x0 x2) (bF x1 x3)) <= 0) then decide (mS (j7 (bG x6 x4) (bF x7 x5) (bG x0 x4) (bF x1 x5)) <= 0) else false then decide (mS (j7 (bG x2 x6) (bF x3 x7) (bG x0 x6) (bF x1 x7)) <= 0) else false else false
def Id (x0 : Int) : RT Empty := .obc (.obt (.ret (V.bool (aP x0 (-100000) 100000))))
theorem FP (x0 : Int) : Fit noD (bk JJ D1 u0 Ki [vi x0]) (Id x0) := ⟨by kernel_rfl, by kernel_rfl⟩
def r8 (x0 : Int) : Bool := aP x0 (-100000) 100000
def GL (x0 : Int) : V := .bool (r8 x0)
theorem Io (x0 : Int) : evR noE (Id x0) (GL x0) := ar (af (ao (by unfold GL r8; rfl)))
def wA : a7 := mkC tp1 (fun _ => True) fun
 | [.int _ x0] => GL x0
 | _ => .any
theorem r6 : (vP wA).Ok Tryz.prog 100 := mkE Bg Tryz.func100 (by kernel_rfl) fun ds hp => rf0 (FP ..) (Io _)
def wY : bj := (103, .con vY) :: (100, .con wA) :: D1
theorem u3 : be Tryz.prog eqs its wY := .con q9 (.con r6 (Bg))
def IY (s0 : ByteArray) (x1 : Int) (n2 : Nat) (f2 : FnV) (x4 : Int) (s5 : ByteArray) (x6 : Int) (n7 : Nat) (f7 : FnV) (x9 : Int) : RT Empty := .ret (V.bool (s0.toList == s5.toList))
theorem FO (s0 : ByteArray) (x1 : Int) (n2 : Nat) (f2 : FnV) (x4 : Int) (s5 : ByteArray) (x6 : Int) (n7 : Nat) (f7 : FnV) (x9 : Int) : Fit noD (bk JJ wY u0 Lw [V.agg [V.str s0, vi x1, V.sl n2 (elV tp2 f2), vi x4], V.pd [V.str s5, vi x6, V.sl n7 (elV tp2 f7), vi x9]]) (IY s0 x1 n2 f2 x4 s5 x6 n7 f7 x9) := ⟨by kernel_rfl, by kernel_rfl⟩
def sS (s0 : ByteArray) (s5 : ByteArray) : Bool := s0.toList == s5.toList
def Gh (s0 : ByteArray) (x1 : Int) (n2 : Nat) (f2 : FnV) (x4 : Int) (s5 : ByteArray) (x6 : Int) (n7 : Nat) (f7 : FnV) (x9 : Int) : V := .bool (sS s0 s5)
theorem IC (s0 : ByteArray) (x1 : Int) (n2 : Nat) (f2 : FnV) (x4 : Int) (s5 : ByteArray) (x6 : Int) (n7 : Nat) (f7 : FnV) (x9 : Int) : evR noE (IY s0 x1 n2 f2 x4 s5 x6 n7 f7 x9) (Gh s0 x1 n2 f2 x4 s5 x6 n7 f7 x9) := ao (by unfold Gh sS; rfl)
def wI : a7 := mkC [.agg tyR, .pd tyR] (fun _ => True) fun
 | [.agg [.str s0, .int _ x1, .sl n2 f2, .int _ x4], .pd [.str s5, .int _ x6, .sl n7 f7, .int _ x9]] => Gh s0 x1 n2 f2 x4 s5 x6 n7 f7 x9
 | _ => .any
theorem rP : (vP wI).Ok Tryz.prog 112 := mkE u3 Tryz.func112 (by kernel_rfl) fun ds hp => rf0 (FO ..) (IC _ _ _ _ _ _ _ _ _ _)
def Jc (x0 x1 x2 x3 : Int) : RT Empty := .obc (.obt (.obi (.obi (.obi (.br (!aP x1 1 1000) (.ob (!aP x1 1 1000) (.ob (!aP x1 1 1000) (.obc (.obt (.obi (.br (!aP x0 0 (i64.wrap (x1 - 1))) (.ob (!aP x0 0 (i64.wrap (x1 - 1))) (.obc (.obt (.obi (.obi (.obi (.br (!aP x3 1 1000) (.ob (!aP x3 1 1000) (.ob (!aP x3 1 1000) (.obc (.obt (.ret (V.bool (aP x2 0 (i64.wrap (x3 - 1))))))))) (.ret (V.kb true))))))))) (.ret (V.kb true)))))))) (.ret (V.kb true)))))))
theorem GY (x0 x1 x2 x3 : Int) : Fit noD (bk JJ wY u0 Ks [V.agg [vi x0, vi x1, vi x2, vi x3]]) (Jc x0 x1 x2 x3) := ⟨by kernel_rfl, by kernel_rfl⟩
def im (x0 x1 x2 x3 : Int) : Bool := bif !aP x1 1 1000 then bif !aP x0 0 (i64.wrap (x1 - 1)) then bif !aP x3 1 1000 then aP x2 0 (i64.wrap (x3 - 1)) else true else true else true
def yJ (x0 x1 x2 x3 : Int) : V := .bool (im x0 x1 x2 x3)
theorem HI (x0 x1 x2 x3 : Int) : evR noE (Jc x0 x1 x2 x3) (yJ x0 x1 x2 x3) := ar (af (ak (ak (ak (aL (fun h0 => ac (by first | assumption | (fail)) (ac (by first | assumption | (fail)) (ar (af (ak (aL (fun h1 => ac (by first | assumption | (fail)) (ar (af (ak (ak (ak (aL (fun h2 => ac (by first | assumption | (fail)) (ac (by first | assumption | (fail)) (ar (af (ao (by unfold yJ im; try rw [h0]; try rw [h1]; try rw [h2]; rfl)))))) (fun h2 => ao (by unfold yJ im; try rw [h0]; try rw [h1]; try rw [h2]; rfl))))))))) (fun h1 => ao (by unfold yJ im; try rw [h0]; try rw [h1]; rfl)))))))) (fun h0 => ao (by unfold yJ im; try rw [h0]; rfl)))))))
def wz : a7 := mkC [.agg tp4] (fun _ => True) fun
 | [.agg [.int _ x0, .int _ x1, .int _ x2, .int _ x3]] => yJ x0 x1 x2 x3
 | _ => .any
theorem rh : (vP wz).Ok Tryz.prog 118 := mkE u3 Tryz.func118 (by kernel_rfl) fun ds hp => rf0 (GY ..) (HI _ _ _ _)
def Ke (s0 : ByteArray) (x1 x2 x3 x4 x5 : Int) (s6 : ByteArray) (x7 x8 x9 x10 x11 : Int) : RT Empty := .ret (V.bool (s0.toList == s6.toList))
theorem E5 (s0 : ByteArray) (x1 x2 x3 x4 x5 : Int) (s6 : ByteArray) (x7 x8 x9 x10 x11 : Int) : Fit noD (bk JJ wY u0 LT [V.agg [V.str s0, vi x1, vi x2, vi x3, vi x4, vi x5], V.pd [V.str s6, vi x7, vi x8, vi x9, vi x10, vi x11]]) (Ke s0 x1 x2 x3 x4 x5 s6 x7 x8 x9 x10 x11) := ⟨by kernel_rfl, by kernel_rfl⟩
def tl (s0 : ByteArray) (s6 : ByteArray) : Bool := s0.toList == s6.toList
def FX (s0 : ByteArray) (x1 x2 x3 x4 x5 : Int) (s6 : ByteArray) (x7 x8 x9 x10 x11 : Int) : V := .bool (tl s0 s6)
theorem Ik (s0 : ByteArray) (x1 x2 x3 x4 x5 : Int) (s6 : ByteArray) (x7 x8 x9 x10 x11 : Int) : evR noE (Ke s0 x1 x2 x3 x4 x5 s6 x7 x8 x9 x10 x11) (FX s0 x1 x2 x3 x4 x5 s6 x7 x8 x9 x10 x11) := ao (by unfold FX tl; rfl)
def vZ : a7 := mkC [.agg tyC, .pd tyC] (fun _ => True) fun
 | [.agg [.str s0, .int _ x1, .int _ x2, .int _ x3, .int _ x4, .int _ x5], .pd [.str s6, .int _ x7, .int _ x8, .int _ x9, .int _ x10, .int _ x11]] => FX s0 x1 x2 x3 x4 x5 s6 x7 x8 x9 x10 x11
 | _ => .any
theorem qW : (vP vZ).Ok Tryz.prog 120 := mkE u3 Tryz.func120 (by kernel_rfl) fun ds hp => rf0 (E5 ..) (Ik _ _ _ _ _ _ _ _ _ _ _ _)
def F51 (n0 : Nat) (f0 : FnV) : Bool := fO n0 fun i => eK (jv0 (f0 i)) (-100000) 100000
inductive vk where
 | L0 (ia0 : Int)
def Fd (n0 : Nat) (f0 : FnV) : vk -> Env × List O × Option Ex
 | .L0 ia0 => ([(8, vi ia0), (7, vi (↑n0 : Int)), (6, V.sl n0 (elV tp1 f0)), (4, vi 0), (0, V.sl n0 (elV tp1 f0)), (1, V.fn 100 [] [])], [], none)
def JW : vk -> JJ
 | .L0 ia0 => (0, [])
def Eg (n0 : Nat) (f0 : FnV) : T (ca JJ) := bk JJ wY u0 KJ [V.sl n0 (elV tp1 f0), V.fn 100 [] []]
def yq (n0 : Nat) (f0 : FnV) (cx : List Cx) : Lp JJ := lpT (atT (Eg n0 f0) [])
def J2 (n0 : Nat) (f0 : FnV) : JJ -> Lp JJ
 | (0, cx) => yq n0 f0 cx
 | (_, cx) => yq n0 f0 cx
def Ma (n0 : Nat) (f0 : FnV) : LD JJ vk := ⟨JW, J2 n0 f0, Fd n0 f0⟩
def BV (n0 : Nat) (f0 : FnV) : vk -> RT vk
 | .L0 ia0 => .br (decide (ia0 < (↑n0 : Int))) (.ob (decide (0 <= ia0 /\ ia0 < (↑n0 : Int))) (.obc (.obt (.br (r8 (jv0 (f0 ia0.toNat))) (.ret (vi ia0)) (.next [] (vk.L0 (i64.wrap (ia0 + 1))) []))))) (.ret (vi (-1)))
def Gf (n0 : Nat) (f0 : FnV) : RT vk := .asm (true = true -> n0 <= 9223372036854775807) (.enter [] (vk.L0 (0)) [])
theorem F3 (n0 : Nat) (f0 : FnV) : jF wY u0 (Ma n0 f0) (Eg n0 f0) (Gf n0 f0) (BV n0 f0) := ⟨⟨by kernel_rfl, by kernel_rfl⟩, fun s => by cases s <;> exact ⟨by kernel_rfl, by kernel_rfl⟩⟩
def yT (n0 : Nat) (f0 : FnV) : Int   := idx n0 fun ii => r8 (jv0 (f0 ii))
theorem Dt (n0 : Nat) (f0 : FnV) : evR (Ev (BV n0 f0)) (Gf n0 f0) (.int .i64 (yT n0 f0)) := dF fun hn => aJ (nt hn fun i => rfl)
theorem HJ (n0 : Nat) (f0 : FnV) : evR (Ev (BV n0 f0)) (Gf n0 f0) (.int .i64 (yT n0 (elV tp1 f0))) := Dt n0 f0
def wZ : a7 := mkC [.sl tp1, .fn 100 [] []] (fun _ => True) fun
 | [.sl n0 f0, .fn _ [] []] => .int .i64 (yT n0 f0)
 | _ => .any
theorem rY : (vP wZ).Ok Tryz.prog 133 := mkE u3 Tryz.func133 (by kernel_rfl) fun ds hp => rfs (F3 ..) (HJ _ _)
def s9 : bj := (112, .con wI) :: (118, .con wz) :: (120, .con vZ) :: (133, .con wZ) :: wY
theorem ua : be Tryz.prog eqs its s9 := .con rP (.con rh (.con qW (.con rY (u3))))
def m99 (n0 : Nat) (f0 : FnV) : RT Empty := .obc (.obt (.ret (V.bool (decide (0 <= yT n0 (elV tp1 f0))))))
theorem Jr (n0 : Nat) (f0 : FnV) : Fit noD (bk JJ s9 u0 s99 [V.sl n0 (elV tp1 f0), V.fn 100 [] []]) (m99 n0 f0) := ⟨by kernel_rfl, by kernel_rfl⟩
def vj (n0 : Nat) (f0 : FnV) : Bool := decide (0 <= yT n0 (elV tp1 f0))
def R99 (n0 : Nat) (f0 : FnV) : V := .bool (vj n0 f0)
theorem Lq (n0 : Nat) (f0 : FnV) : evR noE (m99 n0 f0) (R99 n0 f0) := ar (af (ao (by unfold R99 vj; rfl)))
def C99 : a7 := mkC [.sl tp1, .fn 100 [] []] (fun _ => True) fun
 | [.sl n0 f0, .fn _ [] []] => R99 n0 f0
 | _ => .any
theorem zS : (vP C99).Ok Tryz.prog 99 := mkE ua Tryz.func99 (by kernel_rfl) fun ds hp => rf0 (Jr ..) (Lq _ _)
inductive uR where
 | L0 (ia0 : Int)
def Ha (n0 : Nat) (f0 : FnV) (s2 : ByteArray) (x3 : Int) (n4 : Nat) (f4 : FnV) (x6 : Int) : uR -> Env × List O × Option Ex
 | .L0 ia0 => ([(8, vi ia0), (7, vi (↑n0 : Int)), (6, V.sl n0 (elV tyR f0)), (4, vi 0), (0, V.sl n0 (elV tyR f0)), (1, V.fn 112 [] [V.pd [V.str s2, vi x3, V.sl n4 (elV tp2 f4), vi x6]])], [], none)
def J1 : uR -> JJ
 | .L0 ia0 => (0, [])
def ED (n0 : Nat) (f0 : FnV) (s2 : ByteArray) (x3 : Int) (n4 : Nat) (f4 : FnV) (x6 : Int) : T (ca JJ) := bk JJ s9 u0 Lg [V.sl n0 (elV tyR f0), V.fn 112 [] [V.pd [V.str s2, vi x3, V.sl n4 (elV tp2 f4), vi x6]]]
def xp (n0 : Nat) (f0 : FnV) (s2 : ByteArray) (x3 : Int) (n4 : Nat) (f4 : FnV) (x6 : Int) (cx : List Cx) : Lp JJ := lpT (atT (ED n0 f0 s2 x3 n4 f4 x6) [])
def Ka (n0 : Nat) (f0 : FnV) (s2 : ByteArray) (x3 : Int) (n4 : Nat) (f4 : FnV) (x6 : Int) : JJ -> Lp JJ
 | (0, cx) => xp n0 f0 s2 x3 n4 f4 x6 cx
 | (_, cx) => xp n0 f0 s2 x3 n4 f4 x6 cx
def KV (n0 : Nat) (f0 : FnV) (s2 : ByteArray) (x3 : Int) (n4 : Nat) (f4 : FnV) (x6 : Int) : LD JJ uR := ⟨J1, Ka n0 f0 s2 x3 n4 f4 x6, Ha n0 f0 s2 x3 n4 f4 x6⟩
def Av (n0 : Nat) (f0 : FnV) (s2 : ByteArray) (x3 : Int) (n4 : Nat) (f4 : FnV) (x6 : Int) : uR -> RT uR
 | .L0 ia0 => .br (decide (ia0 < (↑n0 : Int))) (.ob (decide (0 <= ia0 /\ ia0 < (↑n0 : Int))) (.obc (.obt (.br (sS (sv (hdV (f0 ia0.toNat))) s2) (.ret (vi ia0)) (.next [] (uR.L0 (i64.wrap (ia0 + 1))) []))))) (.ret (vi (-1)))
def Fb (n0 : Nat) (f0 : FnV) (s2 : ByteArray) (x3 : Int) (n4 : Nat) (f4 : FnV) (x6 : Int) : RT uR := .asm (true = true -> n0 <= 9223372036854775807) (.enter [] (uR.L0 (0)) [])
theorem Gv (n0 : Nat) (f0 : FnV) (s2 : ByteArray) (x3 : Int) (n4 : Nat) (f4 : FnV) (x6 : Int) : jF s9 u0 (KV n0 f0 s2 x3 n4 f4 x6) (ED n0 f0 s2 x3 n4 f4 x6) (Fb n0 f0 s2 x3 n4 f4 x6) (Av n0 f0 s2 x3 n4 f4 x6) := ⟨⟨by kernel_rfl, by kernel_rfl⟩, fun s => by cases s <;> exact ⟨by kernel_rfl, by kernel_rfl⟩⟩
def yY (n0 : Nat) (f0 : FnV) (s2 : ByteArray) : Int   := idx n0 fun ii => sS (sv (hdV (f0 ii))) s2
theorem DA (n0 : Nat) (f0 : FnV) (s2 : ByteArray) (x3 : Int) (n4 : Nat) (f4 : FnV) (x6 : Int) : evR (Ev (Av n0 f0 s2 x3 n4 f4 x6)) (Fb n0 f0 s2 x3 n4 f4 x6) (.int .i64 (yY n0 f0 s2)) := dF fun hn => aJ (nt hn fun i => rfl)
theorem HA (n0 : Nat) (f0 : FnV) (s2 : ByteArray) (x3 : Int) (n4 : Nat) (f4 : FnV) (x6 : Int) : evR (Ev (Av n0 f0 s2 x3 n4 f4 x6)) (Fb n0 f0 s2 x3 n4 f4 x6) (.int .i64 (yY n0 (elV tyR f0) s2)) := DA n0 f0 s2 x3 n4 f4 x6
def vw : a7 := mkC [.sl tyR, .fn 112 [] [.pd tyR]] (fun _ => True) fun
 | [.sl n0 f0, .fn _ [] [.pd [.str s2, .int _ x3, .sl n4 f4, .int _ x6]]] => .int .i64 (yY n0 f0 s2)
 | _ => .any
theorem qZ : (vP vw).Ok Tryz.prog 129 := mkE ua Tryz.func129 (by kernel_rfl) fun ds hp => rfs (Gv ..) (HA _ _ _ _ _ _ _)
inductive uD where
 | L0 (ia0 : Int)
def Fp (n0 : Nat) (f0 : FnV) : uD -> Env × List O × Option Ex
 | .L0 ia0 => ([(8, vi ia0), (7, vi (↑n0 : Int)), (6, V.sl n0 (elV tp4 f0)), (4, vi 0), (0, V.sl n0 (elV tp4 f0)), (1, V.fn 118 [] [])], [], none)
def It : uD -> JJ
 | .L0 ia0 => (0, [])
def EH (n0 : Nat) (f0 : FnV) : T (ca JJ) := bk JJ s9 u0 LI [V.sl n0 (elV tp4 f0), V.fn 118 [] []]
def yk (n0 : Nat) (f0 : FnV) (cx : List Cx) : Lp JJ := lpT (atT (EH n0 f0) [])
def JM (n0 : Nat) (f0 : FnV) : JJ -> Lp JJ
 | (0, cx) => yk n0 f0 cx
 | (_, cx) => yk n0 f0 cx
def Ln (n0 : Nat) (f0 : FnV) : LD JJ uD := ⟨It, JM n0 f0, Fp n0 f0⟩
def Cf (n0 : Nat) (f0 : FnV) : uD -> RT uD
 | .L0 ia0 => .br (decide (ia0 < (↑n0 : Int))) (.ob (decide (0 <= ia0 /\ ia0 < (↑n0 : Int))) (.obc (.obt (.br (im (jv0 (f0 ia0.toNat)) (jv1 (f0 ia0.toNat)) (jv2 (f0 ia0.toNat)) (jv3 (f0 ia0.toNat))) (.ret (vi ia0)) (.next [] (uD.L0 (i64.wrap (ia0 + 1))) []))))) (.ret (vi (-1)))
def FI (n0 : Nat) (f0 : FnV) : RT uD := .asm (true = true -> n0 <= 9223372036854775807) (.enter [] (uD.L0 (0)) [])
theorem F4 (n0 : Nat) (f0 : FnV) : jF s9 u0 (Ln n0 f0) (EH n0 f0) (FI n0 f0) (Cf n0 f0) := ⟨⟨by kernel_rfl, by kernel_rfl⟩, fun s => by cases s <;> exact ⟨by kernel_rfl, by kernel_rfl⟩⟩
def yW (n0 : Nat) (f0 : FnV) : Int   := idx n0 fun ii => im (jv0 (f0 ii)) (jv1 (f0 ii)) (jv2 (f0 ii)) (jv3 (f0 ii))
theorem Df (n0 : Nat) (f0 : FnV) : evR (Ev (Cf n0 f0)) (FI n0 f0) (.int .i64 (yW n0 f0)) := dF fun hn => aJ (nt hn fun i => rfl)
theorem Ib (n0 : Nat) (f0 : FnV) : evR (Ev (Cf n0 f0)) (FI n0 f0) (.int .i64 (yW n0 (elV tp4 f0))) := Df n0 f0
def wT : a7 := mkC [.sl tp4, .fn 118 [] []] (fun _ => True) fun
 | [.sl n0 f0, .fn _ [] []] => .int .i64 (yW n0 f0)
 | _ => .any
theorem rC : (vP wT).Ok Tryz.prog 148 := mkE ua Tryz.func148 (by kernel_rfl) fun ds hp => rfs (F4 ..) (Ib _ _)
inductive uX where
 | L0 (ia0 : Int)
def GQ (n0 : Nat) (f0 : FnV) (s2 : ByteArray) (x3 x4 x5 x6 x7 : Int) : uX -> Env × List O × Option Ex
 | .L0 ia0 => ([(8, vi ia0), (7, vi (↑n0 : Int)), (6, V.sl n0 (elV tyC f0)), (4, vi 0), (0, V.sl n0 (elV tyC f0)), (1, V.fn 120 [] [V.pd [V.str s2, vi x3, vi x4, vi x5, vi x6, vi x7]])], [], none)
def J4 : uX -> JJ
 | .L0 ia0 => (0, [])
def EK (n0 : Nat) (f0 : FnV) (s2 : ByteArray) (x3 x4 x5 x6 x7 : Int) : T (ca JJ) := bk JJ s9 u0 Lo [V.sl n0 (elV tyC f0), V.fn 120 [] [V.pd [V.str s2, vi x3, vi x4, vi x5, vi x6, vi x7]]]
def xO (n0 : Nat) (f0 : FnV) (s2 : ByteArray) (x3 x4 x5 x6 x7 : Int) (cx : List Cx) : Lp JJ := lpT (atT (EK n0 f0 s2 x3 x4 x5 x6 x7) [])
def JZ (n0 : Nat) (f0 : FnV) (s2 : ByteArray) (x3 x4 x5 x6 x7 : Int) : JJ -> Lp JJ
 | (0, cx) => xO n0 f0 s2 x3 x4 x5 x6 x7 cx
 | (_, cx) => xO n0 f0 s2 x3 x4 x5 x6 x7 cx
def Ku (n0 : Nat) (f0 : FnV) (s2 : ByteArray) (x3 x4 x5 x6 x7 : Int) : LD JJ uX := ⟨J4, JZ n0 f0 s2 x3 x4 x5 x6 x7, GQ n0 f0 s2 x3 x4 x5 x6 x7⟩
def Co (n0 : Nat) (f0 : FnV) (s2 : ByteArray) (x3 x4 x5 x6 x7 : Int) : uX -> RT uX
 | .L0 ia0 => .br (decide (ia0 < (↑n0 : Int))) (.ob (decide (0 <= ia0 /\ ia0 < (↑n0 : Int))) (.obc (.obt (.br (tl (sv (hdV (f0 ia0.toNat))) s2) (.ret (vi ia0)) (.next [] (uX.L0 (i64.wrap (ia0 + 1))) []))))) (.ret (vi (-1)))
def GF (n0 : Nat) (f0 : FnV) (s2 : ByteArray) (x3 x4 x5 x6 x7 : Int) : RT uX := .asm (true = true -> n0 <= 9223372036854775807) (.enter [] (uX.L0 (0)) [])
theorem E4 (n0 : Nat) (f0 : FnV) (s2 : ByteArray) (x3 x4 x5 x6 x7 : Int) : jF s9 u0 (Ku n0 f0 s2 x3 x4 x5 x6 x7) (EK n0 f0 s2 x3 x4 x5 x6 x7) (GF n0 f0 s2 x3 x4 x5 x6 x7) (Co n0 f0 s2 x3 x4 x5 x6 x7) := ⟨⟨by kernel_rfl, by kernel_rfl⟩, fun s => by cases s <;> exact ⟨by kernel_rfl, by kernel_rfl⟩⟩
def zN (n0 : Nat) (f0 : FnV) (s2 : ByteArray) : Int   := idx n0 fun ii => tl (sv (hdV (f0 ii))) s2
theorem DH (n0 : Nat) (f0 : FnV) (s2 : ByteArray) (x3 x4 x5 x6 x7 : Int) : evR (Ev (Co n0 f0 s2 x3 x4 x5 x6 x7)) (GF n0 f0 s2 x3 x4 x5 x6 x7) (.int .i64 (zN n0 f0 s2)) := dF fun hn => aJ (nt hn fun i => rfl)
theorem Ir (n0 : Nat) (f0 : FnV) (s2 : ByteArray) (x3 x4 x5 x6 x7 : Int) : evR (Ev (Co n0 f0 s2 x3 x4 x5 x6 x7)) (GF n0 f0 s2 x3 x4 x5 x6 x7) (.int .i64 (zN n0 (elV tyC f0) s2)) := DH n0 f0 s2 x3 x4 x5 x6 x7
def vJ : a7 := mkC [.sl tyC, .fn 120 [] [.pd tyC]] (fun _ => True) fun
 | [.sl n0 f0, .fn _ [] [.pd [.str s2, .int _ x3, .int _ x4, .int _ x5, .int _ x6, .int _ x7]]] => .int .i64 (zN n0 f0 s2)
 | _ => .any
theorem qP : (vP vJ).Ok Tryz.prog 149 := mkE ua Tryz.func149 (by kernel_rfl) fun ds hp => rfs (E4 ..) (Ir _ _ _ _ _ _ _ _)
def zK : bj := (99, .con C99) :: (129, .con vw) :: (148, .con wT) :: (149, .con vJ) :: s9
theorem ub : be Tryz.prog eqs its zK := .con zS (.con qZ (.con rC (.con qP (ua))))
def m45 (n0 : Nat) (f0 : FnV) : RT Empty := .obc (.obt (.ret (V.bool (vj n0 (elV tp1 f0)))))
theorem JB (n0 : Nat) (f0 : FnV) : Fit noD (bk JJ zK u0 s45 [V.sl n0 (elV tp1 f0)]) (m45 n0 f0) := ⟨by kernel_rfl, by kernel_rfl⟩
def dK (n0 : Nat) (f0 : FnV) : Bool := vj n0 (elV tp1 f0)
def R45 (n0 : Nat) (f0 : FnV) : V := .bool (dK n0 f0)
theorem KG (n0 : Nat) (f0 : FnV) : evR noE (m45 n0 f0) (R45 n0 f0) := ar (af (ao (by unfold R45 dK; rfl)))
def C45 : a7 := mkC [.sl tp1] (fun _ => True) fun
 | [.sl n0 f0] => R45 n0 f0
 | _ => .any
theorem zt : (vP C45).Ok Tryz.prog 45 := mkE ub Tryz.func45 (by kernel_rfl) fun ds hp => rf0 (JB ..) (KG _ _)
def m90 (n0 : Nat) (f0 : FnV) (s2 : ByteArray) (x3 : Int) (n4 : Nat) (f4 : FnV) (x6 : Int) : RT Empty := .obc (.obt (.ret (V.bool (decide (0 <= yY n0 (elV tyR f0) s2)))))
theorem Ix (n0 : Nat) (f0 : FnV) (s2 : ByteArray) (x3 : Int) (n4 : Nat) (f4 : FnV) (x6 : Int) : Fit noD (bk JJ zK u0 s90 [V.sl n0 (elV tyR f0), V.fn 112 [] [V.pd [V.str s2, vi x3, V.sl n4 (elV tp2 f4), vi x6]]]) (m90 n0 f0 s2 x3 n4 f4 x6) := ⟨by kernel_rfl, by kernel_rfl⟩
def nY (n0 : Nat) (f0 : FnV) (s2 : ByteArray) : Bool := decide (0 <= yY n0 (elV tyR f0) s2)
def R90 (n0 : Nat) (f0 : FnV) (s2 : ByteArray) (x3 : Int) (n4 : Nat) (f4 : FnV) (x6 : Int) : V := .bool (nY n0 f0 s2)
theorem Mj (n0 : Nat) (f0 : FnV) (s2 : ByteArray) (x3 : Int) (n4 : Nat) (f4 : FnV) (x6 : Int) : evR noE (m90 n0 f0 s2 x3 n4 f4 x6) (R90 n0 f0 s2 x3 n4 f4 x6) := ar (af (ao (by unfold R90 nY; rfl)))
def C90 : a7 := mkC [.sl tyR, .fn 112 [] [.pd tyR]] (fun _ => True) fun
 | [.sl n0 f0, .fn _ [] [.pd [.str s2, .int _ x3, .sl n4 f4, .int _ x6]]] => R90 n0 f0 s2 x3 n4 f4 x6
 | _ => .any
theorem yZ : (vP C90).Ok Tryz.prog 90 := mkE ub Tryz.func90 (by kernel_rfl) fun ds hp => rf0 (Ix ..) (Mj _ _ _ _ _ _ _)
def Hu (n0 : Nat) (f0 : FnV) : RT Empty := .obc (.obt (.ret (V.bool (decide (0 <= yW n0 (elV tp4 f0))))))
theorem G0 (n0 : Nat) (f0 : FnV) : Fit noD (bk JJ zK u0 Mg [V.sl n0 (elV tp4 f0), V.fn 118 [] []]) (Hu n0 f0) := ⟨by kernel_rfl, by kernel_rfl⟩
def mZ (n0 : Nat) (f0 : FnV) : Bool := decide (0 <= yW n0 (elV tp4 f0))
def G9 (n0 : Nat) (f0 : FnV) : V := .bool (mZ n0 f0)
theorem Jm (n0 : Nat) (f0 : FnV) : evR noE (Hu n0 f0) (G9 n0 f0) := ar (af (ao (by unfold G9 mZ; rfl)))
def wj : a7 := mkC [.sl tp4, .fn 118 [] []] (fun _ => True) fun
 | [.sl n0 f0, .fn _ [] []] => G9 n0 f0
 | _ => .any
theorem r0 : (vP wj).Ok Tryz.prog 119 := mkE ub Tryz.func119 (by kernel_rfl) fun ds hp => rf0 (G0 ..) (Jm _ _)
def Ja (n0 : Nat) (f0 : FnV) (s2 : ByteArray) (x3 x4 x5 x6 x7 : Int) : RT Empty := .obc (.obt (.ret (V.bool (decide (0 <= zN n0 (elV tyC f0) s2)))))
theorem FZ (n0 : Nat) (f0 : FnV) (s2 : ByteArray) (x3 x4 x5 x6 x7 : Int) : Fit noD (bk JJ zK u0 Lr [V.sl n0 (elV tyC f0), V.fn 120 [] [V.pd [V.str s2, vi x3, vi x4, vi x5, vi x6, vi x7]]]) (Ja n0 f0 s2 x3 x4 x5 x6 x7) := ⟨by kernel_rfl, by kernel_rfl⟩
def nk (n0 : Nat) (f0 : FnV) (s2 : ByteArray) : Bool := decide (0 <= zN n0 (elV tyC f0) s2)
def GI (n0 : Nat) (f0 : FnV) (s2 : ByteArray) (x3 x4 x5 x6 x7 : Int) : V := .bool (nk n0 f0 s2)
theorem H9 (n0 : Nat) (f0 : FnV) (s2 : ByteArray) (x3 x4 x5 x6 x7 : Int) : evR noE (Ja n0 f0 s2 x3 x4 x5 x6 x7) (GI n0 f0 s2 x3 x4 x5 x6 x7) := ar (af (ao (by unfold GI nk; rfl)))
def wm : a7 := mkC [.sl tyC, .fn 120 [] [.pd tyC]] (fun _ => True) fun
 | [.sl n0 f0, .fn _ [] [.pd [.str s2, .int _ x3, .int _ x4, .int _ x5, .int _ x6, .int _ x7]]] => GI n0 f0 s2 x3 x4 x5 x6 x7
 | _ => .any
theorem rU : (vP wm).Ok Tryz.prog 121 := mkE ub Tryz.func121 (by kernel_rfl) fun ds hp => rf0 (FZ ..) (H9 _ _ _ _ _ _ _ _)
def zh : bj := (45, .con C45) :: (90, .con C90) :: (119, .con wj) :: (121, .con wm) :: zK
theorem tC : be Tryz.prog eqs its zh := .con zt (.con yZ (.con r0 (.con rU (ub))))
def HK (x0 x1 : Int) : RT Empty := .obt (.obt (.obc (.obt (.ret (V.bool (dK 2 (elV tp1 (bM [vi x0, vi x1] 0 1))))))))
theorem Gd (x0 x1 : Int) : Fit noD (bk JJ zh u0 Lx [V.agg [vi x0, vi x1]]) (HK x0 x1) := ⟨by kernel_rfl, by kernel_rfl⟩
def mN (x0 x1 : Int) : Bool := dK 2 (elV tp1 (bM [vi x0, vi x1] 0 1))
def Hb (x0 x1 : Int) : V := .bool (mN x0 x1)
theorem HX (x0 x1 : Int) : evR noE (HK x0 x1) (Hb x0 x1) := af (af (ar (af (ao (by unfold Hb mN; rfl)))))
def v7 : a7 := mkC [.agg tp2] (fun _ => True) fun
 | [.agg [.int _ x0, .int _ x1]] => Hb x0 x1
 | _ => .any
theorem qQ : (vP v7).Ok Tryz.prog 113 := mkE tC Tryz.func113 (by kernel_rfl) fun ds hp => rf0 (Gd ..) (HX _ _)
def m65 (n0 : Nat) (f0 : FnV) (x2 x3 x4 x5 x6 : Int) : RT Empty := .obc (.obt (.obi (.br (!dK 2 (elV tp1 (bM [vi x2, vi x3] 0 1))) (.ob (!dK 2 (elV tp1 (bM [vi x2, vi x3] 0 1))) (.obc (.obt (.obi (.obi (.obi (.br (!aP x4 1 20000) (.ob (!aP x4 1 20000) (.ob (!aP x4 1 20000) (.obc (.obt (.obi (.br (!aP x5 0 (i64.wrap (x6 - 1))) (.ob (!aP x5 0 (i64.wrap (x6 - 1))) (.obc (.obt (.br (aP x6 1 1000) (.ret (vi 7)) (.ret (vi 0)))))) (.ret (vi 7)))))))) (.ret (vi 7))))))))) (.ret (vi 7)))))
theorem Jd (n0 : Nat) (f0 : FnV) (x2 x3 x4 x5 x6 : Int) : Fit noD (bk JJ zh u0 s65 [V.sl n0 (elV tyT f0), V.agg [vi x2, vi x3, vi x4, vi x5, vi x6]]) (m65 n0 f0 x2 x3 x4 x5 x6) := ⟨by kernel_rfl, by kernel_rfl⟩
def kp (x2 x3 x4 x5 x6 : Int) : Int := bif !dK 2 (elV tp1 (bM [vi x2, vi x3] 0 1)) then bif !aP x4 1 20000 then bif !aP x5 0 (i64.wrap (x6 - 1)) then bif aP x6 1 1000 then 7 else 0 else 7 else 7 else 7
def R65 (n0 : Nat) (f0 : FnV) (x2 x3 x4 x5 x6 : Int) : V := .int i64 (kp x2 x3 x4 x5 x6)
theorem Km (n0 : Nat) (f0 : FnV) (x2 x3 x4 x5 x6 : Int) : evR noE (m65 n0 f0 x2 x3 x4 x5 x6) (R65 n0 f0 x2 x3 x4 x5 x6) := ar (af (ak (aL (fun h0 => ac (by first | assumption | (fail)) (ar (af (ak (ak (ak (aL (fun h1 => ac (by first | assumption | (fail)) (ac (by first | assumption | (fail)) (ar (af (ak (aL (fun h2 => ac (by first | assumption | (fail)) (ar (af (aL (fun h3 => ao (by unfold R65 kp; try rw [h0]; try rw [h1]; try rw [h2]; try rw [h3]; rfl)) (fun h3 => ao (by unfold R65 kp; try rw [h0]; try rw [h1]; try rw [h2]; try rw [h3]; rfl)))))) (fun h2 => ao (by unfold R65 kp; try rw [h0]; try rw [h1]; try rw [h2]; rfl)))))))) (fun h1 => ao (by unfold R65 kp; try rw [h0]; try rw [h1]; rfl))))))))) (fun h0 => ao (by unfold R65 kp; try rw [h0]; rfl)))))
def C65 : a7 := mkC [.sl tyT, .agg tyT] (fun _ => True) fun
 | [.sl n0 f0, .agg [.int _ x2, .int _ x3, .int _ x4, .int _ x5, .int _ x6]] => R65 n0 f0 x2 x3 x4 x5 x6
 | _ => .any
theorem y9 : (vP C65).Ok Tryz.prog 65 := mkE tC Tryz.func65 (by kernel_rfl) fun ds hp => rf0 (Jd ..) (Km _ _ _ _ _ _ _)
def m67 (n0 : Nat) (f0 : FnV) (x2 x3 x4 x5 : Int) (n6 : Nat) (f6 : FnV) : RT Empty := .obt (.obt (.obt (.obt (.obc (.obt (.br (dK 4 (elV tp1 (bM [vi x2, vi x3, vi x4, vi x5] 0 1))) (.ret (vi 7)) (.br (x2 == x4 && (x3 == x5 && true)) (.ret (vi 2)) (.asm (true = true -> n6 <= 9223372036854775807) (.br (decide (6 < (↑n6 : Int))) (.ret (vi 3)) (.obc (.obt (.br (mZ n6 (elV tp4 f6)) (.ret (vi 7)) (.ret (vi 0))))))))))))))
theorem HB (n0 : Nat) (f0 : FnV) (x2 x3 x4 x5 : Int) (n6 : Nat) (f6 : FnV) : Fit noD (bk JJ zh u0 s67 [V.sl n0 (elV tyF f0), V.agg [vi x2, vi x3, vi x4, vi x5, V.sl n6 (elV tp4 f6)]]) (m67 n0 f0 x2 x3 x4 x5 n6 f6) := ⟨by kernel_rfl, by kernel_rfl⟩
def jV (x2 x3 x4 x5 : Int) (n6 : Nat) (f6 : FnV) : Int := bif dK 4 (elV tp1 (bM [vi x2, vi x3, vi x4, vi x5] 0 1)) then 7 else bif x2 == x4 && (x3 == x5 && true) then 2 else bif decide (6 < (↑n6 : Int)) then 3 else bif mZ n6 (elV tp4 f6) then 7 else 0
def R67 (n0 : Nat) (f0 : FnV) (x2 x3 x4 x5 : Int) (n6 : Nat) (f6 : FnV) : V := .int i64 (jV x2 x3 x4 x5 n6 f6)
theorem KT (n0 : Nat) (f0 : FnV) (x2 x3 x4 x5 : Int) (n6 : Nat) (f6 : FnV) : evR noE (m67 n0 f0 x2 x3 x4 x5 n6 f6) (R67 n0 f0 x2 x3 x4 x5 n6 f6) := af (af (af (af (ar (af (aL (fun h0 => ao (by unfold R67 jV; try rw [h0]; rfl)) (fun h0 => aL (fun h1 => ao (by unfold R67 jV; try rw [h0]; try rw [h1]; rfl)) (fun h1 => dT (fun a2 => aL (fun h2 => ao (by unfold R67 jV; try rw [h0]; try rw [h1]; try rw [h2]; rfl)) (fun h2 => ar (af (aL (fun h3 => ao (by unfold R67 jV; try rw [h0]; try rw [h1]; try rw [h2]; try rw [h3]; rfl)) (fun h3 => ao (by unfold R67 jV; try rw [h0]; try rw [h1]; try rw [h2]; try rw [h3]; rfl))))))))))))))
def C67 : a7 := mkC [.sl tyF, .agg tyF] (fun _ => True) fun
 | [.sl n0 f0, .agg [.int _ x2, .int _ x3, .int _ x4, .int _ x5, .sl n6 f6]] => R67 n0 f0 x2 x3 x4 x5 n6 f6
 | _ => .any
theorem yN : (vP C67).Ok Tryz.prog 67 := mkE tC Tryz.func67 (by kernel_rfl) fun ds hp => rf0 (HB ..) (KT _ _ _ _ _ _ _ _)
def m53 (x0 x1 x2 x3 : Int) : RT Empty := .obc (.obt (.obi (.obi (.obi (.obi (.obi (.obi (.obi (.obi (.obi (.obi (.ret (V.bool (bif bif dK 4 (elV tp1 (bM [vi x0, vi x1, vi x2, vi x3] 0 1)) then true else decide (x2 < x0) then true else decide (x3 < x1)))))))))))))))
theorem ID (x0 x1 x2 x3 : Int) : Fit noD (bk JJ zh u0 s53 [V.agg [vi x0, vi x1, vi x2, vi x3]]) (m53 x0 x1 x2 x3) := ⟨by kernel_rfl, by kernel_rfl⟩
def lc (x0 x1 x2 x3 : Int) : Bool := bif bif dK 4 (elV tp1 (bM [vi x0, vi x1, vi x2, vi x3] 0 1)) then true else decide (x2 < x0) then true else decide (x3 < x1)
def R53 (x0 x1 x2 x3 : Int) : V := .bool (lc x0 x1 x2 x3)
theorem Mh (x0 x1 x2 x3 : Int) : evR noE (m53 x0 x1 x2 x3) (R53 x0 x1 x2 x3) := ar (af (ak (ak (ak (ak (ak (ak (ak (ak (ak (ak (ao (by unfold R53 lc; rfl)))))))))))))
def C53 : a7 := mkC [.agg tp4] (fun _ => True) fun
 | [.agg [.int _ x0, .int _ x1, .int _ x2, .int _ x3]] => R53 x0 x1 x2 x3
 | _ => .any
theorem z7 : (vP C53).Ok Tryz.prog 53 := mkE tC Tryz.func53 (by kernel_rfl) fun ds hp => rf0 (ID ..) (Mh _ _ _ _)
def hU (x0 x1 x2 x3 : Int) : Bool := bif bif F51 4 (elV tp1 (bM [vi x0, vi x1, vi x2, vi x3] 0 1)) then decide (x0 <= x2) else false then decide (x1 <= x3) else false
def De (s0 : ByteArray) (i : Nat) : Bool := bif !bif decide (97 <= ((s0.data.toList.getD i 0).toNat : Int)) then decide (((s0.data.toList.getD i 0).toNat : Int) <= 122) else false then bif (i : Int) == 0 then true else bif !bif decide (48 <= ((s0.data.toList.getD i 0).toNat : Int)) then decide (((s0.data.toList.getD i 0).toNat : Int) <= 57) else false then ((s0.data.toList.getD i 0).toNat : Int) != 45 else false else false
def y7 (s0 : ByteArray) : Bool := fO s0.size (fun i => !De s0 i) && bif decide (0 < (s0.size : Int)) then decide ((s0.size : Int) <= 24) else false
def JL (l : List V) : Bool := bif bif bif bif bif decide (jv0 l < 0) then true else decide (jv1 l <= jv0 l) then true else decide (1000 < jv1 l) then true else decide (jv2 l < 0) then true else decide (jv3 l <= jv2 l) then true else decide (1000 < jv3 l)
def F72 (x0 x1 x2 x3 : Int) (n4 : Nat) (f4 : FnV) : Int := bif !F51 4 (elV tp1 (bM [V.int .i64 x0, V.int .i64 x1, V.int .i64 x2, V.int .i64 x3] 0 ((1 + 1 + 1 + 1 - 0) / 4))) then 7 else bif x0 == x2 && (x1 == x3 && true) then 2 else bif decide (6 < (n4 : Int)) then 3 else bif exB n4 (fun i => JL (f4 i)) then 7 else 0
def wU : bj := (113, .con v7) :: (65, .con C65) :: (67, .con C67) :: (53, .con C53) :: zh
theorem AH : be Tryz.prog eqs its wU := .con qQ (.con y9 (.con yN (.con z7 (tC))))
inductive tZ where
 | L0 (ia0 : Int)
def GX (n0 : Nat) (f0 : FnV) : tZ -> Env × List O × Option Ex
 | .L0 ia0 => ([(8, vi ia0), (7, vi (↑n0 : Int)), (6, V.sl n0 (elV tp2 f0)), (4, vi 0), (0, V.sl n0 (elV tp2 f0)), (1, V.fn 113 [] [])], [], none)
def JE : tZ -> JJ
 | .L0 ia0 => (0, [])
def EC (n0 : Nat) (f0 : FnV) : T (ca JJ) := bk JJ wU u0 KF [V.sl n0 (elV tp2 f0), V.fn 113 [] []]
def xD (n0 : Nat) (f0 : FnV) (cx : List Cx) : Lp JJ := lpT (atT (EC n0 f0) [])
def Jv (n0 : Nat) (f0 : FnV) : JJ -> Lp JJ
 | (0, cx) => xD n0 f0 cx
 | (_, cx) => xD n0 f0 cx
def Lk (n0 : Nat) (f0 : FnV) : LD JJ tZ := ⟨JE, Jv n0 f0, GX n0 f0⟩
def A1 (n0 : Nat) (f0 : FnV) : tZ -> RT tZ
 | .L0 ia0 => .br (decide (ia0 < (↑n0 : Int))) (.ob (decide (0 <= ia0 /\ ia0 < (↑n0 : Int))) (.obc (.obt (.br (mN (jv0 (f0 ia0.toNat)) (jv1 (f0 ia0.toNat))) (.ret (vi ia0)) (.next [] (tZ.L0 (i64.wrap (ia0 + 1))) []))))) (.ret (vi (-1)))
def GN (n0 : Nat) (f0 : FnV) : RT tZ := .asm (true = true -> n0 <= 9223372036854775807) (.enter [] (tZ.L0 (0)) [])
theorem Fe (n0 : Nat) (f0 : FnV) : jF wU u0 (Lk n0 f0) (EC n0 f0) (GN n0 f0) (A1 n0 f0) := ⟨⟨by kernel_rfl, by kernel_rfl⟩, fun s => by cases s <;> exact ⟨by kernel_rfl, by kernel_rfl⟩⟩
def zP (n0 : Nat) (f0 : FnV) : Int   := idx n0 fun ii => mN (jv0 (f0 ii)) (jv1 (f0 ii))
theorem Ea (n0 : Nat) (f0 : FnV) : evR (Ev (A1 n0 f0)) (GN n0 f0) (.int .i64 (zP n0 f0)) := dF fun hn => aJ (nt hn fun i => rfl)
theorem Ij (n0 : Nat) (f0 : FnV) : evR (Ev (A1 n0 f0)) (GN n0 f0) (.int .i64 (zP n0 (elV tp2 f0))) := Ea n0 f0
def yQ : a7 := mkC [.sl tp2, .fn 113 [] []] (fun _ => True) fun
 | [.sl n0 f0, .fn _ [] []] => .int .i64 (zP n0 f0)
 | _ => .any
theorem uz : (vP yQ).Ok Tryz.prog 147 := mkE AH Tryz.func147 (by kernel_rfl) fun ds hp => rfs (Fe ..) (Ij _ _)
inductive S64 where
 | L0 (ia0 : Int)
def Jj (n0 : Nat) (f0 : FnV) : S64 -> Env × List O × Option Ex
 | .L0 ia0 => ([(11, vi ia0), (10, vi (↑n0 : Int)), (9, V.sl n0 (elV tyT f0)), (5, vi 0), (4, vi 0), (0, V.sl n0 (elV tyT f0)), (1, V.fn 65 [] [])], [], none)
def Kv : S64 -> JJ
 | .L0 ia0 => (0, [])
def Ic (n0 : Nat) (f0 : FnV) : T (ca JJ) := bk JJ wU u0 s64 [V.sl n0 (elV tyT f0), V.fn 65 [] []]
def B7 (n0 : Nat) (f0 : FnV) (cx : List Cx) : Lp JJ := lpT (atT (Ic n0 f0) [])
def KW (n0 : Nat) (f0 : FnV) : JJ -> Lp JJ
 | (0, cx) => B7 n0 f0 cx
 | (_, cx) => B7 n0 f0 cx
def D64 (n0 : Nat) (f0 : FnV) : LD JJ S64 := ⟨Kv, KW n0 f0, Jj n0 f0⟩
def GR (n0 : Nat) (f0 : FnV) : S64 -> RT S64
 | .L0 ia0 => .br (decide (ia0 < (↑n0 : Int))) (.ob (decide (0 <= ia0 /\ ia0 < (↑n0 : Int))) (.ob (decide (0 <= ia0 /\ ia0 <= (↑n0 : Int))) (.obc (.obt (.br (kp (jv0 (f0 ia0.toNat)) (jv1 (f0 ia0.toNat)) (jv2 (f0 ia0.toNat)) (jv3 (f0 ia0.toNat)) (jv4 (f0 ia0.toNat)) != 0) (.ret (V.tup [vi ia0, vi (kp (jv0 (f0 ia0.toNat)) (jv1 (f0 ia0.toNat)) (jv2 (f0 ia0.toNat)) (jv3 (f0 ia0.toNat)) (jv4 (f0 ia0.toNat)))])) (.next [] (S64.L0 (i64.wrap (ia0 + 1))) [])))))) (.ret (V.tup [vi 0, vi 0]))
def m64 (n0 : Nat) (f0 : FnV) : RT S64 := .asm (true = true -> n0 <= 9223372036854775807) (.enter [] (S64.L0 (0)) [])
theorem Jw (n0 : Nat) (f0 : FnV) : jF wU u0 (D64 n0 f0) (Ic n0 f0) (m64 n0 f0) (GR n0 f0) := ⟨⟨by kernel_rfl, by kernel_rfl⟩, fun s => by cases s <;> exact ⟨by kernel_rfl, by kernel_rfl⟩⟩
def c64 (n0 : Nat) (f0 : FnV) (ii : Nat) : Int := (kp (jv0 (f0 ii)) (jv1 (f0 ii)) (jv2 (f0 ii)) (jv3 (f0 ii)) (jv4 (f0 ii)))
def rV (n0 : Nat) (f0 : FnV) : Int := eO n0 (c64 n0 f0)
def kJ (n0 : Nat) (f0 : FnV) : Int := cM n0 (c64 n0 f0)
theorem E0 (n0 : Nat) (f0 : FnV) : evR (Ev (GR n0 f0)) (m64 n0 f0) (.tup [.int .i64 (rV n0 f0), .int .i64 (kJ n0 f0)]) := dF fun hn => aJ (mC (Q := fun _ => True) (fun _ x => .obc (.obt x)) (fun i x r h hx => ar (af hx)) (fun _ _ => rfl) hn (fun _ _ => trivial) fun i => rfl)
theorem LN (n0 : Nat) (f0 : FnV) : evR (Ev (GR n0 f0)) (m64 n0 f0) (.tup [.int .i64 (rV n0 (elV tyT f0)), .int .i64 (kJ n0 (elV tyT f0))]) := E0 n0 f0
def C64 : a7 := mkC [.sl tyT, .fn 65 [] []] (fun _ => True) fun
 | [.sl n0 f0, .fn _ [] []] => .tup [.int .i64 (rV n0 f0), .int .i64 (kJ n0 f0)]
 | _ => .any
theorem Cz : (vP C64).Ok Tryz.prog 64 := mkE AH Tryz.func64 (by kernel_rfl) fun ds hp => rfs (Jw ..) (LN _ _)
inductive S66 where
 | L0 (ia0 : Int)
def JR (n0 : Nat) (f0 : FnV) : S66 -> Env × List O × Option Ex
 | .L0 ia0 => ([(11, vi ia0), (10, vi (↑n0 : Int)), (9, V.sl n0 (elV tyF f0)), (5, vi 0), (4, vi 0), (0, V.sl n0 (elV tyF f0)), (1, V.fn 67 [] [])], [], none)
def Lj : S66 -> JJ
 | .L0 ia0 => (0, [])
def H6 (n0 : Nat) (f0 : FnV) : T (ca JJ) := bk JJ wU u0 s66 [V.sl n0 (elV tyF f0), V.fn 67 [] []]
def Ct (n0 : Nat) (f0 : FnV) (cx : List Cx) : Lp JJ := lpT (atT (H6 n0 f0) [])
def Mf (n0 : Nat) (f0 : FnV) : JJ -> Lp JJ
 | (0, cx) => Ct n0 f0 cx
 | (_, cx) => Ct n0 f0 cx
def D66 (n0 : Nat) (f0 : FnV) : LD JJ S66 := ⟨Lj, Mf n0 f0, JR n0 f0⟩
def Fr (n0 : Nat) (f0 : FnV) : S66 -> RT S66
 | .L0 ia0 => .br (decide (ia0 < (↑n0 : Int))) (.ob (decide (0 <= ia0 /\ ia0 < (↑n0 : Int))) (.ob (decide (0 <= ia0 /\ ia0 <= (↑n0 : Int))) (.obc (.obt (.br ((jV (jv0 (f0 ia0.toNat)) (jv1 (f0 ia0.toNat)) (jv2 (f0 ia0.toNat)) (jv3 (f0 ia0.toNat)) (c5 (hdV (tlV (tlV (tlV (tlV (f0 ia0.toNat))))))) fun i => ap tp4 (atV (hdV (tlV (tlV (tlV (tlV (f0 ia0.toNat)))))) i)) != 0) (.ret (V.tup [vi ia0, vi (jV (jv0 (f0 ia0.toNat)) (jv1 (f0 ia0.toNat)) (jv2 (f0 ia0.toNat)) (jv3 (f0 ia0.toNat)) (c5 (hdV (tlV (tlV (tlV (tlV (f0 ia0.toNat))))))) fun i => ap tp4 (atV (hdV (tlV (tlV (tlV (tlV (f0 ia0.toNat)))))) i))])) (.next [] (S66.L0 (i64.wrap (ia0 + 1))) [])))))) (.ret (V.tup [vi 0, vi 0]))
def m66 (n0 : Nat) (f0 : FnV) : RT S66 := .asm (true = true -> n0 <= 9223372036854775807) (.enter [] (S66.L0 (0)) [])
theorem Hl (n0 : Nat) (f0 : FnV) : jF wU u0 (D66 n0 f0) (H6 n0 f0) (m66 n0 f0) (Fr n0 f0) := ⟨⟨by kernel_rfl, by kernel_rfl⟩, fun s => by cases s <;> exact ⟨by kernel_rfl, by kernel_rfl⟩⟩
def c66 (n0 : Nat) (f0 : FnV) (ii : Nat) : Int := (jV (jv0 (f0 ii)) (jv1 (f0 ii)) (jv2 (f0 ii)) (jv3 (f0 ii)) (c5 (hdV (tlV (tlV (tlV (tlV (f0 ii))))))) fun i => ap tp4 (atV (hdV (tlV (tlV (tlV (tlV (f0 ii)))))) i))
def qY (n0 : Nat) (f0 : FnV) : Int := eO n0 (c66 n0 f0)
def kS (n0 : Nat) (f0 : FnV) : Int := cM n0 (c66 n0 f0)
theorem E6 (n0 : Nat) (f0 : FnV) : evR (Ev (Fr n0 f0)) (m66 n0 f0) (.tup [.int .i64 (qY n0 f0), .int .i64 (kS n0 f0)]) := dF fun hn => aJ (mC (Q := fun _ => True) (fun _ x => .obc (.obt x)) (fun i x r h hx => ar (af hx)) (fun _ _ => rfl) hn (fun _ _ => trivial) fun i => rfl)
theorem KN (n0 : Nat) (f0 : FnV) : evR (Ev (Fr n0 f0)) (m66 n0 f0) (.tup [.int .i64 (qY n0 (elV tyF f0)), .int .i64 (kS n0 (elV tyF f0))]) := E6 n0 f0
def C66 : a7 := mkC [.sl tyF, .fn 67 [] []] (fun _ => True) fun
 | [.sl n0 f0, .fn _ [] []] => .tup [.int .i64 (qY n0 f0), .int .i64 (kS n0 f0)]
 | _ => .any
theorem CB : (vP C66).Ok Tryz.prog 66 := mkE AH Tryz.func66 (by kernel_rfl) fun ds hp => rfs (Hl ..) (KN _ _)
end Go.Dx
namespace Go.Proofs
open Go.Shelf
def Tryz.lays160_ren : Go.Shelf.Ren := ⟨fun | 160 => 146 | 232 => 165 | 231 => 164 | 227 => 166 | 234 => 168 | 233 => 167 | 236 => 170 | 235 => 169 | 228 => 185 | 271 => 188 | 151 => 187 | 197 => 186 | 120 => 195 | 152 => 194 | 260 => 193 | 137 => 197 | 119 => 198 | 224 => 199 | 225 => 200 | 217 => 201 | 266 => 202 | n => n, fun | 9 => 9 | 4 => 4 | 3 => 3 | 5 => 5 | 117 => 228 | 116 => 227 | 0 => 0 | 124 => 231 | 21 => 21 | 105 => 245 | 46 => 188 | 119 => 254 | 139 => 257 | 138 => 256 | n => n, fun | 3 => 0 | 4 => 1 | n => n⟩
theorem Tryz.lays160 : Go.Proofs.Lays.n160 Tryz.prog Tryz.lays160_ren := {
 mixed := by kernel_rfl
 f119 := Tryz.func198.trans (congrArg some (by kernel_rfl))
 f120 := Tryz.func195.trans (congrArg some (by kernel_rfl))
 f137 := Tryz.func197.trans (congrArg some (by kernel_rfl))
 f151 := Tryz.func187.trans (congrArg some (by kernel_rfl))
 f152 := Tryz.func194.trans (congrArg some (by kernel_rfl))
 f160 := Tryz.func146.trans (congrArg some (by kernel_rfl))
 f197 := Tryz.func186.trans (congrArg some (by kernel_rfl))
 f217 := Tryz.func201.trans (congrArg some (by kernel_rfl))
 f224 := Tryz.func199.trans (congrArg some (by kernel_rfl))
 f225 := Tryz.func200.trans (congrArg some (by kernel_rfl))
 f227 := Tryz.func166.trans (congrArg some (by kernel_rfl))
 f228 := Tryz.func185.trans (congrArg some (by kernel_rfl))
 f231 := Tryz.func164.trans (congrArg some (by kernel_rfl))
 f232 := Tryz.func165.trans (congrArg some (by kernel_rfl))
 f233 := Tryz.func167.trans (congrArg some (by kernel_rfl))
 f234 := Tryz.func168.trans (congrArg some (by kernel_rfl))
 f235 := Tryz.func169.trans (congrArg some (by kernel_rfl))
 f236 := Tryz.func170.trans (congrArg some (by kernel_rfl))
 f260 := Tryz.func193.trans (congrArg some (by kernel_rfl))
 f266 := Tryz.func202.trans (congrArg some (by kernel_rfl))
 f271 := Tryz.func188.trans (congrArg some (by kernel_rfl))
 t0 := Tryz.underlying0
 a0 := Tryz.isAgg0
 z0 := Tryz.sizeOf0
 v0 := Tryz.zeroValue0
 t3 := Tryz.underlying3
 a3 := Tryz.isAgg3
 z3 := Tryz.sizeOf3
 v3 := Tryz.zeroValue3
 t4 := Tryz.underlying4
 a4 := Tryz.isAgg4
 z4 := Tryz.sizeOf4
 v4 := Tryz.zeroValue4
 t5 := Tryz.underlying5
 a5 := Tryz.isAgg5
 z5 := Tryz.sizeOf5
 v5 := Tryz.zeroValue5
 t9 := Tryz.underlying9
 a9 := Tryz.isAgg9
 z9 := Tryz.sizeOf9
 v9 := Tryz.zeroValue9
 t21 := Tryz.underlying21
 a21 := Tryz.isAgg21
 z21 := Tryz.sizeOf21
 v21 := Tryz.zeroValue21
 t46 := Tryz.underlying188
 a46 := Tryz.isAgg188
 z46 := Tryz.sizeOf188
 v46 := Tryz.zeroValue188
 t105 := Tryz.underlying245
 a105 := Tryz.isAgg245
 z105 := Tryz.sizeOf245
 v105 := Tryz.zeroValue245
 t116 := Tryz.underlying227
 a116 := Tryz.isAgg227
 z116 := Tryz.sizeOf227
 t117 := Tryz.underlying228
 a117 := Tryz.isAgg228
 z117 := Tryz.sizeOf228
 v117 := Tryz.zeroValue228
 t119 := Tryz.underlying254
 a119 := Tryz.isAgg254
 z119 := Tryz.sizeOf254
 t124 := Tryz.underlying231
 a124 := Tryz.isAgg231
 z124 := Tryz.sizeOf231
 v124 := Tryz.zeroValue231
 t138 := Tryz.underlying256
 a138 := Tryz.isAgg256
 z138 := Tryz.sizeOf256
 v138 := Tryz.zeroValue256
 t139 := Tryz.underlying257
 a139 := Tryz.isAgg257
 z139 := Tryz.sizeOf257
 v139 := Tryz.zeroValue257
 g3 := by kernel_rfl
 g4 := by kernel_rfl }
end Go.Proofs
namespace Go.Dx
open Go.IntKind (i64 u64 u8)
open Go.Sx Go.Proofs Go.Shelf Go.RowKit
def CY : ByteArray := ⟨#[97, 98, 99, 100, 101, 102, 103, 104, 105, 106, 107, 108, 109, 110, 111, 112, 113, 114, 115, 116, 117, 118, 119, 120, 121, 122, 48, 49, 50, 51, 52, 53, 54, 55, 56, 57, 45]⟩
def qD (s c : ByteArray) : ByteArray := ⟨(Lib.trimS s.data.toList c.data.toList).toArray⟩
def wS : a7 := mkC [.str, .str] (fun
 | [.str s, .str c] => s.size <= 9223372036854775807 /\ c = CY
 | _ => False) fun
 | [.str s, .str c] => .str (qD s c)
 | _ => .any
theorem wX (s : ByteArray) (w : World) (hs : s.size <= 9223372036854775807) : Calls Tryz.prog 146 #[.string s, .string CY] w fun e w' => e = .returned (.string (qD s CY)) /\ Below w.heap.size w w' :=
 Any.strings_Trim_laid Tryz.lays160 (by kernel_rfl) s CY w hs (by decide) (ascii_of_all (by decide))
theorem aD.below {B : bP} {m : aq} {lh : List ae} {w w' : World} (h : aD B m lh w) (hb : Below w.heap.size w w') : aD B m lh w' := by
 obtain ⟨h1, h2, h3, h4, h5⟩ := hb
 have hsz : B.w0.heap.size <= w'.heap.size := Nat.le_trans h.size h4
 refine ⟨h1.trans h.os, h2.trans h.tape, h3.trans h.output, hsz, fun b hb => (h5 b (Nat.lt_of_lt_of_le hb h.size)).trans (h.old b hb), Nat.le_trans h.fsize h4, fun b hb ho => (h5 b (Nat.lt_of_lt_of_le hb h.fsize)).trans (h.kept b hb ho), fun k cs ty hk => ?_, h.inj, h.dom, h.dead, fun k b hk => Nat.lt_of_lt_of_le (h.rng k b hk) h4⟩
 obtain ⟨b, vs, g1, g2, g3, g4⟩ := h.loc k cs ty hk
 exact ⟨b, vs, g1, g2, (h5 b (h.rng k b g1)).trans g3, g4⟩
theorem uk : (vP wS).Ok Tryz.prog 146 := by
 refine ⟨fun B m lh w args vs K hrel hargs hsp => ?_, fun _ _ _ _ _ hk ⟨ds, d, p, r, h1, h2, h3, h4, h5⟩ => ⟨ds, d, p, r, h1, h2, h3, h4, hk _ _ h5⟩, fun _ _ _ _ ⟨_, _, _, _, _, _, _, _, h⟩ => h⟩
 obtain ⟨ds, d, p, r, h1, h2, ⟨h30, h3⟩, h4, h5⟩ := hsp
 simp only [wS, mkC, Option.some.injEq, Prod.mk.injEq] at h2
 obtain ⟨rfl, rfl, rfl⟩ := h2
 have hty := (ke [.str, .str] ds [] [] rfl h30).1
 simp only [aI, bw] at hty
 obtain ⟨e1, e2, e3, e4, e5⟩ := hty
 rw [e5] at e3
 rw [e3, e2, e4] at e1
 generalize sv (hdV ds) = s at e1
 generalize sv (hdV (tlV ds)) = c at e1
 subst e1
 simp only [kI, unq] at h3 h4 h5
 obtain ⟨hs, rfl⟩ := h3
 simp only [vrs, vr] at h1
 obtain ⟨_, _, rfl, rfl, _, _, rfl, rfl, rfl⟩ := h1
 simp only [ah, vrel] at hargs
 obtain ⟨_, _, rfl, rfl, _, _, rfl, rfl, rfl⟩ := hargs
 refine ⟨⟨_, Tryz.func146, by kernel_rfl, by kernel_rfl⟩, (wX s w hs).mono fun e w' ⟨he, hb⟩ => ?_⟩
 exact ⟨_, _, m, lh, he, by simp only [toA, vrel], Ext.refl _ _, aD.below hrel hb, h5⟩
theorem yz (s : ByteArray) (h : (!s.toList == (⟨#[]⟩ : ByteArray).toList) = true) : (0 : Int) < (s.size : Int) := by
 have e : (⟨#[]⟩ : ByteArray).toList = [] := by decide +kernel
 by_cases hz : s.size = 0
 ·have : s = ⟨#[]⟩ := by
   cases s with | mk d => 
   have : d = #[] := Array.eq_empty_of_size_eq_zero hz
   rw [this]
  rw [this, e] at h; cases h
 ·omega
end Go.Dx
namespace Go.Dx
open Go.IntKind (i64 u64 u8)
open Go.Sx Go.Proofs
def Dc : bj := [(147, .con yQ), (64, .con C64), (66, .con C66), (113, .con v7), (65, .con C65), (67, .con C67), (53, .con C53), (45, .con C45), (90, .con C90), (119, .con wj), (121, .con wm), (99, .con C99), (129, .con vw), (148, .con wT), (149, .con vJ), (112, .con wI), (118, .con wz), (120, .con vZ), (133, .con wZ), (103, .con vY), (100, .con wA), (134, .con ww), (135, .con wH), (78, .con C78), (54, .con C54), (48, .con C48), (102, .con wC), (84, .con C84), (85, .con C85), (127, .con wQ), (101, .con wp), (86, .con C86), (162, .con wo), (146, .con wS)]
theorem Ck : be Tryz.prog eqs its Dc := .con uz (.con Cz (.con CB (.con qQ (.con y9 (.con yN (.con z7 (.con zt (.con yZ (.con r0 (.con rU (.con zS (.con qZ (.con rC (.con qP (.con rP (.con rh (.con qW (.con rY (.con q9 (.con r6 (.con rJ (.con qK (.con zu (.con zb (.con zB (.con rD (.con zq (.con zp (.con rL (.con rp (.con zw (.con ra (.con uk (.nil))))))))))))))))))))))))))))))))))
def J5 (n0 : Nat) (f0 : FnV) : RT Empty := .obc (.obt (.ret (V.bool (decide (0 <= zP n0 (elV tp2 f0))))))
theorem G2 (n0 : Nat) (f0 : FnV) : Fit noD (bk JJ Dc u0 KY [V.sl n0 (elV tp2 f0), V.fn 113 [] []]) (J5 n0 f0) := ⟨by kernel_rfl, by kernel_rfl⟩
def gO (n0 : Nat) (f0 : FnV) : Bool := decide (0 <= zP n0 (elV tp2 f0))
def Fv (n0 : Nat) (f0 : FnV) : V := .bool (gO n0 f0)
theorem Ii (n0 : Nat) (f0 : FnV) : evR noE (J5 n0 f0) (Fv n0 f0) := ar (af (ao (by unfold Fv gO; rfl)))
def zr : a7 := mkC [.sl tp2, .fn 113 [] []] (fun _ => True) fun
 | [.sl n0 f0, .fn _ [] []] => Fv n0 f0
 | _ => .any
theorem uU : (vP zr).Ok Tryz.prog 115 := mkE Ck Tryz.func115 (by kernel_rfl) fun ds hp => rf0 (G2 ..) (Ii _ _)
def HS (s0 : ByteArray) : RT Empty := .obp (s0.size <= (9223372036854775807 : Nat) /\ ByteArray.mk (Array.mk [(97 : UInt8), (98 : UInt8), (99 : UInt8), (100 : UInt8), (101 : UInt8), (102 : UInt8), (103 : UInt8), (104 : UInt8), (105 : UInt8), (106 : UInt8), (107 : UInt8), (108 : UInt8), (109 : UInt8), (110 : UInt8), (111 : UInt8), (112 : UInt8), (113 : UInt8), (114 : UInt8), (115 : UInt8), (116 : UInt8), (117 : UInt8), (118 : UInt8), (119 : UInt8), (120 : UInt8), (121 : UInt8), (122 : UInt8), (48 : UInt8), (49 : UInt8), (50 : UInt8), (51 : UInt8), (52 : UInt8), (53 : UInt8), (54 : UInt8), (55 : UInt8), (56 : UInt8), (57 : UInt8), (45 : UInt8)]) = ByteArray.mk (Array.mk [(97 : UInt8), (98 : UInt8), (99 : UInt8), (100 : UInt8), (101 : UInt8), (102 : UInt8), (103 : UInt8), (104 : UInt8), (105 : UInt8), (106 : UInt8), (107 : UInt8), (108 : UInt8), (109 : UInt8), (110 : UInt8), (111 : UInt8), (112 : UInt8), (113 : UInt8), (114 : UInt8), (115 : UInt8), (116 : UInt8), (117 : UInt8), (118 : UInt8), (119 : UInt8), (120 : UInt8), (121 : UInt8), (122 : UInt8), (48 : UInt8), (49 : UInt8), (50 : UInt8), (51 : UInt8), (52 : UInt8), (53 : UInt8), (54 : UInt8), (55 : UInt8), (56 : UInt8), (57 : UInt8), (45 : UInt8)])) (.obt (.obi (.obi (.obi (.obi (.obi (.obi (.obj (bif bif !s0.toList == (ByteArray.mk (Array.mk [])).toList then decide ((↑s0.size : Int) <= 24) else false then (qD s0 (ByteArray.mk (Array.mk [97, 98, 99, 100, 101, 102, 103, 104, 105, 106, 107, 108, 109, 110, 111, 112, 113, 114, 115, 116, 117, 118, 119, 120, 121, 122, 48, 49, 50, 51, 52, 53, 54, 55, 56, 57, 45]))).toList == (ByteArray.mk (Array.mk [])).toList else false) (decide ((0 : Int) <= 0 /\ 0 < (↑s0.size : Int))) (.obi (.obi (.obi (.obj (bif bif bif !s0.toList == (ByteArray.mk (Array.mk [])).toList then decide ((↑s0.size : Int) <= 24) else false then (qD s0 (ByteArray.mk (Array.mk [97, 98, 99, 100, 101, 102, 103, 104, 105, 106, 107, 108, 109, 110, 111, 112, 113, 114, 115, 116, 117, 118, 119, 120, 121, 122, 48, 49, 50, 51, 52, 53, 54, 55, 56, 57, 45]))).toList == (ByteArray.mk (Array.mk [])).toList else false then decide (97 <= (↑(s0.data.1.getD 0 0).toNat : Int)) else false) (decide ((0 : Int) <= 0 /\ 0 < (↑s0.size : Int))) (.obi (.obi (.ret (V.bool (bif bif bif bif !s0.toList == (ByteArray.mk (Array.mk [])).toList then decide ((↑s0.size : Int) <= 24) else false then (qD s0 (ByteArray.mk (Array.mk [97, 98, 99, 100, 101, 102, 103, 104, 105, 106, 107, 108, 109, 110, 111, 112, 113, 114, 115, 116, 117, 118, 119, 120, 121, 122, 48, 49, 50, 51, 52, 53, 54, 55, 56, 57, 45]))).toList == (ByteArray.mk (Array.mk [])).toList else false then decide (97 <= (↑(s0.data.1.getD 0 0).toNat : Int)) else false then decide ((↑(s0.data.1.getD 0 0).toNat : Int) <= 122) else false)))))))))))))))))
theorem Gj (s0 : ByteArray) : Fit noD (bk JJ Dc u0 Kt [V.str s0]) (HS s0) := ⟨by kernel_rfl, by kernel_rfl⟩
def jY (s0 : ByteArray) : Bool := bif bif bif bif !s0.toList == (ByteArray.mk (Array.mk [])).toList then decide ((↑s0.size : Int) <= 24) else false then (qD s0 (ByteArray.mk (Array.mk [97, 98, 99, 100, 101, 102, 103, 104, 105, 106, 107, 108, 109, 110, 111, 112, 113, 114, 115, 116, 117, 118, 119, 120, 121, 122, 48, 49, 50, 51, 52, 53, 54, 55, 56, 57, 45]))).toList == (ByteArray.mk (Array.mk [])).toList else false then decide (97 <= (↑(s0.data.1.getD 0 0).toNat : Int)) else false then decide ((↑(s0.data.1.getD 0 0).toNat : Int) <= 122) else false
def GB (s0 : ByteArray) : V := .bool (jY s0)
theorem Ih (s0 : ByteArray) (hp : s0.size <= 9223372036854775807) : evR noE (HS s0) (GB s0) := aO (by first | assumption | (exact ⟨hp, rfl⟩)) (af (ak (ak (ak (ak (ak (ak (eJ (by first | assumption | (intro h; refine dqt ⟨Int.le_refl 0, yz s0 ?_⟩; cases hb : (!s0.toList == (⟨#[]⟩ : ByteArray).toList) with | true => rfl | false => (rw [hb] at h; simp at h))) (ak (ak (ak (eJ (by first | assumption | (intro h; refine dqt ⟨Int.le_refl 0, yz s0 ?_⟩; cases hb : (!s0.toList == (⟨#[]⟩ : ByteArray).toList) with | true => rfl | false => (rw [hb] at h; simp at h))) (ak (ak (ao (by unfold GB jY; rfl))))))))))))))))
def zU : a7 := mkC [.str] (fun
 | [.str s0] => s0.size <= 9223372036854775807
 | _ => False) fun
 | [.str s0] => GB s0
 | _ => .any
theorem uo : (vP zU).Ok Tryz.prog 114 := mkE Ck Tryz.func114 (by kernel_rfl) fun ds hp => rf0 (Gj ..) (Ih _ hp)
def CX (x y h dx dy : Int) : Int := bif bif bif bif !F51 2 (elV tp1 (bM [V.int .i64 x, V.int .i64 y] 0 ((1 + 1 - 0) / 2))) then true else !eK h 1 200 then true else !eK dx (-1000) 1000 then true else !eK dy (-1000) 1000 then 7 else bif bif dx == 0 then dy == 0 else false then 2 else 0
def F73 (n6 : Nat) (f6 : FnV) (x8 : Int) : Int := bif !y7 (sv (hdV (f6 x8.toNat))) then 6 else bif exB x8.toNat (fun k => (sv (hdV (f6 k))).toList == (sv (hdV (f6 x8.toNat))).toList) then 5 else CX (jv1 (f6 x8.toNat)) (jv2 (f6 x8.toNat)) (jv3 (f6 x8.toNat)) (jv4 (f6 x8.toNat)) (jv5 (f6 x8.toNat))
def lS : bj := (117, .inl Bw u0) :: (116, .inl BY u0) :: (115, .con zr) :: (114, .con zU) :: Dc
theorem wK : be Tryz.prog eqs its lS := .inl Tryz.func117 (by kernel_rfl) (by kernel_rfl) (by kernel_rfl) (.inl Tryz.func116 (by kernel_rfl) (by kernel_rfl) (by kernel_rfl) (.con uU (.con uo (Ck))))
inductive S63 where
 | L0 (ia0 : Int) (fa1 : Nat -> List V)
 | L1 (ib0 : Int) (fb1 : Nat -> List V)
 | L2 (ic0 : Int) (fc1 : Nat -> List V)
 | L3 (id0 : Int) (fd1 : Nat -> List V)
 | L4 (ie0 : Int) (ne1 ne2 : Nat) (ie3 ie4 ie5 : Int) (ne6 : Nat) (ie7 ie8 ie9 ie10 : Int) (fe11 : Nat -> List V)
 | L5 (if0 : Int) (nf1 nf2 : Nat) (if3 if4 if5 : Int) (nf6 : Nat) (if7 if8 if9 if10 : Int) (ff11 : Nat -> List V)
 | L6 (ig0 : Int) (ng1 ng2 : Nat) (ig3 ig4 ig5 : Int) (ng6 : Nat) (ig7 ig8 ig9 ig10 : Int) (fg11 : Nat -> List V)
 | L7 (ih0 : Int) (nh1 nh2 : Nat) (ih3 ih4 ih5 : Int) (nh6 : Nat) (ih7 ih8 ih9 ih10 : Int) (fh11 : Nat -> List V)
def tz (n0 : Nat) (f0 : FnV) (s2 : ByteArray) (x3 : Int) (n4 : Nat) (f4 : FnV) (x6 : Int) : S63 -> Env × List O × Option Ex
 | .L0 ia0 fa1 => ([(3, vi ia0), (8, V.kb false), (7, vi (↑n4 : Int)), (6, V.gs 2 n4), (2, V.ns), (0, V.gs 2 n4)], [O.cells [V.str s2, vi x3, V.sl n4 (elV tp2 f4), vi x6] 54, O.hid, O.gl 2 n4 (elV tp2 fa1) 72], none)
 | .L1 ib0 fb1 => ([(3, vi ib0), (8, V.kb false), (7, vi (↑n4 : Int)), (6, V.gs 2 n4), (2, V.ns), (0, V.gs 2 n4)], [O.cells [V.str s2, vi x3, V.sl n4 (elV tp2 f4), vi x6] 54, O.hid, O.gl 2 n4 (elV tp2 fb1) 72], none)
 | .L2 ic0 fc1 => ([(3, vi ic0), (8, V.kb false), (7, vi (↑n4 : Int)), (6, V.gs 2 n4), (2, V.ns), (0, V.gs 2 n4)], [O.cells [V.str s2, vi x3, V.sl n4 (elV tp2 f4), vi x6] 54, O.hid, O.gl 2 n4 (elV tp2 fc1) 72], none)
 | .L3 id0 fd1 => ([(3, vi id0), (8, V.kb false), (7, vi (↑n4 : Int)), (6, V.gs 2 n4), (2, V.ns), (0, V.gs 2 n4)], [O.cells [V.str s2, vi x3, V.sl n4 (elV tp2 f4), vi x6] 54, O.hid, O.gl 2 n4 (elV tp2 fd1) 72], none)
 | .L4 ie0 ne1 ne2 ie3 ie4 ie5 ne6 ie7 ie8 ie9 ie10 fe11 => ([(5, vi ie0), (4, V.go 2 ne1 ne2), (28, V.go 2 ne1 ne2), (27, vi ie3), (26, V.gs 2 n4), (25, V.kb true), (24, V.agg [vi ie4, vi ie5]), (23, V.pe 2 ne6 0), (22, vi ie7), (21, vi ie3), (20, V.gs 2 n4), (19, V.agg [vi ie8, vi ie9]), (18, V.pe 2 ne1 0), (17, vi ie3), (16, V.gs 2 n4), (13, V.kb true), (12, vi (↑n4 : Int)), (11, V.gs 2 n4), (10, vi ie3), (3, vi ie10), (8, V.kb false), (7, vi (↑n4 : Int)), (6, V.gs 2 n4), (2, V.ns), (0, V.gs 2 n4)], [O.cells [V.str s2, vi x3, V.sl n4 (elV tp2 f4), vi x6] 54, O.hid, O.gl 2 n4 (elV tp2 fe11) 72], none)
 | .L5 if0 nf1 nf2 if3 if4 if5 nf6 if7 if8 if9 if10 ff11 => ([(5, vi if0), (4, V.go 2 nf1 nf2), (28, V.go 2 nf1 nf2), (27, vi if3), (26, V.gs 2 n4), (25, V.kb true), (24, V.agg [vi if4, vi if5]), (23, V.pe 2 nf6 0), (22, vi if7), (21, vi if3), (20, V.gs 2 n4), (19, V.agg [vi if8, vi if9]), (18, V.pe 2 nf1 0), (17, vi if3), (16, V.gs 2 n4), (13, V.kb true), (12, vi (↑n4 : Int)), (11, V.gs 2 n4), (10, vi if3), (3, vi if10), (8, V.kb false), (7, vi (↑n4 : Int)), (6, V.gs 2 n4), (2, V.ns), (0, V.gs 2 n4)], [O.cells [V.str s2, vi x3, V.sl n4 (elV tp2 f4), vi x6] 54, O.hid, O.gl 2 n4 (elV tp2 ff11) 72], none)
 | .L6 ig0 ng1 ng2 ig3 ig4 ig5 ng6 ig7 ig8 ig9 ig10 fg11 => ([(5, vi ig0), (4, V.go 2 ng1 ng2), (28, V.go 2 ng1 ng2), (27, vi ig3), (26, V.gs 2 n4), (25, V.kb true), (24, V.agg [vi ig4, vi ig5]), (23, V.pe 2 ng6 0), (22, vi ig7), (21, vi ig3), (20, V.gs 2 n4), (19, V.agg [vi ig8, vi ig9]), (18, V.pe 2 ng1 0), (17, vi ig3), (16, V.gs 2 n4), (13, V.kb true), (12, vi (↑n4 : Int)), (11, V.gs 2 n4), (10, vi ig3), (3, vi ig10), (8, V.kb false), (7, vi (↑n4 : Int)), (6, V.gs 2 n4), (2, V.ns), (0, V.gs 2 n4)], [O.cells [V.str s2, vi x3, V.sl n4 (elV tp2 f4), vi x6] 54, O.hid, O.gl 2 n4 (elV tp2 fg11) 72], none)
 | .L7 ih0 nh1 nh2 ih3 ih4 ih5 nh6 ih7 ih8 ih9 ih10 fh11 => ([(5, vi ih0), (4, V.go 2 nh1 nh2), (28, V.go 2 nh1 nh2), (27, vi ih3), (26, V.gs 2 n4), (25, V.kb true), (24, V.agg [vi ih4, vi ih5]), (23, V.pe 2 nh6 0), (22, vi ih7), (21, vi ih3), (20, V.gs 2 n4), (19, V.agg [vi ih8, vi ih9]), (18, V.pe 2 nh1 0), (17, vi ih3), (16, V.gs 2 n4), (13, V.kb true), (12, vi (↑n4 : Int)), (11, V.gs 2 n4), (10, vi ih3), (3, vi ih10), (8, V.kb false), (7, vi (↑n4 : Int)), (6, V.gs 2 n4), (2, V.ns), (0, V.gs 2 n4)], [O.cells [V.str s2, vi x3, V.sl n4 (elV tp2 f4), vi x6] 54, O.hid, O.gl 2 n4 (elV tp2 fh11) 72], none)
def KU : S63 -> JJ
 | .L0 ia0 fa1 => (0, [])
 | .L1 ib0 fb1 => (1, [])
 | .L2 ic0 fc1 => (2, [])
 | .L3 id0 fd1 => (3, [])
 | .L4 ie0 ne1 ne2 ie3 ie4 ie5 ne6 ie7 ie8 ie9 ie10 fe11 => (4, [])
 | .L5 if0 nf1 nf2 if3 if4 if5 nf6 if7 if8 if9 if10 ff11 => (5, [])
 | .L6 ig0 ng1 ng2 ig3 ig4 ig5 ng6 ig7 ig8 ig9 ig10 fg11 => (6, [])
 | .L7 ih0 nh1 nh2 ih3 ih4 ih5 nh6 ih7 ih8 ih9 ih10 fh11 => (7, [])
def AN (n0 : Nat) (f0 : FnV) (s2 : ByteArray) (x3 : Int) (n4 : Nat) (f4 : FnV) (x6 : Int) : T (ca JJ) := bk JJ lS u0 s63 [V.sl n0 (elV tyR f0), V.agg [V.str s2, vi x3, V.sl n4 (elV tp2 f4), vi x6]]
def v6 (n0 : Nat) (f0 : FnV) (s2 : ByteArray) (x3 : Int) (n4 : Nat) (f4 : FnV) (x6 : Int) (cx : List Cx) : Lp JJ := lpT (atT (AN n0 f0 s2 x3 n4 f4 x6) [false, false, false, false, false, true, false, true, true, false, true, false])
def AX (n0 : Nat) (f0 : FnV) (s2 : ByteArray) (x3 : Int) (n4 : Nat) (f4 : FnV) (x6 : Int) (cx : List Cx) : Lp JJ := lpT (atT (AN n0 f0 s2 x3 n4 f4 x6) [false, false, false, false, false, true, false, true, true, false, false, false])
def Bv (n0 : Nat) (f0 : FnV) (s2 : ByteArray) (x3 : Int) (n4 : Nat) (f4 : FnV) (x6 : Int) (cx : List Cx) : Lp JJ := lpT (atT (AN n0 f0 s2 x3 n4 f4 x6) [false, false, false, false, false, true, false, true, false, false, false])
def BL (n0 : Nat) (f0 : FnV) (s2 : ByteArray) (x3 : Int) (n4 : Nat) (f4 : FnV) (x6 : Int) (cx : List Cx) : Lp JJ := lpT (atT (AN n0 f0 s2 x3 n4 f4 x6) [false, false, false, false, false, true, false, false, false, false])
def GA (n0 : Nat) (f0 : FnV) (s2 : ByteArray) (x3 : Int) (n4 : Nat) (f4 : FnV) (x6 : Int) (cx : List Cx) : Lp JJ := lpT (atT (rdP lS u0 (0, []) (v6 n0 f0 s2 x3 n4 f4 x6 []) (tz n0 f0 s2 x3 n4 f4 x6 (.L0 (0 : Int) (fun _ => [])))) [true, true])
def G7 (n0 : Nat) (f0 : FnV) (s2 : ByteArray) (x3 : Int) (n4 : Nat) (f4 : FnV) (x6 : Int) (cx : List Cx) : Lp JJ := lpT (atT (rdP lS u0 (1, []) (AX n0 f0 s2 x3 n4 f4 x6 []) (tz n0 f0 s2 x3 n4 f4 x6 (.L1 (0 : Int) (fun _ => [])))) [true, true])
def Hf (n0 : Nat) (f0 : FnV) (s2 : ByteArray) (x3 : Int) (n4 : Nat) (f4 : FnV) (x6 : Int) (cx : List Cx) : Lp JJ := lpT (atT (rdP lS u0 (2, []) (Bv n0 f0 s2 x3 n4 f4 x6 []) (tz n0 f0 s2 x3 n4 f4 x6 (.L2 (0 : Int) (fun _ => [])))) [true, true])
def Gz (n0 : Nat) (f0 : FnV) (s2 : ByteArray) (x3 : Int) (n4 : Nat) (f4 : FnV) (x6 : Int) (cx : List Cx) : Lp JJ := lpT (atT (rdP lS u0 (3, []) (BL n0 f0 s2 x3 n4 f4 x6 []) (tz n0 f0 s2 x3 n4 f4 x6 (.L3 (0 : Int) (fun _ => [])))) [true, true])
def Lu (n0 : Nat) (f0 : FnV) (s2 : ByteArray) (x3 : Int) (n4 : Nat) (f4 : FnV) (x6 : Int) : JJ -> Lp JJ
 | (0, cx) => v6 n0 f0 s2 x3 n4 f4 x6 cx
 | (1, cx) => AX n0 f0 s2 x3 n4 f4 x6 cx
 | (2, cx) => Bv n0 f0 s2 x3 n4 f4 x6 cx
 | (3, cx) => BL n0 f0 s2 x3 n4 f4 x6 cx
 | (4, cx) => GA n0 f0 s2 x3 n4 f4 x6 cx
 | (5, cx) => G7 n0 f0 s2 x3 n4 f4 x6 cx
 | (6, cx) => Hf n0 f0 s2 x3 n4 f4 x6 cx
 | (7, cx) => Gz n0 f0 s2 x3 n4 f4 x6 cx
 | (_, cx) => v6 n0 f0 s2 x3 n4 f4 x6 cx
def D63 (n0 : Nat) (f0 : FnV) (s2 : ByteArray) (x3 : Int) (n4 : Nat) (f4 : FnV) (x6 : Int) : LD JJ S63 := ⟨KU, Lu n0 f0 s2 x3 n4 f4 x6, tz n0 f0 s2 x3 n4 f4 x6⟩
def lq (n0 : Nat) (f0 : FnV) (s2 : ByteArray) (x3 : Int) (n4 : Nat) (f4 : FnV) (x6 : Int) : S63 -> RT S63
 | .L0 ia0 fa1 => .br (decide (ia0 < (↑n4 : Int))) (.ob (decide (0 <= ia0 /\ ia0 < (↑n4 : Int) /\ n4 <= n4)) (.ob (decide (ia0.toNat < n4)) (.ob (decide (0 <= i64.wrap (ia0 - 1) /\ i64.wrap (ia0 - 1) < (↑n4 : Int) /\ n4 <= n4)) (.ob (decide ((i64.wrap (ia0 - 1)).toNat < n4)) (.br (jv0 (fa1 ia0.toNat) == jv0 (fa1 (i64.wrap (ia0 - 1)).toNat) && (jv1 (fa1 ia0.toNat) == jv1 (fa1 (i64.wrap (ia0 - 1)).toNat) && true)) (.ob (decide (0 <= ia0 /\ ia0 <= (↑n4 : Int))) (.enter (iR 0 3 []) (S63.L4 (1) (ia0.toNat) (n4 - ia0.toNat) (ia0) (jv0 (fa1 (i64.wrap (ia0 - 1)).toNat)) (jv1 (fa1 (i64.wrap (ia0 - 1)).toNat)) ((i64.wrap (ia0 - 1)).toNat) (i64.wrap (ia0 - 1)) (jv0 (fa1 ia0.toNat)) (jv1 (fa1 ia0.toNat)) (ia0) (elV tp2 fa1)) [⟨2, tp2, n4, elV tp2 fa1, al rfl _ _⟩])) (.next (iR 0 3 []) (S63.L0 (i64.wrap (ia0 + 1)) (elV tp2 fa1)) [⟨2, tp2, n4, elV tp2 fa1, al rfl _ _⟩])))))) (.asm (true = true -> n4 <= 9223372036854775807) (.br (decide ((↑n4 : Int) < (↑n4 : Int))) (.ret (vi 2)) (.obi (.obi (.asm ((x3 == 3) = true -> n4 <= 9223372036854775807) (.obi (.obi (.br (bif x3 == 3 then decide (2 < (↑n4 : Int)) else false) (.ret (vi 2)) (.ret (vi 0))))))))))
 | .L1 ib0 fb1 => .br (decide (ib0 < (↑n4 : Int))) (.ob (decide (0 <= ib0 /\ ib0 < (↑n4 : Int) /\ n4 <= n4)) (.ob (decide (ib0.toNat < n4)) (.ob (decide (0 <= i64.wrap (ib0 - 1) /\ i64.wrap (ib0 - 1) < (↑n4 : Int) /\ n4 <= n4)) (.ob (decide ((i64.wrap (ib0 - 1)).toNat < n4)) (.br (jv0 (fb1 ib0.toNat) == jv0 (fb1 (i64.wrap (ib0 - 1)).toNat) && (jv1 (fb1 ib0.toNat) == jv1 (fb1 (i64.wrap (ib0 - 1)).toNat) && true)) (.ob (decide (0 <= ib0 /\ ib0 <= (↑n4 : Int))) (.enter (iR 0 3 []) (S63.L5 (1) (ib0.toNat) (n4 - ib0.toNat) (ib0) (jv0 (fb1 (i64.wrap (ib0 - 1)).toNat)) (jv1 (fb1 (i64.wrap (ib0 - 1)).toNat)) ((i64.wrap (ib0 - 1)).toNat) (i64.wrap (ib0 - 1)) (jv0 (fb1 ib0.toNat)) (jv1 (fb1 ib0.toNat)) (ib0) (elV tp2 fb1)) [⟨2, tp2, n4, elV tp2 fb1, al rfl _ _⟩])) (.next (iR 0 3 []) (S63.L1 (i64.wrap (ib0 + 1)) (elV tp2 fb1)) [⟨2, tp2, n4, elV tp2 fb1, al rfl _ _⟩])))))) (.br (decide ((↑n4 : Int) < (↑n4 : Int))) (.ret (vi 2)) (.obi (.obi (.asm ((x3 == 3) = true -> n4 <= 9223372036854775807) (.obi (.obi (.br (bif x3 == 3 then decide (2 < (↑n4 : Int)) else false) (.ret (vi 2)) (.ret (vi 0)))))))))
 | .L2 ic0 fc1 => .br (decide (ic0 < (↑n4 : Int))) (.ob (decide (0 <= ic0 /\ ic0 < (↑n4 : Int) /\ n4 <= n4)) (.ob (decide (ic0.toNat < n4)) (.ob (decide (0 <= i64.wrap (ic0 - 1) /\ i64.wrap (ic0 - 1) < (↑n4 : Int) /\ n4 <= n4)) (.ob (decide ((i64.wrap (ic0 - 1)).toNat < n4)) (.br (jv0 (fc1 ic0.toNat) == jv0 (fc1 (i64.wrap (ic0 - 1)).toNat) && (jv1 (fc1 ic0.toNat) == jv1 (fc1 (i64.wrap (ic0 - 1)).toNat) && true)) (.ob (decide (0 <= ic0 /\ ic0 <= (↑n4 : Int))) (.enter (iR 0 3 []) (S63.L6 (1) (ic0.toNat) (n4 - ic0.toNat) (ic0) (jv0 (fc1 (i64.wrap (ic0 - 1)).toNat)) (jv1 (fc1 (i64.wrap (ic0 - 1)).toNat)) ((i64.wrap (ic0 - 1)).toNat) (i64.wrap (ic0 - 1)) (jv0 (fc1 ic0.toNat)) (jv1 (fc1 ic0.toNat)) (ic0) (elV tp2 fc1)) [⟨2, tp2, n4, elV tp2 fc1, al rfl _ _⟩])) (.next (iR 0 3 []) (S63.L2 (i64.wrap (ic0 + 1)) (elV tp2 fc1)) [⟨2, tp2, n4, elV tp2 fc1, al rfl _ _⟩])))))) (.br (decide ((↑n4 : Int) < (↑n4 : Int))) (.ret (vi 2)) (.obi (.obi (.asm ((x3 == 3) = true -> n4 <= 9223372036854775807) (.obi (.obi (.br (bif x3 == 3 then decide (2 < (↑n4 : Int)) else false) (.ret (vi 2)) (.ret (vi 0)))))))))
 | .L3 id0 fd1 => .br (decide (id0 < (↑n4 : Int))) (.ob (decide (0 <= id0 /\ id0 < (↑n4 : Int) /\ n4 <= n4)) (.ob (decide (id0.toNat < n4)) (.ob (decide (0 <= i64.wrap (id0 - 1) /\ i64.wrap (id0 - 1) < (↑n4 : Int) /\ n4 <= n4)) (.ob (decide ((i64.wrap (id0 - 1)).toNat < n4)) (.br (jv0 (fd1 id0.toNat) == jv0 (fd1 (i64.wrap (id0 - 1)).toNat) && (jv1 (fd1 id0.toNat) == jv1 (fd1 (i64.wrap (id0 - 1)).toNat) && true)) (.ob (decide (0 <= id0 /\ id0 <= (↑n4 : Int))) (.enter (iR 0 3 []) (S63.L7 (1) (id0.toNat) (n4 - id0.toNat) (id0) (jv0 (fd1 (i64.wrap (id0 - 1)).toNat)) (jv1 (fd1 (i64.wrap (id0 - 1)).toNat)) ((i64.wrap (id0 - 1)).toNat) (i64.wrap (id0 - 1)) (jv0 (fd1 id0.toNat)) (jv1 (fd1 id0.toNat)) (id0) (elV tp2 fd1)) [⟨2, tp2, n4, elV tp2 fd1, al rfl _ _⟩])) (.next (iR 0 3 []) (S63.L3 (i64.wrap (id0 + 1)) (elV tp2 fd1)) [⟨2, tp2, n4, elV tp2 fd1, al rfl _ _⟩])))))) (.br (decide ((↑n4 : Int) < (↑n4 : Int))) (.ret (vi 2)) (.obi (.obi (.asm ((x3 == 3) = true -> n4 <= 9223372036854775807) (.obi (.obi (.br (bif x3 == 3 then decide (2 < (↑n4 : Int)) else false) (.ret (vi 2)) (.ret (vi 0)))))))))
 | .L4 ie0 ne1 ne2 ie3 ie4 ie5 ne6 ie7 ie8 ie9 ie10 fe11 => .br (decide (ie0 < (↑ne2 : Int))) (.ob (decide (0 <= ie0 /\ ie0 < (↑ne2 : Int) /\ ne1 + ne2 <= n4)) (.ob (decide (ne1 + ie0.toNat < n4)) (.ob (decide (0 <= i64.wrap (ie0 - 1) /\ i64.wrap (ie0 - 1) < (↑ne2 : Int) /\ ne1 + ne2 <= n4)) (.ob (decide (ne1 + (i64.wrap (ie0 - 1)).toNat < n4)) (.br (!(jv0 (fe11 (ne1 + ie0.toNat)) == jv0 (fe11 (ne1 + (i64.wrap (ie0 - 1)).toNat)) && (jv1 (fe11 (ne1 + ie0.toNat)) == jv1 (fe11 (ne1 + (i64.wrap (ie0 - 1)).toNat)) && true))) (.ob (decide (0 <= ie0 /\ ie0 < (↑ne2 : Int) /\ ne1 + ne2 <= n4)) (.ob (decide (ne1 + ie0.toNat < n4)) (.ob (decide (0 <= ie10 /\ ie10 < (↑n4 : Int) /\ n4 <= n4)) (.ob (decide (ie10.toNat < n4)) (.next (iR 0 3 []) (S63.L4 (i64.wrap (ie0 + 1)) (ne1) (ne2) (ie3) (ie4) (ie5) (ne6) (ie7) (ie8) (ie9) (i64.wrap (ie10 + 1)) (fun i' => bif i'.beq ie10.toNat then [vi (jv0 (fe11 (ne1 + ie0.toNat))), vi (jv1 (fe11 (ne1 + ie0.toNat)))] else elV tp2 fe11 i')) [⟨2, tp2, n4, fun i' => bif i'.beq ie10.toNat then [vi (jv0 (fe11 (ne1 + ie0.toNat))), vi (jv1 (fe11 (ne1 + ie0.toNat)))] else elV tp2 fe11 i', fA rfl (al rfl _ _) rfl⟩]))))) (.next (iR 0 3 []) (S63.L4 (i64.wrap (ie0 + 1)) (ne1) (ne2) (ie3) (ie4) (ie5) (ne6) (ie7) (ie8) (ie9) (ie10) (elV tp2 fe11)) [⟨2, tp2, n4, elV tp2 fe11, al rfl _ _⟩])))))) (.ob (decide (0 <= ie10 /\ ie10 <= (↑n4 : Int))) (.ob (decide (0 < n4 - ie10.toNat /\ ie10.toNat + (n4 - ie10.toNat) <= n4)) (.ob (decide (0 <= ie10 /\ ie10 <= (↑n4 : Int))) (.asm (true = true -> n4 <= 9223372036854775807) (.br (decide ((↑ie10.toNat : Int) < (↑n4 : Int))) (.ret (vi 2)) (.obi (.obi (.asm ((x3 == 3) = true -> n4 <= 9223372036854775807) (.obi (.obi (.br (bif x3 == 3 then decide (2 < (↑n4 : Int)) else false) (.ret (vi 2)) (.ret (vi 0)))))))))))))
 | .L5 if0 nf1 nf2 if3 if4 if5 nf6 if7 if8 if9 if10 ff11 => .br (decide (if0 < (↑nf2 : Int))) (.ob (decide (0 <= if0 /\ if0 < (↑nf2 : Int) /\ nf1 + nf2 <= n4)) (.ob (decide (nf1 + if0.toNat < n4)) (.ob (decide (0 <= i64.wrap (if0 - 1) /\ i64.wrap (if0 - 1) < (↑nf2 : Int) /\ nf1 + nf2 <= n4)) (.ob (decide (nf1 + (i64.wrap (if0 - 1)).toNat < n4)) (.br (!(jv0 (ff11 (nf1 + if0.toNat)) == jv0 (ff11 (nf1 + (i64.wrap (if0 - 1)).toNat)) && (jv1 (ff11 (nf1 + if0.toNat)) == jv1 (ff11 (nf1 + (i64.wrap (if0 - 1)).toNat)) && true))) (.ob (decide (0 <= if0 /\ if0 < (↑nf2 : Int) /\ nf1 + nf2 <= n4)) (.ob (decide (nf1 + if0.toNat < n4)) (.ob (decide (0 <= if10 /\ if10 < (↑n4 : Int) /\ n4 <= n4)) (.ob (decide (if10.toNat < n4)) (.next (iR 0 3 []) (S63.L5 (i64.wrap (if0 + 1)) (nf1) (nf2) (if3) (if4) (if5) (nf6) (if7) (if8) (if9) (i64.wrap (if10 + 1)) (fun i' => bif i'.beq if10.toNat then [vi (jv0 (ff11 (nf1 + if0.toNat))), vi (jv1 (ff11 (nf1 + if0.toNat)))] else elV tp2 ff11 i')) [⟨2, tp2, n4, fun i' => bif i'.beq if10.toNat then [vi (jv0 (ff11 (nf1 + if0.toNat))), vi (jv1 (ff11 (nf1 + if0.toNat)))] else elV tp2 ff11 i', fA rfl (al rfl _ _) rfl⟩]))))) (.next (iR 0 3 []) (S63.L5 (i64.wrap (if0 + 1)) (nf1) (nf2) (if3) (if4) (if5) (nf6) (if7) (if8) (if9) (if10) (elV tp2 ff11)) [⟨2, tp2, n4, elV tp2 ff11, al rfl _ _⟩])))))) (.ob (decide (0 <= if10 /\ if10 <= (↑n4 : Int))) (.ob (decide (0 < n4 - if10.toNat /\ if10.toNat + (n4 - if10.toNat) <= n4)) (.ob (decide (0 <= if10 /\ if10 <= (↑n4 : Int))) (.br (decide ((↑if10.toNat : Int) < (↑n4 : Int))) (.ret (vi 2)) (.obi (.obi (.asm ((x3 == 3) = true -> n4 <= 9223372036854775807) (.obi (.obi (.br (bif x3 == 3 then decide (2 < (↑n4 : Int)) else false) (.ret (vi 2)) (.ret (vi 0))))))))))))
 | .L6 ig0 ng1 ng2 ig3 ig4 ig5 ng6 ig7 ig8 ig9 ig10 fg11 => .br (decide (ig0 < (↑ng2 : Int))) (.ob (decide (0 <= ig0 /\ ig0 < (↑ng2 : Int) /\ ng1 + ng2 <= n4)) (.ob (decide (ng1 + ig0.toNat < n4)) (.ob (decide (0 <= i64.wrap (ig0 - 1) /\ i64.wrap (ig0 - 1) < (↑ng2 : Int) /\ ng1 + ng2 <= n4)) (.ob (decide (ng1 + (i64.wrap (ig0 - 1)).toNat < n4)) (.br (!(jv0 (fg11 (ng1 + ig0.toNat)) == jv0 (fg11 (ng1 + (i64.wrap (ig0 - 1)).toNat)) && (jv1 (fg11 (ng1 + ig0.toNat)) == jv1 (fg11 (ng1 + (i64.wrap (ig0 - 1)).toNat)) && true))) (.ob (decide (0 <= ig0 /\ ig0 < (↑ng2 : Int) /\ ng1 + ng2 <= n4)) (.ob (decide (ng1 + ig0.toNat < n4)) (.ob (decide (0 <= ig10 /\ ig10 < (↑n4 : Int) /\ n4 <= n4)) (.ob (decide (ig10.toNat < n4)) (.next (iR 0 3 []) (S63.L6 (i64.wrap (ig0 + 1)) (ng1) (ng2) (ig3) (ig4) (ig5) (ng6) (ig7) (ig8) (ig9) (i64.wrap (ig10 + 1)) (fun i' => bif i'.beq ig10.toNat then [vi (jv0 (fg11 (ng1 + ig0.toNat))), vi (jv1 (fg11 (ng1 + ig0.toNat)))] else elV tp2 fg11 i')) [⟨2, tp2, n4, fun i' => bif i'.beq ig10.toNat then [vi (jv0 (fg11 (ng1 + ig0.toNat))), vi (jv1 (fg11 (ng1 + ig0.toNat)))] else elV tp2 fg11 i', fA rfl (al rfl _ _) rfl⟩]))))) (.next (iR 0 3 []) (S63.L6 (i64.wrap (ig0 + 1)) (ng1) (ng2) (ig3) (ig4) (ig5) (ng6) (ig7) (ig8) (ig9) (ig10) (elV tp2 fg11)) [⟨2, tp2, n4, elV tp2 fg11, al rfl _ _⟩])))))) (.ob (decide (0 <= ig10 /\ ig10 <= (↑n4 : Int))) (.ob (decide (0 < n4 - ig10.toNat /\ ig10.toNat + (n4 - ig10.toNat) <= n4)) (.ob (decide (0 <= ig10 /\ ig10 <= (↑n4 : Int))) (.br (decide ((↑ig10.toNat : Int) < (↑n4 : Int))) (.ret (vi 2)) (.obi (.obi (.asm ((x3 == 3) = true -> n4 <= 9223372036854775807) (.obi (.obi (.br (bif x3 == 3 then decide (2 < (↑n4 : Int)) else false) (.ret (vi 2)) (.ret (vi 0))))))))))))
 | .L7 ih0 nh1 nh2 ih3 ih4 ih5 nh6 ih7 ih8 ih9 ih10 fh11 => .br (decide (ih0 < (↑nh2 : Int))) (.ob (decide (0 <= ih0 /\ ih0 < (↑nh2 : Int) /\ nh1 + nh2 <= n4)) (.ob (decide (nh1 + ih0.toNat < n4)) (.ob (decide (0 <= i64.wrap (ih0 - 1) /\ i64.wrap (ih0 - 1) < (↑nh2 : Int) /\ nh1 + nh2 <= n4)) (.ob (decide (nh1 + (i64.wrap (ih0 - 1)).toNat < n4)) (.br (!(jv0 (fh11 (nh1 + ih0.toNat)) == jv0 (fh11 (nh1 + (i64.wrap (ih0 - 1)).toNat)) && (jv1 (fh11 (nh1 + ih0.toNat)) == jv1 (fh11 (nh1 + (i64.wrap (ih0 - 1)).toNat)) && true))) (.ob (decide (0 <= ih0 /\ ih0 < (↑nh2 : Int) /\ nh1 + nh2 <= n4)) (.ob (decide (nh1 + ih0.toNat < n4)) (.ob (decide (0 <= ih10 /\ ih10 < (↑n4 : Int) /\ n4 <= n4)) (.ob (decide (ih10.toNat < n4)) (.next (iR 0 3 []) (S63.L7 (i64.wrap (ih0 + 1)) (nh1) (nh2) (ih3) (ih4) (ih5) (nh6) (ih7) (ih8) (ih9) (i64.wrap (ih10 + 1)) (fun i' => bif i'.beq ih10.toNat then [vi (jv0 (fh11 (nh1 + ih0.toNat))), vi (jv1 (fh11 (nh1 + ih0.toNat)))] else elV tp2 fh11 i')) [⟨2, tp2, n4, fun i' => bif i'.beq ih10.toNat then [vi (jv0 (fh11 (nh1 + ih0.toNat))), vi (jv1 (fh11 (nh1 + ih0.toNat)))] else elV tp2 fh11 i', fA rfl (al rfl _ _) rfl⟩]))))) (.next (iR 0 3 []) (S63.L7 (i64.wrap (ih0 + 1)) (nh1) (nh2) (ih3) (ih4) (ih5) (nh6) (ih7) (ih8) (ih9) (ih10) (elV tp2 fh11)) [⟨2, tp2, n4, elV tp2 fh11, al rfl _ _⟩])))))) (.ob (decide (0 <= ih10 /\ ih10 <= (↑n4 : Int))) (.ob (decide (0 < n4 - ih10.toNat /\ ih10.toNat + (n4 - ih10.toNat) <= n4)) (.ob (decide (0 <= ih10 /\ ih10 <= (↑n4 : Int))) (.br (decide ((↑ih10.toNat : Int) < (↑n4 : Int))) (.ret (vi 2)) (.obi (.obi (.asm ((x3 == 3) = true -> n4 <= 9223372036854775807) (.obi (.obi (.br (bif x3 == 3 then decide (2 < (↑n4 : Int)) else false) (.ret (vi 2)) (.ret (vi 0))))))))))))
def m63 (n0 : Nat) (f0 : FnV) (s2 : ByteArray) (x3 : Int) (n4 : Nat) (f4 : FnV) (x6 : Int) : RT S63 := .obp (s2.size <= (9223372036854775807 : Nat)) (.obt (.br (!jY s2) (.ret (vi 6)) (.obc (.obt (.br (nY n0 (elV tyR f0) s2) (.ret (vi 5)) (.obc (.obt (.br (aP x3 0 3) (.ret (vi 2)) (.asm (true = true -> n4 <= 9223372036854775807) (.br (decide ((↑n4 : Int) < 2)) (.ret (vi 4)) (.asm (true = true -> n4 <= 9223372036854775807) (.br (decide (8 < (↑n4 : Int))) (.ret (vi 3)) (.obc (.obt (.obi (.br (!gO n4 (elV tp2 f4)) (.ob (!gO n4 (elV tp2 f4)) (.obc (.obt (.br (aP x6 100 30000) (.ret (vi 7)) (.und (.und (.und (.asm (n4 = 0) (.und (.brt (.asm (true = true -> n4 <= 9223372036854775807) (.br (decide (0 < (↑n4 : Int))) (.ret (vi 2)) (.obi (.obi (.asm ((x3 == 3) = true -> n4 <= 9223372036854775807) (.obi (.obi (.br (bif x3 == 3 then decide (2 < (↑n4 : Int)) else false) (.ret (vi 2)) (.ret (vi 0))))))))))) (.asm (true = true -> n4 <= 9223372036854775807) (.brt (.br (decide (0 < (↑n4 : Int))) (.ret (vi 2)) (.obi (.obi (.asm ((x3 == 3) = true -> n4 <= 9223372036854775807) (.obi (.obi (.br (bif x3 == 3 then decide (2 < (↑n4 : Int)) else false) (.ret (vi 2)) (.ret (vi 0))))))))))))) (.obv (fO n4 fun i => okE 2 (elV tp2 f4 i)) (jC rfl _ _) (.ob (decide (n4 * 16 <= 140737488355328) && !Nat.beq 16 0) (.und (.br (decide ((↑n4 : Int) < 2)) (.asm (true = true -> n4 <= 9223372036854775807) (.br (decide ((↑n4 : Int) < (↑n4 : Int))) (.ret (vi 2)) (.obi (.obi (.asm ((x3 == 3) = true -> n4 <= 9223372036854775807) (.obi (.obi (.br (bif x3 == 3 then decide (2 < (↑n4 : Int)) else false) (.ret (vi 2)) (.ret (vi 0)))))))))) (.enter (iR 0 3 []) (S63.L0 (1) (elV tp2 f4)) [⟨2, tp2, n4, elV tp2 f4, al rfl _ _⟩])) (.asm (true = true -> n4 <= 9223372036854775807) (.br (decide ((↑n4 : Int) < 2)) (.br (decide ((↑n4 : Int) < (↑n4 : Int))) (.ret (vi 2)) (.obi (.obi (.asm ((x3 == 3) = true -> n4 <= 9223372036854775807) (.obi (.obi (.br (bif x3 == 3 then decide (2 < (↑n4 : Int)) else false) (.ret (vi 2)) (.ret (vi 0))))))))) (.enter (iR 0 3 []) (S63.L1 (1) (elV tp2 f4)) [⟨2, tp2, n4, elV tp2 f4, al rfl _ _⟩]))))))) (.asm (true = true -> n4 <= 9223372036854775807) (.und (.asm (n4 = 0) (.brt (.br (decide (0 < (↑n4 : Int))) (.ret (vi 2)) (.obi (.obi (.asm ((x3 == 3) = true -> n4 <= 9223372036854775807) (.obi (.obi (.br (bif x3 == 3 then decide (2 < (↑n4 : Int)) else false) (.ret (vi 2)) (.ret (vi 0))))))))))) (.obv (fO n4 fun i => okE 2 (elV tp2 f4 i)) (jC rfl _ _) (.ob (decide (n4 * 16 <= 140737488355328) && !Nat.beq 16 0) (.br (decide ((↑n4 : Int) < 2)) (.br (decide ((↑n4 : Int) < (↑n4 : Int))) (.ret (vi 2)) (.obi (.obi (.asm ((x3 == 3) = true -> n4 <= 9223372036854775807) (.obi (.obi (.br (bif x3 == 3 then decide (2 < (↑n4 : Int)) else false) (.ret (vi 2)) (.ret (vi 0))))))))) (.enter (iR 0 3 []) (S63.L2 (1) (elV tp2 f4)) [⟨2, tp2, n4, elV tp2 f4, al rfl _ _⟩]))))))) (.asm (true = true -> n4 <= 9223372036854775807) (.und (.asm (n4 = 0) (.brt (.br (decide (0 < (↑n4 : Int))) (.ret (vi 2)) (.obi (.obi (.asm ((x3 == 3) = true -> n4 <= 9223372036854775807) (.obi (.obi (.br (bif x3 == 3 then decide (2 < (↑n4 : Int)) else false) (.ret (vi 2)) (.ret (vi 0))))))))))) (.obv (fO n4 fun i => okE 2 (elV tp2 f4 i)) (jC rfl _ _) (.ob (decide (n4 * 16 <= 140737488355328) && !Nat.beq 16 0) (.br (decide ((↑n4 : Int) < 2)) (.br (decide ((↑n4 : Int) < (↑n4 : Int))) (.ret (vi 2)) (.obi (.obi (.asm ((x3 == 3) = true -> n4 <= 9223372036854775807) (.obi (.obi (.br (bif x3 == 3 then decide (2 < (↑n4 : Int)) else false) (.ret (vi 2)) (.ret (vi 0))))))))) (.enter (iR 0 3 []) (S63.L3 (1) (elV tp2 f4)) [⟨2, tp2, n4, elV tp2 f4, al rfl _ _⟩]))))))))))) (.ret (vi 7))))))))))))))))))
theorem I3 (n0 : Nat) (f0 : FnV) (s2 : ByteArray) (x3 : Int) (n4 : Nat) (f4 : FnV) (x6 : Int) : jF lS u0 (D63 n0 f0 s2 x3 n4 f4 x6) (AN n0 f0 s2 x3 n4 f4 x6) (m63 n0 f0 s2 x3 n4 f4 x6) (lq n0 f0 s2 x3 n4 f4 x6) := ⟨⟨by kernel_rfl, by kernel_rfl⟩, fun s => by cases s <;> exact ⟨by kernel_rfl, by kernel_rfl⟩⟩
def eqP (f : Nat -> List V) (i j : Nat) : Bool := jv0 (f i) == jv0 (f j) && (jv1 (f i) == jv1 (f j) && true)
def iW (n : Nat) (f : Nat -> List V) : Bool := exB n fun i => decide (0 < i) && eqP f i (i - 1)
def fy (x3 : Int) (n4 : Nat) : Int := bif bif x3 == 3 then decide (2 < (n4 : Int)) else false then 2 else 0
def F63 (n0 : Nat) (f0 : FnV) (s2 : ByteArray) (x3 : Int) (n4 : Nat) (f4 : FnV) (x6 : Int) : Int := bif !jY s2 then 6 else bif nY n0 f0 s2 then 5 else bif aP x3 0 3 then 2 else bif decide ((n4 : Int) < 2) then 4 else bif decide (8 < (n4 : Int)) then 3 else bif !!gO n4 f4 then 7 else bif aP x6 100 30000 then 7 else bif iW n4 f4 then 2 else fy x3 n4
theorem kD {S : Type} {Nx : S -> V -> Prop} {x3 : Int} {n4 : Nat} {q : Prop} : evR Nx (.obi (.obi (.asm q (.obi (.obi (.br (bif x3 == 3 then decide (2 < (n4 : Int)) else false) (.ret (.int .i64 2)) (.ret (.int .i64 0)))))))) (.int .i64 (fy x3 n4)) := by
 refine ak (ak (dT fun _ => ak (ak (aL (fun h => ao ?_) (fun h => ao ?_))))) <;> (unfold fy; rw [h]; rfl)
theorem IK (n0 : Nat) (f0 : FnV) (s2 : ByteArray) (x3 : Int) (n4 : Nat) (f4 : FnV) (x6 : Int) (h8 : n4 <= 8) (k0 : Nat) (hk : 1 <= k0) (hk' : k0 < n4) (t1 t2 t3 : Int) (t4 : Nat) (t5 t6 t7 : Int) : ∀ k2 : Nat, k2 <= n4 - k0 -> 1 <= k2 -> ∀ (k : Nat) (f : Nat -> List V), k + 1 <= k0 + k2 -> Ev (lq n0 f0 s2 x3 n4 f4 x6) (.L4 k2 k0 (n4 - k0) t1 t2 t3 t4 t5 t6 t7 k f) (.int .i64 2) := by
 refine dM fun k2 hk2 ih h1 k f hkk => Ev.of rfl ?_
 have w1 : i64.wrap ((k2 : Int) - 1) = ((k2 - 1 : Nat) : Int) := by rw [aA (by omega) (by omega)]; omega
 have w2 : i64.wrap ((k2 : Int) + 1) = ((k2 + 1 : Nat) : Int) := by rw [aA (by omega) (by omega)]; omega
 have w3 : i64.wrap ((k : Int) + 1) = ((k + 1 : Nat) : Int) := by rw [aA (by omega) (by omega)]; omega
 refine aL (fun h => ?_) (fun h => ?_)
 ·have hlt : k2 < n4 - k0 := by have := of_decide_eq_true h; omega
  refine ac (dqt (by omega)) (ac (dqt (by omega)) (ac (dqt (by rw [w1]; omega)) (ac (dqt (by rw [w1]; omega)) (aL (fun _ => ?_) (fun _ => ?_)))))
  ·refine ac (dqt (by omega)) (ac (dqt (by omega)) (ac (dqt (by omega)) (ac (dqt (by omega)) (aR ?_))))
   rw [w2, w3]
   exact ih hlt (by omega) (k + 1) _ (by omega)
  ·refine aR ?_
   rw [w2]
   exact ih hlt (by omega) k _ (by omega)
 ·have hge : ¬ k2 < n4 - k0 := by have := of_decide_eq_false h; omega
  refine ac (dqt (by omega)) (ac (dqt (by omega)) (ac (dqt (by omega)) ?_))
  try refine dT fun _ => ?_
  exact cX (dqt (by omega)) (ao rfl)
theorem Jz (n0 : Nat) (f0 : FnV) (s2 : ByteArray) (x3 : Int) (n4 : Nat) (f4 : FnV) (x6 : Int) (h8 : n4 <= 8) (h2 : 2 <= n4) : ∀ i : Nat, i <= n4 -> 1 <= i -> (∀ j, j < i -> (decide (0 < j) && eqP f4 j (j - 1)) = false) -> ∀ f : Nat -> List V, (∀ i j, eqP f i j = eqP f4 i j) -> Ev (lq n0 f0 s2 x3 n4 f4 x6) (.L0 i f) (.int .i64 (bif iW n4 f4 then 2 else fy x3 n4)) := by
 refine dM fun i hi ih h1 hj f hf => Ev.of rfl ?_
 have w1 : i64.wrap ((i : Int) - 1) = ((i - 1 : Nat) : Int) := by rw [aA (by omega) (by omega)]; omega
 have w2 : i64.wrap ((i : Int) + 1) = ((i + 1 : Nat) : Int) := by rw [aA (by omega) (by omega)]; omega
 refine aL (fun h => ?_) (fun h => ?_)
 ·have hlt : i < n4 := by have := of_decide_eq_true h; omega
  refine ac (dqt (by omega)) (ac (dqt (by omega)) (ac (dqt (by rw [w1]; omega)) (ac (dqt (by rw [w1]; omega)) (aL (fun hb => ?_) (fun hb => ?_)))))
  ·have hb' : eqP f4 i (i - 1) = true := by
    rw [← hf]; rw [w1] at hb; simpa only [Int.toNat_natCast, eqP] using hb
   rw [show iW n4 f4 = true from bN i hlt (by rw [hb']; simp; omega), cond_true]
   refine ac (dqt (by omega)) (aJ ?_)
   have := IK n0 f0 s2 x3 n4 f4 x6 h8 i h1 hlt
   simp only [Int.toNat_natCast]
   exact this _ _ _ _ _ _ _ 1 (by omega) (by omega) i _ (by omega)
  ·have hb' : eqP f4 i (i - 1) = false := by
    rw [← hf]; rw [w1] at hb; simpa only [Int.toNat_natCast, eqP] using hb
   refine aR ?_
   rw [w2]
   refine ih hlt (by omega) (fun j h3 => ?_) _ (fun a b => hf a b)
   by_cases e : j = i
   ·subst e; rw [hb', Bool.and_false]
   ·exact hj j (by omega)
 ·have : i = n4 := by have := of_decide_eq_false h; omega
  subst this
  rw [show iW i f4 = false from eg hj, cond_false]
  try refine dT fun _ => ?_
  exact mP kD
theorem Gw (n0 : Nat) (f0 : FnV) (s2 : ByteArray) (x3 : Int) (n4 : Nat) (f4 : FnV) (x6 : Int) (h8 : n4 <= 8) (h2 : 2 <= n4) (f : Nat -> List V) (hf : ∀ i j, eqP f i j = eqP f4 i j) : Ev (lq n0 f0 s2 x3 n4 f4 x6) (.L0 1 f) (.int .i64 (bif iW n4 f4 then 2 else fy x3 n4)) := Jz n0 f0 s2 x3 n4 f4 x6 h8 h2 1 (by omega) (Nat.le_refl _) (fun j hj => by
 have : j = 0 := by omega
 subst this; rfl) f hf
theorem I0 (n0 : Nat) (f0 : FnV) (s2 : ByteArray) (x3 : Int) (n4 : Nat) (f4 : FnV) (x6 : Int) (h8 : n4 <= 8) (k0 : Nat) (hk : 1 <= k0) (hk' : k0 < n4) (t1 t2 t3 : Int) (t4 : Nat) (t5 t6 t7 : Int) : ∀ k2 : Nat, k2 <= n4 - k0 -> 1 <= k2 -> ∀ (k : Nat) (f : Nat -> List V), k + 1 <= k0 + k2 -> Ev (lq n0 f0 s2 x3 n4 f4 x6) (.L5 k2 k0 (n4 - k0) t1 t2 t3 t4 t5 t6 t7 k f) (.int .i64 2) := by
 refine dM fun k2 hk2 ih h1 k f hkk => Ev.of rfl ?_
 have w1 : i64.wrap ((k2 : Int) - 1) = ((k2 - 1 : Nat) : Int) := by rw [aA (by omega) (by omega)]; omega
 have w2 : i64.wrap ((k2 : Int) + 1) = ((k2 + 1 : Nat) : Int) := by rw [aA (by omega) (by omega)]; omega
 have w3 : i64.wrap ((k : Int) + 1) = ((k + 1 : Nat) : Int) := by rw [aA (by omega) (by omega)]; omega
 refine aL (fun h => ?_) (fun h => ?_)
 ·have hlt : k2 < n4 - k0 := by have := of_decide_eq_true h; omega
  refine ac (dqt (by omega)) (ac (dqt (by omega)) (ac (dqt (by rw [w1]; omega)) (ac (dqt (by rw [w1]; omega)) (aL (fun _ => ?_) (fun _ => ?_)))))
  ·refine ac (dqt (by omega)) (ac (dqt (by omega)) (ac (dqt (by omega)) (ac (dqt (by omega)) (aR ?_))))
   rw [w2, w3]
   exact ih hlt (by omega) (k + 1) _ (by omega)
  ·refine aR ?_
   rw [w2]
   exact ih hlt (by omega) k _ (by omega)
 ·have hge : ¬ k2 < n4 - k0 := by have := of_decide_eq_false h; omega
  refine ac (dqt (by omega)) (ac (dqt (by omega)) (ac (dqt (by omega)) ?_))
  try refine dT fun _ => ?_
  exact cX (dqt (by omega)) (ao rfl)
theorem IL (n0 : Nat) (f0 : FnV) (s2 : ByteArray) (x3 : Int) (n4 : Nat) (f4 : FnV) (x6 : Int) (h8 : n4 <= 8) (h2 : 2 <= n4) : ∀ i : Nat, i <= n4 -> 1 <= i -> (∀ j, j < i -> (decide (0 < j) && eqP f4 j (j - 1)) = false) -> ∀ f : Nat -> List V, (∀ i j, eqP f i j = eqP f4 i j) -> Ev (lq n0 f0 s2 x3 n4 f4 x6) (.L1 i f) (.int .i64 (bif iW n4 f4 then 2 else fy x3 n4)) := by
 refine dM fun i hi ih h1 hj f hf => Ev.of rfl ?_
 have w1 : i64.wrap ((i : Int) - 1) = ((i - 1 : Nat) : Int) := by rw [aA (by omega) (by omega)]; omega
 have w2 : i64.wrap ((i : Int) + 1) = ((i + 1 : Nat) : Int) := by rw [aA (by omega) (by omega)]; omega
 refine aL (fun h => ?_) (fun h => ?_)
 ·have hlt : i < n4 := by have := of_decide_eq_true h; omega
  refine ac (dqt (by omega)) (ac (dqt (by omega)) (ac (dqt (by rw [w1]; omega)) (ac (dqt (by rw [w1]; omega)) (aL (fun hb => ?_) (fun hb => ?_)))))
  ·have hb' : eqP f4 i (i - 1) = true := by
    rw [← hf]; rw [w1] at hb; simpa only [Int.toNat_natCast, eqP] using hb
   rw [show iW n4 f4 = true from bN i hlt (by rw [hb']; simp; omega), cond_true]
   refine ac (dqt (by omega)) (aJ ?_)
   have := I0 n0 f0 s2 x3 n4 f4 x6 h8 i h1 hlt
   simp only [Int.toNat_natCast]
   exact this _ _ _ _ _ _ _ 1 (by omega) (by omega) i _ (by omega)
  ·have hb' : eqP f4 i (i - 1) = false := by
    rw [← hf]; rw [w1] at hb; simpa only [Int.toNat_natCast, eqP] using hb
   refine aR ?_
   rw [w2]
   refine ih hlt (by omega) (fun j h3 => ?_) _ (fun a b => hf a b)
   by_cases e : j = i
   ·subst e; rw [hb', Bool.and_false]
   ·exact hj j (by omega)
 ·have : i = n4 := by have := of_decide_eq_false h; omega
  subst this
  rw [show iW i f4 = false from eg hj, cond_false]
  try refine dT fun _ => ?_
  exact mP kD
theorem E8 (n0 : Nat) (f0 : FnV) (s2 : ByteArray) (x3 : Int) (n4 : Nat) (f4 : FnV) (x6 : Int) (h8 : n4 <= 8) (h2 : 2 <= n4) (f : Nat -> List V) (hf : ∀ i j, eqP f i j = eqP f4 i j) : Ev (lq n0 f0 s2 x3 n4 f4 x6) (.L1 1 f) (.int .i64 (bif iW n4 f4 then 2 else fy x3 n4)) := IL n0 f0 s2 x3 n4 f4 x6 h8 h2 1 (by omega) (Nat.le_refl _) (fun j hj => by
 have : j = 0 := by omega
 subst this; rfl) f hf
theorem HQ (n0 : Nat) (f0 : FnV) (s2 : ByteArray) (x3 : Int) (n4 : Nat) (f4 : FnV) (x6 : Int) (h8 : n4 <= 8) (k0 : Nat) (hk : 1 <= k0) (hk' : k0 < n4) (t1 t2 t3 : Int) (t4 : Nat) (t5 t6 t7 : Int) : ∀ k2 : Nat, k2 <= n4 - k0 -> 1 <= k2 -> ∀ (k : Nat) (f : Nat -> List V), k + 1 <= k0 + k2 -> Ev (lq n0 f0 s2 x3 n4 f4 x6) (.L6 k2 k0 (n4 - k0) t1 t2 t3 t4 t5 t6 t7 k f) (.int .i64 2) := by
 refine dM fun k2 hk2 ih h1 k f hkk => Ev.of rfl ?_
 have w1 : i64.wrap ((k2 : Int) - 1) = ((k2 - 1 : Nat) : Int) := by rw [aA (by omega) (by omega)]; omega
 have w2 : i64.wrap ((k2 : Int) + 1) = ((k2 + 1 : Nat) : Int) := by rw [aA (by omega) (by omega)]; omega
 have w3 : i64.wrap ((k : Int) + 1) = ((k + 1 : Nat) : Int) := by rw [aA (by omega) (by omega)]; omega
 refine aL (fun h => ?_) (fun h => ?_)
 ·have hlt : k2 < n4 - k0 := by have := of_decide_eq_true h; omega
  refine ac (dqt (by omega)) (ac (dqt (by omega)) (ac (dqt (by rw [w1]; omega)) (ac (dqt (by rw [w1]; omega)) (aL (fun _ => ?_) (fun _ => ?_)))))
  ·refine ac (dqt (by omega)) (ac (dqt (by omega)) (ac (dqt (by omega)) (ac (dqt (by omega)) (aR ?_))))
   rw [w2, w3]
   exact ih hlt (by omega) (k + 1) _ (by omega)
  ·refine aR ?_
   rw [w2]
   exact ih hlt (by omega) k _ (by omega)
 ·have hge : ¬ k2 < n4 - k0 := by have := of_decide_eq_false h; omega
  refine ac (dqt (by omega)) (ac (dqt (by omega)) (ac (dqt (by omega)) ?_))
  try refine dT fun _ => ?_
  exact cX (dqt (by omega)) (ao rfl)
theorem H7 (n0 : Nat) (f0 : FnV) (s2 : ByteArray) (x3 : Int) (n4 : Nat) (f4 : FnV) (x6 : Int) (h8 : n4 <= 8) (h2 : 2 <= n4) : ∀ i : Nat, i <= n4 -> 1 <= i -> (∀ j, j < i -> (decide (0 < j) && eqP f4 j (j - 1)) = false) -> ∀ f : Nat -> List V, (∀ i j, eqP f i j = eqP f4 i j) -> Ev (lq n0 f0 s2 x3 n4 f4 x6) (.L2 i f) (.int .i64 (bif iW n4 f4 then 2 else fy x3 n4)) := by
 refine dM fun i hi ih h1 hj f hf => Ev.of rfl ?_
 have w1 : i64.wrap ((i : Int) - 1) = ((i - 1 : Nat) : Int) := by rw [aA (by omega) (by omega)]; omega
 have w2 : i64.wrap ((i : Int) + 1) = ((i + 1 : Nat) : Int) := by rw [aA (by omega) (by omega)]; omega
 refine aL (fun h => ?_) (fun h => ?_)
 ·have hlt : i < n4 := by have := of_decide_eq_true h; omega
  refine ac (dqt (by omega)) (ac (dqt (by omega)) (ac (dqt (by rw [w1]; omega)) (ac (dqt (by rw [w1]; omega)) (aL (fun hb => ?_) (fun hb => ?_)))))
  ·have hb' : eqP f4 i (i - 1) = true := by
    rw [← hf]; rw [w1] at hb; simpa only [Int.toNat_natCast, eqP] using hb
   rw [show iW n4 f4 = true from bN i hlt (by rw [hb']; simp; omega), cond_true]
   refine ac (dqt (by omega)) (aJ ?_)
   have := HQ n0 f0 s2 x3 n4 f4 x6 h8 i h1 hlt
   simp only [Int.toNat_natCast]
   exact this _ _ _ _ _ _ _ 1 (by omega) (by omega) i _ (by omega)
  ·have hb' : eqP f4 i (i - 1) = false := by
    rw [← hf]; rw [w1] at hb; simpa only [Int.toNat_natCast, eqP] using hb
   refine aR ?_
   rw [w2]
   refine ih hlt (by omega) (fun j h3 => ?_) _ (fun a b => hf a b)
   by_cases e : j = i
   ·subst e; rw [hb', Bool.and_false]
   ·exact hj j (by omega)
 ·have : i = n4 := by have := of_decide_eq_false h; omega
  subst this
  rw [show iW i f4 = false from eg hj, cond_false]
  try refine dT fun _ => ?_
  exact mP kD
theorem Fg (n0 : Nat) (f0 : FnV) (s2 : ByteArray) (x3 : Int) (n4 : Nat) (f4 : FnV) (x6 : Int) (h8 : n4 <= 8) (h2 : 2 <= n4) (f : Nat -> List V) (hf : ∀ i j, eqP f i j = eqP f4 i j) : Ev (lq n0 f0 s2 x3 n4 f4 x6) (.L2 1 f) (.int .i64 (bif iW n4 f4 then 2 else fy x3 n4)) := H7 n0 f0 s2 x3 n4 f4 x6 h8 h2 1 (by omega) (Nat.le_refl _) (fun j hj => by
 have : j = 0 := by omega
 subst this; rfl) f hf
theorem Hm (n0 : Nat) (f0 : FnV) (s2 : ByteArray) (x3 : Int) (n4 : Nat) (f4 : FnV) (x6 : Int) (h8 : n4 <= 8) (k0 : Nat) (hk : 1 <= k0) (hk' : k0 < n4) (t1 t2 t3 : Int) (t4 : Nat) (t5 t6 t7 : Int) : ∀ k2 : Nat, k2 <= n4 - k0 -> 1 <= k2 -> ∀ (k : Nat) (f : Nat -> List V), k + 1 <= k0 + k2 -> Ev (lq n0 f0 s2 x3 n4 f4 x6) (.L7 k2 k0 (n4 - k0) t1 t2 t3 t4 t5 t6 t7 k f) (.int .i64 2) := by
 refine dM fun k2 hk2 ih h1 k f hkk => Ev.of rfl ?_
 have w1 : i64.wrap ((k2 : Int) - 1) = ((k2 - 1 : Nat) : Int) := by rw [aA (by omega) (by omega)]; omega
 have w2 : i64.wrap ((k2 : Int) + 1) = ((k2 + 1 : Nat) : Int) := by rw [aA (by omega) (by omega)]; omega
 have w3 : i64.wrap ((k : Int) + 1) = ((k + 1 : Nat) : Int) := by rw [aA (by omega) (by omega)]; omega
 refine aL (fun h => ?_) (fun h => ?_)
 ·have hlt : k2 < n4 - k0 := by have := of_decide_eq_true h; omega
  refine ac (dqt (by omega)) (ac (dqt (by omega)) (ac (dqt (by rw [w1]; omega)) (ac (dqt (by rw [w1]; omega)) (aL (fun _ => ?_) (fun _ => ?_)))))
  ·refine ac (dqt (by omega)) (ac (dqt (by omega)) (ac (dqt (by omega)) (ac (dqt (by omega)) (aR ?_))))
   rw [w2, w3]
   exact ih hlt (by omega) (k + 1) _ (by omega)
  ·refine aR ?_
   rw [w2]
   exact ih hlt (by omega) k _ (by omega)
 ·have hge : ¬ k2 < n4 - k0 := by have := of_decide_eq_false h; omega
  refine ac (dqt (by omega)) (ac (dqt (by omega)) (ac (dqt (by omega)) ?_))
  try refine dT fun _ => ?_
  exact cX (dqt (by omega)) (ao rfl)
theorem I5 (n0 : Nat) (f0 : FnV) (s2 : ByteArray) (x3 : Int) (n4 : Nat) (f4 : FnV) (x6 : Int) (h8 : n4 <= 8) (h2 : 2 <= n4) : ∀ i : Nat, i <= n4 -> 1 <= i -> (∀ j, j < i -> (decide (0 < j) && eqP f4 j (j - 1)) = false) -> ∀ f : Nat -> List V, (∀ i j, eqP f i j = eqP f4 i j) -> Ev (lq n0 f0 s2 x3 n4 f4 x6) (.L3 i f) (.int .i64 (bif iW n4 f4 then 2 else fy x3 n4)) := by
 refine dM fun i hi ih h1 hj f hf => Ev.of rfl ?_
 have w1 : i64.wrap ((i : Int) - 1) = ((i - 1 : Nat) : Int) := by rw [aA (by omega) (by omega)]; omega
 have w2 : i64.wrap ((i : Int) + 1) = ((i + 1 : Nat) : Int) := by rw [aA (by omega) (by omega)]; omega
 refine aL (fun h => ?_) (fun h => ?_)
 ·have hlt : i < n4 := by have := of_decide_eq_true h; omega
  refine ac (dqt (by omega)) (ac (dqt (by omega)) (ac (dqt (by rw [w1]; omega)) (ac (dqt (by rw [w1]; omega)) (aL (fun hb => ?_) (fun hb => ?_)))))
  ·have hb' : eqP f4 i (i - 1) = true := by
    rw [← hf]; rw [w1] at hb; simpa only [Int.toNat_natCast, eqP] using hb
   rw [show iW n4 f4 = true from bN i hlt (by rw [hb']; simp; omega), cond_true]
   refine ac (dqt (by omega)) (aJ ?_)
   have := Hm n0 f0 s2 x3 n4 f4 x6 h8 i h1 hlt
   simp only [Int.toNat_natCast]
   exact this _ _ _ _ _ _ _ 1 (by omega) (by omega) i _ (by omega)
  ·have hb' : eqP f4 i (i - 1) = false := by
    rw [← hf]; rw [w1] at hb; simpa only [Int.toNat_natCast, eqP] using hb
   refine aR ?_
   rw [w2]
   refine ih hlt (by omega) (fun j h3 => ?_) _ (fun a b => hf a b)
   by_cases e : j = i
   ·subst e; rw [hb', Bool.and_false]
   ·exact hj j (by omega)
 ·have : i = n4 := by have := of_decide_eq_false h; omega
  subst this
  rw [show iW i f4 = false from eg hj, cond_false]
  try refine dT fun _ => ?_
  exact mP kD
theorem E2 (n0 : Nat) (f0 : FnV) (s2 : ByteArray) (x3 : Int) (n4 : Nat) (f4 : FnV) (x6 : Int) (h8 : n4 <= 8) (h2 : 2 <= n4) (f : Nat -> List V) (hf : ∀ i j, eqP f i j = eqP f4 i j) : Ev (lq n0 f0 s2 x3 n4 f4 x6) (.L3 1 f) (.int .i64 (bif iW n4 f4 then 2 else fy x3 n4)) := I5 n0 f0 s2 x3 n4 f4 x6 h8 h2 1 (by omega) (Nat.le_refl _) (fun j hj => by
 have : j = 0 := by omega
 subst this; rfl) f hf
theorem GJ (n0 : Nat) (f0 : FnV) (s2 : ByteArray) (x3 : Int) (n4 : Nat) (f4 : FnV) (x6 : Int) (hp : s2.size <= 9223372036854775807) : evR (Ev (lq n0 f0 s2 x3 n4 f4 x6)) (m63 n0 f0 s2 x3 n4 f4 x6) (.int .i64 (F63 n0 f0 s2 x3 n4 f4 x6)) := by
 unfold F63
 refine aO hp (af ?_)
 refine aL (fun h => ao (by rw [h]; rfl)) (fun h => ?_)
 rw [h, cond_false]
 refine ar (af (aL (fun h => ao (by rw [show nY n0 f0 s2 = true from h]; rfl)) (fun h => ?_)))
 rw [show nY n0 f0 s2 = false from h, cond_false]
 refine ar (af (aL (fun h => ao (by rw [h]; rfl)) (fun h => ?_)))
 rw [h, cond_false]
 refine dF fun hn => aL (fun h => ao (by rw [h]; rfl)) (fun h2 => ?_)
 rw [h2, cond_false]
 refine dF fun hn => aL (fun h => ao (by rw [h]; rfl)) (fun h8 => ?_)
 rw [h8, cond_false]
 have h2 : 2 <= n4 := by have := of_decide_eq_false h2; omega
 have h8 : n4 <= 8 := by have := of_decide_eq_false h8; omega
 have e2 : decide ((n4 : Int) < 2) = false := dqf (by omega)
 refine ar (af (ak (aL (fun h => ?_) (fun h => ao (by rw [show (!!gO n4 f4) = true from by rw [show (!gO n4 f4) = false from h]; rfl]; rfl)))))
 rw [show (!!gO n4 f4) = false from by rw [show (!gO n4 f4) = true from h]; rfl, cond_false]
 refine ac h (ar (af (aL (fun h => ao (by rw [h]; rfl)) (fun h => ?_))))
 rw [h, cond_false]
 have h16 : (decide (n4 * 16 <= 140737488355328) && !Nat.beq 16 0) = true := by rw [dqt (show n4 * 16 <= 140737488355328 by omega)]; rfl
 have hne : n4 = 0 -> False := by omega
 have hi : ∀ i j, eqP (elV tp2 f4) i j = eqP f4 i j := fun _ _ => rfl
 repeat' (first
  | exact dT (fun h0 => (hne h0).elim)
  | exact aJ (Gw _ _ _ _ _ _ _ h8 h2 _ hi)
  | exact aJ (E8 _ _ _ _ _ _ _ h8 h2 _ hi)
  | exact aJ (Fg _ _ _ _ _ _ _ h8 h2 _ hi)
  | exact aJ (E2 _ _ _ _ _ _ _ h8 h2 _ hi)
  | refine Kf ?_ ?_
  | refine dT (fun _ => ?_)
  | refine cG ?_
  | refine ac h16 ?_
  | refine cH e2 ?_
  | refine cH rfl ?_
  | refine cX rfl ?_)
theorem LG (n0 : Nat) (f0 : FnV) (s2 : ByteArray) (x3 : Int) (n4 : Nat) (f4 : FnV) (x6 : Int) (hp : s2.size <= 9223372036854775807) : evR (Ev (lq n0 f0 s2 x3 n4 f4 x6)) (m63 n0 f0 s2 x3 n4 f4 x6) (.int .i64 (F63 n0 (elV tyR f0) s2 x3 n4 (elV tp2 f4) x6)) := GJ n0 f0 s2 x3 n4 f4 x6 hp
def C63 : a7 := mkC [.sl tyR, .agg tyR] (fun
 | [.sl n0 f0, .agg [.str s2, .int _ x3, .sl n4 f4, .int _ x6]] => s2.size <= 9223372036854775807
 | _ => False) fun
 | [.sl n0 f0, .agg [.str s2, .int _ x3, .sl n4 f4, .int _ x6]] => .int .i64 (F63 n0 f0 s2 x3 n4 f4 x6)
 | _ => .any
theorem Cn : (vP C63).Ok Tryz.prog 63 := mkE wK Tryz.func63 (by kernel_rfl) fun ds hp => rfs (I3 ..) (LG _ _ _ _ _ _ _ hp)
def m69 (n0 : Nat) (f0 : FnV) (s2 : ByteArray) (x3 x4 x5 x6 x7 : Int) : RT Empty := .obp (s2.size <= (9223372036854775807 : Nat)) (.obt (.br (!jY s2) (.ret (vi 6)) (.obc (.obt (.br (nk n0 (elV tyC f0) s2) (.ret (vi 5)) (.obc (.obt (.obi (.br (!dK 2 (elV tp1 (bM [vi x3, vi x4] 0 1))) (.ob (!dK 2 (elV tp1 (bM [vi x3, vi x4] 0 1))) (.obc (.obt (.obi (.br (!aP x5 1 200) (.ob (!aP x5 1 200) (.obc (.obt (.obi (.br (!aP x6 (-1000) 1000) (.ob (!aP x6 (-1000) 1000) (.obc (.obt (.br (aP x7 (-1000) 1000) (.ret (vi 7)) (.obi (.obi (.obi (.br (bif x6 == 0 then x7 == 0 else false) (.ret (vi 2)) (.ret (vi 0)))))))))) (.ret (vi 7))))))) (.ret (vi 7))))))) (.ret (vi 7)))))))))))
theorem Iz (n0 : Nat) (f0 : FnV) (s2 : ByteArray) (x3 x4 x5 x6 x7 : Int) : Fit noD (bk JJ lS u0 s69 [V.sl n0 (elV tyC f0), V.agg [V.str s2, vi x3, vi x4, vi x5, vi x6, vi x7]]) (m69 n0 f0 s2 x3 x4 x5 x6 x7) := ⟨by kernel_rfl, by kernel_rfl⟩
def ja (n0 : Nat) (f0 : FnV) (s2 : ByteArray) (x3 x4 x5 x6 x7 : Int) : Int := bif !jY s2 then 6 else bif nk n0 (elV tyC f0) s2 then 5 else bif !dK 2 (elV tp1 (bM [vi x3, vi x4] 0 1)) then bif !aP x5 1 200 then bif !aP x6 (-1000) 1000 then bif aP x7 (-1000) 1000 then 7 else bif bif x6 == 0 then x7 == 0 else false then 2 else 0 else 7 else 7 else 7
def R69 (n0 : Nat) (f0 : FnV) (s2 : ByteArray) (x3 x4 x5 x6 x7 : Int) : V := .int i64 (ja n0 f0 s2 x3 x4 x5 x6 x7)
theorem LK (n0 : Nat) (f0 : FnV) (s2 : ByteArray) (x3 x4 x5 x6 x7 : Int) (hp : s2.size <= 9223372036854775807) : evR noE (m69 n0 f0 s2 x3 x4 x5 x6 x7) (R69 n0 f0 s2 x3 x4 x5 x6 x7) := aO (by first | assumption | (exact hp)) (af (aL (fun h0 => ao (by unfold R69 ja; try rw [h0]; rfl)) (fun h0 => ar (af (aL (fun h1 => ao (by unfold R69 ja; try rw [h0]; try rw [h1]; rfl)) (fun h1 => ar (af (ak (aL (fun h2 => ac (by first | assumption | (fail)) (ar (af (ak (aL (fun h3 => ac (by first | assumption | (fail)) (ar (af (ak (aL (fun h4 => ac (by first | assumption | (fail)) (ar (af (aL (fun h5 => ao (by unfold R69 ja; try rw [h0]; try rw [h1]; try rw [h2]; try rw [h3]; try rw [h4]; try rw [h5]; rfl)) (fun h5 => ak (ak (ak (aL (fun h6 => ao (by unfold R69 ja; try rw [h0]; try rw [h1]; try rw [h2]; try rw [h3]; try rw [h4]; try rw [h5]; try rw [h6]; rfl)) (fun h6 => ao (by unfold R69 ja; try rw [h0]; try rw [h1]; try rw [h2]; try rw [h3]; try rw [h4]; try rw [h5]; try rw [h6]; rfl)))))))))) (fun h4 => ao (by unfold R69 ja; try rw [h0]; try rw [h1]; try rw [h2]; try rw [h3]; try rw [h4]; rfl))))))) (fun h3 => ao (by unfold R69 ja; try rw [h0]; try rw [h1]; try rw [h2]; try rw [h3]; rfl))))))) (fun h2 => ao (by unfold R69 ja; try rw [h0]; try rw [h1]; try rw [h2]; rfl)))))))))))
def C69 : a7 := mkC [.sl tyC, .agg tyC] (fun
 | [.sl n0 f0, .agg [.str s2, .int _ x3, .int _ x4, .int _ x5, .int _ x6, .int _ x7]] => s2.size <= 9223372036854775807
 | _ => False) fun
 | [.sl n0 f0, .agg [.str s2, .int _ x3, .int _ x4, .int _ x5, .int _ x6, .int _ x7]] => R69 n0 f0 s2 x3 x4 x5 x6 x7
 | _ => .any
theorem AP : (vP C69).Ok Tryz.prog 69 := mkE wK Tryz.func69 (by kernel_rfl) fun ds hp => rf0 (Iz ..) (LK _ _ _ _ _ _ _ _ hp)
noncomputable section
def qO : bj := (63, .con C63) :: (69, .con C69) :: lS
theorem wW : be Tryz.prog eqs its qO := .con Cn (.con AP (wK))
def fx (x y : Int) : Bool := F51 2 (elV tp1 (bM [V.int .i64 x, V.int .i64 y] 0 ((1 + 1 - 0) / 2)))
def yp (k : Int) (n : Nat) (f : Nat -> List V) (h : Int) : Int := bif !eK k 0 3 then 2 else bif decide ((n : Int) < 2) then 4 else bif decide (8 < (n : Int)) then 3 else bif exB n (fun i => !fx (jv0 (f i)) (jv1 (f i))) then 7 else bif !eK h 100 30000 then 7 else bif iW n f then 2 else fy k n
def F70 (n0 : Nat) (f0 : FnV) (x8 : Int) : Int := bif !y7 (sv (hdV (f0 x8.toNat))) then 6 else bif exB x8.toNat (fun k => (sv (hdV (f0 k))).toList == (sv (hdV (f0 x8.toNat))).toList) then 5 else yp (jv1 (f0 x8.toNat)) (c5 (hdV (tlV (tlV (f0 x8.toNat))))) (atV (hdV (tlV (tlV (f0 x8.toNat))))) (jv3 (f0 x8.toNat))
inductive S62 where
 | L0 (ia0 : Int)
def J6 (n0 : Nat) (f0 : FnV) : S62 -> Env × List O × Option Ex
 | .L0 ia0 => ([(11, vi ia0), (10, vi (↑n0 : Int)), (9, V.sl n0 (elV tyR f0)), (5, vi 0), (4, vi 0), (0, V.sl n0 (elV tyR f0)), (1, V.fn 63 [] [])], [], none)
def LE : S62 -> JJ
 | .L0 ia0 => (0, [])
def HT (n0 : Nat) (f0 : FnV) : T (ca JJ) := bk JJ qO u0 s62 [V.sl n0 (elV tyR f0), V.fn 63 [] []]
def B8 (n0 : Nat) (f0 : FnV) (cx : List Cx) : Lp JJ := lpT (atT (HT n0 f0) [])
def KO (n0 : Nat) (f0 : FnV) : JJ -> Lp JJ
 | (0, cx) => B8 n0 f0 cx
 | (_, cx) => B8 n0 f0 cx
def D62 (n0 : Nat) (f0 : FnV) : LD JJ S62 := ⟨LE, KO n0 f0, J6 n0 f0⟩
def FY (n0 : Nat) (f0 : FnV) : S62 -> RT S62
 | .L0 ia0 => .br (decide (ia0 < (↑n0 : Int))) (.ob (decide (0 <= ia0 /\ ia0 < (↑n0 : Int))) (.ob (decide (0 <= ia0 /\ ia0 <= (↑n0 : Int))) (.obp ((sv (hdV (f0 ia0.toNat))).size <= (9223372036854775807 : Nat)) (.obt (.br (F63 (ia0.toNat - 0) (fun i => elV tyR f0 (0 + i)) (sv (hdV (f0 ia0.toNat))) (jv1 (f0 ia0.toNat)) (c5 (hdV (tlV (tlV (f0 ia0.toNat))))) (fun i => ap tp2 (atV (hdV (tlV (tlV (f0 ia0.toNat)))) i)) (jv3 (f0 ia0.toNat)) != 0) (.ret (V.tup [vi ia0, vi (F63 (ia0.toNat - 0) (fun i => elV tyR f0 (0 + i)) (sv (hdV (f0 ia0.toNat))) (jv1 (f0 ia0.toNat)) (c5 (hdV (tlV (tlV (f0 ia0.toNat))))) (fun i => ap tp2 (atV (hdV (tlV (tlV (f0 ia0.toNat)))) i)) (jv3 (f0 ia0.toNat)))])) (.next [] (S62.L0 (i64.wrap (ia0 + 1))) [])))))) (.ret (V.tup [vi 0, vi 0]))
def m62 (n0 : Nat) (f0 : FnV) : RT S62 := .asm (true = true -> n0 <= 9223372036854775807) (.enter [] (S62.L0 (0)) [])
theorem JK (n0 : Nat) (f0 : FnV) : jF qO u0 (D62 n0 f0) (HT n0 f0) (m62 n0 f0) (FY n0 f0) := ⟨⟨by kernel_rfl, by kernel_rfl⟩, fun s => by cases s <;> exact ⟨by kernel_rfl, by kernel_rfl⟩⟩
def c62 (n0 : Nat) (f0 : FnV) (ii : Nat) : Int := (F63 (ii - 0) (fun i => elV tyR f0 (0 + i)) (sv (hdV (f0 ii))) (jv1 (f0 ii)) (c5 (hdV (tlV (tlV (f0 ii))))) (fun i => ap tp2 (atV (hdV (tlV (tlV (f0 ii)))) i)) (jv3 (f0 ii)))
def rI (n0 : Nat) (f0 : FnV) : Int := eO n0 (c62 n0 f0)
def kN (n0 : Nat) (f0 : FnV) : Int := cM n0 (c62 n0 f0)
theorem GV (n0 : Nat) (f0 : FnV) (hp : cY n0 f0) : evR (Ev (FY n0 f0)) (m62 n0 f0) (.tup [.int .i64 (rI n0 f0), .int .i64 (kN n0 f0)]) := dF fun hn => aJ (mC (Q := fun i => (sv (hdV (f0 i))).size <= 9223372036854775807) (fun i x => .obp ((sv (hdV (f0 i))).size <= 9223372036854775807) (.obt x)) (fun i x r h hx => aO h (af hx)) (fun _ _ => rfl) hn hp fun i => rfl)
theorem Kx (n0 : Nat) (f0 : FnV) (hp : cY n0 (elV tyR f0)) : evR (Ev (FY n0 f0)) (m62 n0 f0) (.tup [.int .i64 (rI n0 (elV tyR f0)), .int .i64 (kN n0 (elV tyR f0))]) := GV n0 f0 hp
def C62 : a7 := mkC [.sl tyR, .fn 63 [] []] (fun
 | [.sl n0 f0, .fn _ [] []] => cY n0 f0
 | _ => False) fun
 | [.sl n0 f0, .fn _ [] []] => .tup [.int .i64 (rI n0 f0), .int .i64 (kN n0 f0)]
 | _ => .any
theorem Ap : (vP C62).Ok Tryz.prog 62 := mkE wW Tryz.func62 (by kernel_rfl) fun ds hp => rfs (JK ..) (Kx _ _ hp)
inductive S68 where
 | L0 (ia0 : Int)
def Ip (n0 : Nat) (f0 : FnV) : S68 -> Env × List O × Option Ex
 | .L0 ia0 => ([(11, vi ia0), (10, vi (↑n0 : Int)), (9, V.sl n0 (elV tyC f0)), (5, vi 0), (4, vi 0), (0, V.sl n0 (elV tyC f0)), (1, V.fn 69 [] [])], [], none)
def KR : S68 -> JJ
 | .L0 ia0 => (0, [])
def J3 (n0 : Nat) (f0 : FnV) : T (ca JJ) := bk JJ qO u0 s68 [V.sl n0 (elV tyC f0), V.fn 69 [] []]
def CE (n0 : Nat) (f0 : FnV) (cx : List Cx) : Lp JJ := lpT (atT (J3 n0 f0) [])
def LC (n0 : Nat) (f0 : FnV) : JJ -> Lp JJ
 | (0, cx) => CE n0 f0 cx
 | (_, cx) => CE n0 f0 cx
def D68 (n0 : Nat) (f0 : FnV) : LD JJ S68 := ⟨KR, LC n0 f0, Ip n0 f0⟩
def E1 (n0 : Nat) (f0 : FnV) : S68 -> RT S68
 | .L0 ia0 => .br (decide (ia0 < (↑n0 : Int))) (.ob (decide (0 <= ia0 /\ ia0 < (↑n0 : Int))) (.ob (decide (0 <= ia0 /\ ia0 <= (↑n0 : Int))) (.obp ((sv (hdV (f0 ia0.toNat))).size <= (9223372036854775807 : Nat)) (.obt (.br (ja (ia0.toNat - 0) (fun i => elV tyC f0 (0 + i)) (sv (hdV (f0 ia0.toNat))) (jv1 (f0 ia0.toNat)) (jv2 (f0 ia0.toNat)) (jv3 (f0 ia0.toNat)) (jv4 (f0 ia0.toNat)) (jv5 (f0 ia0.toNat)) != 0) (.ret (V.tup [vi ia0, vi (ja (ia0.toNat - 0) (fun i => elV tyC f0 (0 + i)) (sv (hdV (f0 ia0.toNat))) (jv1 (f0 ia0.toNat)) (jv2 (f0 ia0.toNat)) (jv3 (f0 ia0.toNat)) (jv4 (f0 ia0.toNat)) (jv5 (f0 ia0.toNat)))])) (.next [] (S68.L0 (i64.wrap (ia0 + 1))) [])))))) (.ret (V.tup [vi 0, vi 0]))
def m68 (n0 : Nat) (f0 : FnV) : RT S68 := .asm (true = true -> n0 <= 9223372036854775807) (.enter [] (S68.L0 (0)) [])
theorem IT (n0 : Nat) (f0 : FnV) : jF qO u0 (D68 n0 f0) (J3 n0 f0) (m68 n0 f0) (E1 n0 f0) := ⟨⟨by kernel_rfl, by kernel_rfl⟩, fun s => by cases s <;> exact ⟨by kernel_rfl, by kernel_rfl⟩⟩
def c68 (n0 : Nat) (f0 : FnV) (ii : Nat) : Int := (ja (ii - 0) (fun i => elV tyC f0 (0 + i)) (sv (hdV (f0 ii))) (jv1 (f0 ii)) (jv2 (f0 ii)) (jv3 (f0 ii)) (jv4 (f0 ii)) (jv5 (f0 ii)))
def qX (n0 : Nat) (f0 : FnV) : Int := eO n0 (c68 n0 f0)
def kX (n0 : Nat) (f0 : FnV) : Int := cM n0 (c68 n0 f0)
theorem GM (n0 : Nat) (f0 : FnV) (hp : cY n0 f0) : evR (Ev (E1 n0 f0)) (m68 n0 f0) (.tup [.int .i64 (qX n0 f0), .int .i64 (kX n0 f0)]) := dF fun hn => aJ (mC (Q := fun i => (sv (hdV (f0 i))).size <= 9223372036854775807) (fun i x => .obp ((sv (hdV (f0 i))).size <= 9223372036854775807) (.obt x)) (fun i x r h hx => aO h (af hx)) (fun _ _ => rfl) hn hp fun i => rfl)
theorem Mk (n0 : Nat) (f0 : FnV) (hp : cY n0 (elV tyC f0)) : evR (Ev (E1 n0 f0)) (m68 n0 f0) (.tup [.int .i64 (qX n0 (elV tyC f0)), .int .i64 (kX n0 (elV tyC f0))]) := GM n0 f0 hp
def C68 : a7 := mkC [.sl tyC, .fn 69 [] []] (fun
 | [.sl n0 f0, .fn _ [] []] => cY n0 f0
 | _ => False) fun
 | [.sl n0 f0, .fn _ [] []] => .tup [.int .i64 (qX n0 f0), .int .i64 (kX n0 f0)]
 | _ => .any
theorem Bn : (vP C68).Ok Tryz.prog 68 := mkE wW Tryz.func68 (by kernel_rfl) fun ds hp => rfs (IT ..) (Mk _ _ hp)
end
noncomputable section
def Aj : bj := (62, .con C62) :: (68, .con C68) :: qO
theorem CC : be Tryz.prog eqs its Aj := .con Ap (.con Bn (wW))
def yt (x y a z w : Int) : Int := bif !!fx x y then (bif (bif bif bif !eK a 1 20000 then true else decide (z < 0) then true else decide (w <= z) then true else decide (1000 < w)) then 7 else 0) else 7
def r24 (n : Nat) (c : Nat -> Int) (k : Int) (z : Int × Int × Int) : Int × Int × Int := bif cM n c != 0 then (k, eO n c, cM n c) else z
def cR (n0 : Nat) (f0 : FnV) (i : Nat) : Int := F70 n0 (elV tyR f0) (i : Int)
def cT (f2 : FnV) (i : Nat) : Int := yt (jv0 (f2 i)) (jv1 (f2 i)) (jv2 (f2 i)) (jv3 (f2 i)) (jv4 (f2 i))
def cF (f4 : FnV) (i : Nat) : Int := F72 (jv0 (f4 i)) (jv1 (f4 i)) (jv2 (f4 i)) (jv3 (f4 i)) (c5 (hdV (tlV (tlV (tlV (tlV (f4 i))))))) fun j => ap tp4 (atV (hdV (tlV (tlV (tlV (tlV (f4 i)))))) j)
def cC (n6 : Nat) (f6 : FnV) (i : Nat) : Int := F73 n6 (elV tyC f6) (i : Int)
def z3 (n6 : Nat) (f6 : FnV) : Int × Int × Int := r24 n6 (cC n6 f6) 4 (0, 0, 0)
def z2 (n4 : Nat) (f4 : FnV) (n6 : Nat) (f6 : FnV) : Int × Int × Int := r24 n4 (cF f4) 3 (z3 n6 f6)
def z1 (n2 : Nat) (f2 : FnV) (n4 : Nat) (f4 : FnV) (n6 : Nat) (f6 : FnV) : Int × Int × Int := r24 n2 (cT f2) 2 (z2 n4 f4 n6 f6)
def DU (n0 : Nat) (f0 : FnV) (n2 : Nat) (f2 : FnV) (n4 : Nat) (f4 : FnV) (n6 : Nat) (f6 : FnV) : Bool := bif bif bif decide (8 < (n0 : Int)) then true else decide (12 < (n2 : Int)) then true else decide (8 < (n4 : Int)) then true else decide (24 < (n6 : Int))
def F24 (n0 : Nat) (f0 : FnV) (n2 : Nat) (f2 : FnV) (n4 : Nat) (f4 : FnV) (n6 : Nat) (f6 : FnV) : Int × Int × Int := bif DU n0 f0 n2 f2 n4 f4 n6 f6 then (0, 0, 3) else r24 n0 (cR n0 f0) 1 (z1 n2 f2 n4 f4 n6 f6)
def bt (n0 : Nat) (f0 : FnV) (n2 : Nat) (f2 : FnV) (n4 : Nat) (f4 : FnV) (n6 : Nat) (f6 : FnV) : Int := (F24 n0 f0 n2 f2 n4 f4 n6 f6).2.2
def m23 (n0 : Nat) (f0 : FnV) (n2 : Nat) (f2 : FnV) (n4 : Nat) (f4 : FnV) (n6 : Nat) (f6 : FnV) : RT Empty := .asm (true = true -> n0 <= 9223372036854775807) (.obi (.obi (.asm ((!decide (8 < (↑n0 : Int))) = true -> n2 <= 9223372036854775807) (.obi (.obi (.obi (.obi (.asm ((!bif decide (8 < (↑n0 : Int)) then true else decide (12 < (↑n2 : Int))) = true -> n4 <= 9223372036854775807) (.obi (.obi (.obi (.obi (.asm ((!bif bif decide (8 < (↑n0 : Int)) then true else decide (12 < (↑n2 : Int)) then true else decide (8 < (↑n4 : Int))) = true -> n6 <= 9223372036854775807) (.obi (.obi (.br (bif bif bif decide (8 < (↑n0 : Int)) then true else decide (12 < (↑n2 : Int)) then true else decide (8 < (↑n4 : Int)) then true else decide (24 < (↑n6 : Int))) (.ret (V.tup [vi 0, vi 0, vi 3])) (.obp (∀ (i : Nat), i < n0 -> (sv (hdV (f0 i))).size <= (9223372036854775807 : Nat)) (.obt (.br (kN n0 (elV tyR f0) != 0) (.ret (V.tup [vi 1, vi (rI n0 (elV tyR f0)), vi (kN n0 (elV tyR f0))])) (.obc (.obt (.br (kJ n2 (elV tyT f2) != 0) (.ret (V.tup [vi 2, vi (rV n2 (elV tyT f2)), vi (kJ n2 (elV tyT f2))])) (.obc (.obt (.br (kS n4 (elV tyF f4) != 0) (.ret (V.tup [vi 3, vi (qY n4 (elV tyF f4)), vi (kS n4 (elV tyF f4))])) (.obp (∀ (i : Nat), i < n6 -> (sv (hdV (f6 i))).size <= (9223372036854775807 : Nat)) (.obt (.br (kX n6 (elV tyC f6) != 0) (.ret (V.tup [vi 4, vi (qX n6 (elV tyC f6)), vi (kX n6 (elV tyC f6))])) (.ret (V.tup [vi 0, vi 0, vi 0]))))))))))))))))))))))))))))))
theorem Jk (n0 : Nat) (f0 : FnV) (n2 : Nat) (f2 : FnV) (n4 : Nat) (f4 : FnV) (n6 : Nat) (f6 : FnV) : Fit noD (bk JJ Aj u0 s23 [scV n0 f0 n2 f2 n4 f4 n6 f6]) (m23 n0 f0 n2 f2 n4 f4 n6 f6) := ⟨by kernel_rfl, by kernel_rfl⟩
def iG (n0 : Nat) (f0 : FnV) (n2 : Nat) (f2 : FnV) (n4 : Nat) (f4 : FnV) (n6 : Nat) (f6 : FnV) : Int := bif bif bif bif decide (8 < (↑n0 : Int)) then true else decide (12 < (↑n2 : Int)) then true else decide (8 < (↑n4 : Int)) then true else decide (24 < (↑n6 : Int)) then 0 else bif kN n0 (elV tyR f0) != 0 then 1 else bif kJ n2 (elV tyT f2) != 0 then 2 else bif kS n4 (elV tyF f4) != 0 then 3 else bif kX n6 (elV tyC f6) != 0 then 4 else 0
def iU (n0 : Nat) (f0 : FnV) (n2 : Nat) (f2 : FnV) (n4 : Nat) (f4 : FnV) (n6 : Nat) (f6 : FnV) : Int := bif bif bif bif decide (8 < (↑n0 : Int)) then true else decide (12 < (↑n2 : Int)) then true else decide (8 < (↑n4 : Int)) then true else decide (24 < (↑n6 : Int)) then 0 else bif kN n0 (elV tyR f0) != 0 then rI n0 (elV tyR f0) else bif kJ n2 (elV tyT f2) != 0 then rV n2 (elV tyT f2) else bif kS n4 (elV tyF f4) != 0 then qY n4 (elV tyF f4) else bif kX n6 (elV tyC f6) != 0 then qX n6 (elV tyC f6) else 0
def dC (n0 : Nat) (f0 : FnV) (n2 : Nat) (f2 : FnV) (n4 : Nat) (f4 : FnV) (n6 : Nat) (f6 : FnV) : Int := bif bif bif bif decide (8 < (↑n0 : Int)) then true else decide (12 < (↑n2 : Int)) then true else decide (8 < (↑n4 : Int)) then true else decide (24 < (↑n6 : Int)) then 3 else bif kN n0 (elV tyR f0) != 0 then kN n0 (elV tyR f0) else bif kJ n2 (elV tyT f2) != 0 then kJ n2 (elV tyT f2) else bif kS n4 (elV tyF f4) != 0 then kS n4 (elV tyF f4) else bif kX n6 (elV tyC f6) != 0 then kX n6 (elV tyC f6) else 0
def R23 (n0 : Nat) (f0 : FnV) (n2 : Nat) (f2 : FnV) (n4 : Nat) (f4 : FnV) (n6 : Nat) (f6 : FnV) : V := .tup [.int i64 (iG n0 f0 n2 f2 n4 f4 n6 f6), .int i64 (iU n0 f0 n2 f2 n4 f4 n6 f6), .int i64 (dC n0 f0 n2 f2 n4 f4 n6 f6)]
theorem KQ (n0 : Nat) (f0 : FnV) (n2 : Nat) (f2 : FnV) (n4 : Nat) (f4 : FnV) (n6 : Nat) (f6 : FnV) (hp : cY n0 f0 /\ cY n6 f6) : evR noE (m23 n0 f0 n2 f2 n4 f4 n6 f6) (R23 n0 f0 n2 f2 n4 f4 n6 f6) := dT (fun a0 => ak (ak (dT (fun a0 => ak (ak (ak (ak (dT (fun a0 => ak (ak (ak (ak (dT (fun a0 => ak (ak (aL (fun h0 => ao (by unfold R23 iG iU dC; try rw [h0]; rfl)) (fun h0 => aO (by first | assumption | ((first | exact hp.1 | exact hp.2))) (af (aL (fun h1 => ao (by unfold R23 iG iU dC; try rw [h0]; try rw [h1]; rfl)) (fun h1 => ar (af (aL (fun h2 => ao (by unfold R23 iG iU dC; try rw [h0]; try rw [h1]; try rw [h2]; rfl)) (fun h2 => ar (af (aL (fun h3 => ao (by unfold R23 iG iU dC; try rw [h0]; try rw [h1]; try rw [h2]; try rw [h3]; rfl)) (fun h3 => aO (by first | assumption | ((first | exact hp.1 | exact hp.2))) (af (aL (fun h4 => ao (by unfold R23 iG iU dC; try rw [h0]; try rw [h1]; try rw [h2]; try rw [h3]; try rw [h4]; rfl)) (fun h4 => ao (by unfold R23 iG iU dC; try rw [h0]; try rw [h1]; try rw [h2]; try rw [h3]; try rw [h4]; rfl))))))))))))))))))))))))))))))
def C23 : a7 := mkC [.agg [.sl tyR, .sl tyT, .sl tyF, .sl tyC]] (fun
 | [.agg [.sl n0 f0, .sl n2 f2, .sl n4 f4, .sl n6 f6]] => cY n0 f0 /\ cY n6 f6
 | _ => False) fun
 | [.agg [.sl n0 f0, .sl n2 f2, .sl n4 f4, .sl n6 f6]] => R23 n0 f0 n2 f2 n4 f4 n6 f6
 | _ => .any
theorem Bd : (vP C23).Ok Tryz.prog 23 := mkE CC Tryz.func23 (by kernel_rfl) fun ds hp => rf0 (Jk ..) (KQ _ _ _ _ _ _ _ _ hp)
end
noncomputable section
def xN : bj := (23, .con C23) :: Aj
theorem Bu : be Tryz.prog eqs its xN := .con Bd (CC)
inductive S44 where
 | L0 (ia0 ia1 : Int)
def H2 (n0 : Nat) (f0 : FnV) (n2 : Nat) (f2 : FnV) (n4 : Nat) (f4 : FnV) (n6 : Nat) (f6 : FnV) (n8 : Nat) (f8 : FnV) : S44 -> Env × List O × Option Ex
 | .L0 ia0 ia1 => ([(8, vi ia0), (7, vi ia1), (6, vi (iU n0 (elV tyR f0) n2 (elV tyT f2) n4 (elV tyF f4) n6 (elV tyC f6))), (5, vi (iG n0 (elV tyR f0) n2 (elV tyT f2) n4 (elV tyF f4) n6 (elV tyC f6))), (14, vi (dC n0 (elV tyR f0) n2 (elV tyT f2) n4 (elV tyF f4) n6 (elV tyC f6))), (13, vi (iU n0 (elV tyR f0) n2 (elV tyT f2) n4 (elV tyF f4) n6 (elV tyC f6))), (12, vi (iG n0 (elV tyR f0) n2 (elV tyT f2) n4 (elV tyF f4) n6 (elV tyC f6))), (9, V.tup [vi (iG n0 (elV tyR f0) n2 (elV tyT f2) n4 (elV tyF f4) n6 (elV tyC f6)), vi (iU n0 (elV tyR f0) n2 (elV tyT f2) n4 (elV tyF f4) n6 (elV tyC f6)), vi (dC n0 (elV tyR f0) n2 (elV tyT f2) n4 (elV tyF f4) n6 (elV tyC f6))]), (11, V.tup [vi (iG n0 (elV tyR f0) n2 (elV tyT f2) n4 (elV tyF f4) n6 (elV tyC f6)), vi (iU n0 (elV tyR f0) n2 (elV tyT f2) n4 (elV tyF f4) n6 (elV tyC f6)), vi (dC n0 (elV tyR f0) n2 (elV tyT f2) n4 (elV tyF f4) n6 (elV tyC f6))]), (10, scV n0 f0 n2 f2 n4 f4 n6 f6), (4, vi 0), (2, V.pl 0 0), (0, scV n0 f0 n2 f2 n4 f4 n6 f6), (1, V.sl n8 (elV tp1 f8))], [O.cells [V.sl n0 (elV tyR f0), V.sl n2 (elV tyT f2), V.sl n4 (elV tyF f4), V.sl n6 (elV tyC f6)] 27], none)
def LF : S44 -> JJ
 | .L0 ia0 ia1 => (0, [])
def JG (n0 : Nat) (f0 : FnV) (n2 : Nat) (f2 : FnV) (n4 : Nat) (f4 : FnV) (n6 : Nat) (f6 : FnV) (n8 : Nat) (f8 : FnV) : T (ca JJ) := bk JJ xN u0 s44 [scV n0 f0 n2 f2 n4 f4 n6 f6, V.sl n8 (elV tp1 f8)]
def B0 (n0 : Nat) (f0 : FnV) (n2 : Nat) (f2 : FnV) (n4 : Nat) (f4 : FnV) (n6 : Nat) (f6 : FnV) (n8 : Nat) (f8 : FnV) (cx : List Cx) : Lp JJ := lpT (atT (JG n0 f0 n2 f2 n4 f4 n6 f6 n8 f8) [])
def Ml (n0 : Nat) (f0 : FnV) (n2 : Nat) (f2 : FnV) (n4 : Nat) (f4 : FnV) (n6 : Nat) (f6 : FnV) (n8 : Nat) (f8 : FnV) : JJ -> Lp JJ
 | (0, cx) => B0 n0 f0 n2 f2 n4 f4 n6 f6 n8 f8 cx
 | (_, cx) => B0 n0 f0 n2 f2 n4 f4 n6 f6 n8 f8 cx
def D44 (n0 : Nat) (f0 : FnV) (n2 : Nat) (f2 : FnV) (n4 : Nat) (f4 : FnV) (n6 : Nat) (f6 : FnV) (n8 : Nat) (f8 : FnV) : LD JJ S44 := ⟨LF, Ml n0 f0 n2 f2 n4 f4 n6 f6 n8 f8, H2 n0 f0 n2 f2 n4 f4 n6 f6 n8 f8⟩
def yK (n0 : Nat) (f0 : FnV) (n2 : Nat) (f2 : FnV) (n4 : Nat) (f4 : FnV) (n6 : Nat) (f6 : FnV) (n8 : Nat) (f8 : FnV) : S44 -> RT S44
 | .L0 ia0 ia1 => .asm (true = true -> n8 <= 9223372036854775807) (.obi (.obi (.br (bif decide (ia0 < (↑n8 : Int)) then ia1 == 0 else false) (.ob (decide (0 <= ia0 /\ ia0 < (↑n8 : Int))) (.ob (decide (0 <= i64.wrap (ia0 + 1) /\ i64.wrap (ia0 + 1) < (↑n8 : Int))) (.obc (.obt (.br (aP (jv0 (f8 ia0.toNat)) 0 (i64.wrap (jv0 (f8 (i64.wrap (ia0 + 1)).toNat) - 1))) (.next [some (some 0)] (S44.L0 (i64.wrap (ia0 + 2)) (4)) []) (.next [some (some 0)] (S44.L0 (i64.wrap (ia0 + 2)) (ia1)) [])))))) (.ret (vi ia1)))))
def m44 (n0 : Nat) (f0 : FnV) (n2 : Nat) (f2 : FnV) (n4 : Nat) (f4 : FnV) (n6 : Nat) (f6 : FnV) (n8 : Nat) (f8 : FnV) : RT S44 := .obp ((∀ (i : Nat), i < n0 -> (sv (hdV (f0 i))).size <= (9223372036854775807 : Nat)) /\ ∀ (i : Nat), i < n6 -> (sv (hdV (f6 i))).size <= (9223372036854775807 : Nat)) (.obt (.enter [some (some 0)] (S44.L0 (0) (dC n0 (elV tyR f0) n2 (elV tyT f2) n4 (elV tyF f4) n6 (elV tyC f6))) []))
theorem JA (n0 : Nat) (f0 : FnV) (n2 : Nat) (f2 : FnV) (n4 : Nat) (f4 : FnV) (n6 : Nat) (f6 : FnV) (n8 : Nat) (f8 : FnV) : jF xN u0 (D44 n0 f0 n2 f2 n4 f4 n6 f6 n8 f8) (JG n0 f0 n2 f2 n4 f4 n6 f6 n8 f8) (m44 n0 f0 n2 f2 n4 f4 n6 f6 n8 f8) (yK n0 f0 n2 f2 n4 f4 n6 f6 n8 f8) := ⟨⟨by kernel_rfl, by kernel_rfl⟩, fun s => by cases s <;> exact ⟨by kernel_rfl, by kernel_rfl⟩⟩
def sh (f8 : FnV) (k : Nat) : Bool := aP (jv0 (f8 (2 * k))) 0 (i64.wrap (jv0 (f8 (2 * k + 1)) - 1))
def zR (n8 : Nat) (f8 : FnV) (e : Int) : Int := bif e == 0 then (bif exB (n8 / 2) (sh f8) then 4 else 0) else e
def F44 (n0 : Nat) (f0 : FnV) (n2 : Nat) (f2 : FnV) (n4 : Nat) (f4 : FnV) (n6 : Nat) (f6 : FnV) (n8 : Nat) (f8 : FnV) : Int := zR n8 f8 (dC n0 (elV tyR f0) n2 (elV tyT f2) n4 (elV tyF f4) n6 (elV tyC f6))
theorem En (n0 : Nat) (f0 : FnV) (n2 : Nat) (f2 : FnV) (n4 : Nat) (f4 : FnV) (n6 : Nat) (f6 : FnV) (n8 : Nat) (f8 : FnV) (i e : Int) (he : (e == 0) = false) : Ev (yK n0 f0 n2 f2 n4 f4 n6 f6 n8 f8) (.L0 i e) (.int .i64 e) := Ev.of rfl (dT fun _ => ak (ak (cH (by rw [he]; cases decide (i < (n8 : Int)) <;> rfl) (ao rfl))))
theorem JC (n0 : Nat) (f0 : FnV) (n2 : Nat) (f2 : FnV) (n4 : Nat) (f4 : FnV) (n6 : Nat) (f6 : FnV) (n8 : Nat) (f8 : FnV) (hm : n8 % 2 = 0) (hn : n8 <= 100) : ∀ k : Nat, k <= n8 / 2 -> (∀ j, j < k -> sh f8 j = false) -> Ev (yK n0 f0 n2 f2 n4 f4 n6 f6 n8 f8) (.L0 ((2 * k : Nat) : Int) 0) (.int .i64 (bif exB (n8 / 2) (sh f8) then 4 else 0)) := by
 refine dM fun k hk ih hj => Ev.of rfl (dT fun _ => ak (ak (aL (fun h => ?_) (fun h => ?_))))
 ·have hlt : 2 * k < n8 := by
   by_cases hh : ((2 * k : Nat) : Int) < (n8 : Int)
   ·omega
   ·rw [dqf hh] at h; cases h
  have w1 : i64.wrap (((2 * k : Nat) : Int) + 1) = ((2 * k + 1 : Nat) : Int) := by rw [aA (by omega) (by omega)]; omega
  have w2 : i64.wrap (((2 * k : Nat) : Int) + 2) = ((2 * (k + 1) : Nat) : Int) := by rw [aA (by omega) (by omega)]; omega
  refine ac (dqt (by omega)) (ac (dqt (by rw [w1]; omega)) (ar (af (aL (fun hb => aR ?_) (fun hb => aR ?_)))))
  ·rw [w1] at hb
   simp only [Int.toNat_natCast] at hb
   rw [bN (p := sh f8) k (by omega) hb, cond_true]
   exact En n0 f0 n2 f2 n4 f4 n6 f6 n8 f8 _ 4 rfl
  ·rw [w1] at hb
   simp only [Int.toNat_natCast] at hb
   rw [w2]
   refine ih (by omega) (fun j h3 => ?_)
   by_cases e : j = k
   ·subst e; exact hb
   ·exact hj j (by omega)
 ·have e : k = n8 / 2 := by
   by_cases hh : ((2 * k : Nat) : Int) < (n8 : Int)
   ·rw [dqt hh] at h; cases h
   ·omega
  rw [show exB (n8 / 2) (sh f8) = false from eg fun j h => hj j (by omega)]
  exact ao rfl
theorem Ie (n0 : Nat) (f0 : FnV) (n2 : Nat) (f2 : FnV) (n4 : Nat) (f4 : FnV) (n6 : Nat) (f6 : FnV) (n8 : Nat) (f8 : FnV) (hm : n8 % 2 = 0) (hn : n8 <= 100) (e : Int) : Ev (yK n0 f0 n2 f2 n4 f4 n6 f6 n8 f8) (.L0 0 e) (.int .i64 (zR n8 f8 e)) := by
 unfold zR
 cases he : e == 0 with
 | false => exact En n0 f0 n2 f2 n4 f4 n6 f6 n8 f8 0 e he
 | true =>
   have : e = 0 := eq_of_beq he
   subst this
   exact JC n0 f0 n2 f2 n4 f4 n6 f6 n8 f8 hm hn 0 (by omega) (fun j h => by omega)
theorem Gs (n0 : Nat) (f0 : FnV) (n2 : Nat) (f2 : FnV) (n4 : Nat) (f4 : FnV) (n6 : Nat) (f6 : FnV) (n8 : Nat) (f8 : FnV) (hp : (cY n0 f0 /\ cY n6 f6) /\ n8 % 2 = 0 /\ n8 <= 100) : evR (Ev (yK n0 f0 n2 f2 n4 f4 n6 f6 n8 f8)) (m44 n0 f0 n2 f2 n4 f4 n6 f6 n8 f8) (.int .i64 (F44 n0 f0 n2 f2 n4 f4 n6 f6 n8 f8)) := aO hp.1 (af (aJ (Ie n0 f0 n2 f2 n4 f4 n6 f6 n8 f8 hp.2.1 hp.2.2 _)))
theorem Lf (n0 : Nat) (f0 : FnV) (n2 : Nat) (f2 : FnV) (n4 : Nat) (f4 : FnV) (n6 : Nat) (f6 : FnV) (n8 : Nat) (f8 : FnV) (hp : (cY n0 (elV tyR f0) /\ cY n6 (elV tyC f6)) /\ n8 % 2 = 0 /\ n8 <= 100) : evR (Ev (yK n0 f0 n2 f2 n4 f4 n6 f6 n8 f8)) (m44 n0 f0 n2 f2 n4 f4 n6 f6 n8 f8) (.int .i64 (F44 n0 (elV tyR f0) n2 (elV tyT f2) n4 (elV tyF f4) n6 (elV tyC f6) n8 (elV tp1 f8))) := Gs n0 f0 n2 f2 n4 f4 n6 f6 n8 f8 hp
def C44 : a7 := mkC [.agg [.sl tyR, .sl tyT, .sl tyF, .sl tyC], .sl tp1] (fun
 | [.agg [.sl n0 f0, .sl n2 f2, .sl n4 f4, .sl n6 f6], .sl n8 f8] => (cY n0 f0 /\ cY n6 f6) /\ n8 % 2 = 0 /\ n8 <= 100
 | _ => False) fun
 | [.agg [.sl n0 f0, .sl n2 f2, .sl n4 f4, .sl n6 f6], .sl n8 f8] => .int .i64 (F44 n0 f0 n2 f2 n4 f4 n6 f6 n8 f8)
 | _ => .any
theorem Ay : (vP C44).Ok Tryz.prog 44 := mkE Bu Tryz.func44 (by kernel_rfl) fun ds hp => rfs (JA ..) (Lf _ _ _ _ _ _ _ _ _ _ hp)
def oP (n0 : Nat) (f0 : FnV) (n2 : Nat) (f2 : FnV) (n4 : Nat) (f4 : FnV) (n6 : Nat) (f6 : FnV) : Int := bt n0 (elV tyR f0) n2 (elV tyT f2) n4 (elV tyF f4) n6 (elV tyC f6)
end
noncomputable section
def EU : bj := (44, .con C44) :: xN
theorem G5 : be Tryz.prog eqs its EU := .con Ay (Bu)
def rE (n0 : Nat) (f0 : FnV) (n2 : Nat) (f2 : FnV) (n4 : Nat) (f4 : FnV) (n6 : Nat) (f6 : FnV) (x8 x9 : Int) : Int := bif bif oP n0 (elV tyR f0) n2 (elV tyT f2) n4 (elV tyF f4) n6 (elV tyC f6) == 0 then bif decide (x8 < 0) then true else decide (x9 <= x8) else false then 4 else oP n0 (elV tyR f0) n2 (elV tyT f2) n4 (elV tyF f4) n6 (elV tyC f6)
end
end Go.Dx
namespace Go.Dx
open Go.IntKind (i64 u64 u8)
open Go.Sx
noncomputable section
theorem tp {i : Int} {m : Nat} {f8 : Nat -> List V} {k : Nat} (hm : m <= 9223372036854775807) (h1 : jv0 (f8 (2 * k)) = i) (h2 : jv0 (f8 (2 * k + 1)) = (m : Int)) (h : sh f8 k = false) : 0 <= i /\ i < m := by
 unfold sh aP at h
 rw [h1, h2, aA (by omega) (by omega)] at h
 cases hb : decide (i < 0) with
 | true => rw [hb] at h; cases h
 | false =>
   rw [hb, cond_false] at h
   have a := of_decide_eq_false hb
   have b := of_decide_eq_false h
   omega
theorem tb {n8 : Nat} {f8 : Nat -> List V} {e : Int} (h : zR n8 f8 e = 0) : e = 0 /\ ∀ k, k < n8 / 2 -> sh f8 k = false := by
 unfold zR at h
 cases he : e == 0 with
 | false =>
   rw [he, cond_false] at h
   subst h; cases he
 | true =>
   rw [he, cond_true] at h
   refine ⟨eq_of_beq he, fun k hk => ?_⟩
   cases ho : sh f8 k with
   | false => rfl
   | true => rw [bN k hk ho] at h; cases h
section
variable {n0 : Nat} {f0 : Nat -> List V} {n2 : Nat} {f2 : Nat -> List V} {n4 : Nat} {f4 : Nat -> List V} {n6 : Nat} {f6 : Nat -> List V} {i j : Int} {m l : Nat}
theorem eI (hm : m <= 9223372036854775807) (h : F44 n0 f0 n2 f2 n4 f4 n6 f6 2 (elV tp1 (bM [vi i, vi m] 0 1)) = 0) : 0 <= i /\ i < m :=
 tp (k := 0) hm rfl rfl ((tb h).2 0 (by omega))
theorem jO (hm : m <= 9223372036854775807) (hl : l <= 9223372036854775807) (h : F44 n0 f0 n2 f2 n4 f4 n6 f6 4 (elV tp1 (bM [vi i, vi m, vi j, vi l] 0 1)) = 0) : (0 <= i /\ i < m) /\ (0 <= j /\ j < l) :=
 ⟨tp (k := 0) hm rfl rfl ((tb h).2 0 (by omega)), tp (k := 1) hl rfl rfl ((tb h).2 1 (by omega))⟩
theorem k50 (h : rE n0 f0 n2 f2 n4 f4 n6 f6 i j = 0) : 0 <= i /\ i < j := by
 unfold rE at h
 generalize oP _ _ _ _ _ _ _ _ = e at h
 cases he : e == 0 with
 | false => rw [he] at h; simp only [cond_false] at h; subst h; cases he
 | true =>
   rw [he, cond_true] at h
   cases hb : decide (i < 0) with
   | true => rw [hb] at h; cases h
   | false =>
     rw [hb, cond_false] at h
     cases hc : decide (j <= i) with
     | true => rw [hc] at h; cases h
     | false => have := of_decide_eq_false hb; have := of_decide_eq_false hc; omega
end
end
end Go.Dx
namespace Go.Dx
open Go.IntKind (i64 u64 u8)
open Go.Sx Go.Proofs
noncomputable section
def Et : bj := EU
theorem G8 : be Tryz.prog eqs its Et := G5
attribute [local irreducible] F44 rE oP
end
end Go.Dx
namespace Go.Dx
open Go.IntKind (i64 u64 u8)
open Go.Sx Go.Proofs
noncomputable section
def uJ : bj := Et
theorem sM : be Tryz.prog eqs its uJ := G8
def IA (x0 x1 x2 x3 : Int) : RT Empty := .br (x0 != x2) (.ret (vi (i64.wrap (x0 - x2)))) (.ret (vi (i64.wrap (x1 - x3))))
theorem GZ (x0 x1 x2 x3 : Int) : Fit noD (bk JJ uJ u0 Mc [V.agg [vi x0, vi x1], V.agg [vi x2, vi x3]]) (IA x0 x1 x2 x3) := ⟨by kernel_rfl, by kernel_rfl⟩
def ln (x0 x1 x2 x3 : Int) : Int := bif x0 != x2 then i64.wrap (x0 - x2) else i64.wrap (x1 - x3)
def D6 (x0 x1 x2 x3 : Int) : V := .int i64 (ln x0 x1 x2 x3)
theorem Jh (x0 x1 x2 x3 : Int) : evR noE (IA x0 x1 x2 x3) (D6 x0 x1 x2 x3) := aL (fun h0 => ao (by unfold D6 ln; try rw [h0]; rfl)) (fun h0 => ao (by unfold D6 ln; try rw [h0]; rfl))
def Ah : a7 := mkC [.agg tp2, .agg tp2] (fun _ => True) fun
 | [.agg [.int _ x0, .int _ x1], .agg [.int _ x2, .int _ x3]] => D6 x0 x1 x2 x3
 | _ => .any
theorem tS : (vP Ah).Ok Tryz.prog 140 := mkE sM Tryz.func140 (by kernel_rfl) fun ds hp => rf0 (GZ ..) (Jh _ _ _ _)
def m49 (x0 x1 x2 x3 x4 x5 x6 x7 : Int) (b8 : Bool) (x9 x10 : Int) : RT Empty := .obi (.br (!b8) (.ob (!b8) (.ob (!b8) (.ob (!b8) (.obc (.obt (.obc (.obt (.obc (.obt (.ret (V.bool (eu (aW x0 x2 x9 x3) (aV x1 x2 x10 x3) (aW x0 x2 x9 x4) (aV x1 x2 x10 x4) x5 x6 x7)))))))))))) (.ret (V.kb false)))
theorem HC (x0 x1 x2 x3 x4 x5 x6 x7 : Int) (b8 : Bool) (x9 x10 : Int) : Fit noD (bk JJ uJ u0 s49 [V.agg [vi x0, vi x1, vi x2, vi x3, vi x4, vi x5, vi x6, vi x7, V.bool b8], V.agg [vi x9, vi x10]]) (m49 x0 x1 x2 x3 x4 x5 x6 x7 b8 x9 x10) := ⟨by kernel_rfl, by kernel_rfl⟩
def mi (x0 x1 x2 x3 x4 x5 x6 x7 : Int) (b8 : Bool) (x9 x10 : Int) : Bool := bif !b8 then eu (aW x0 x2 x9 x3) (aV x1 x2 x10 x3) (aW x0 x2 x9 x4) (aV x1 x2 x10 x4) x5 x6 x7 else false
def R49 (x0 x1 x2 x3 x4 x5 x6 x7 : Int) (b8 : Bool) (x9 x10 : Int) : V := .bool (mi x0 x1 x2 x3 x4 x5 x6 x7 b8 x9 x10)
theorem K1 (x0 x1 x2 x3 x4 x5 x6 x7 : Int) (b8 : Bool) (x9 x10 : Int) : evR noE (m49 x0 x1 x2 x3 x4 x5 x6 x7 b8 x9 x10) (R49 x0 x1 x2 x3 x4 x5 x6 x7 b8 x9 x10) := ak (aL (fun h0 => ac (by first | assumption | (fail)) (ac (by first | assumption | (fail)) (ac (by first | assumption | (fail)) (ar (af (ar (af (ar (af (ao (by unfold R49 mi; try rw [h0]; rfl))))))))))) (fun h0 => ao (by unfold R49 mi; try rw [h0]; rfl)))
def C49 : a7 := mkC [.agg [.int .i64, .int .i64, .int .i64, .int .i64, .int .i64, .int .i64, .int .i64, .int .i64, .bool], .agg tp2] (fun _ => True) fun
 | [.agg [.int _ x0, .int _ x1, .int _ x2, .int _ x3, .int _ x4, .int _ x5, .int _ x6, .int _ x7, .bool b8], .agg [.int _ x9, .int _ x10]] => R49 x0 x1 x2 x3 x4 x5 x6 x7 b8 x9 x10
 | _ => .any
theorem Bh : (vP C49).Ok Tryz.prog 49 := mkE sM Tryz.func49 (by kernel_rfl) fun ds hp => rf0 (HC ..) (K1 _ _ _ _ _ _ _ _ _ _ _)
def Il (x0 x1 x2 x3 x4 x5 x6 : Int) : RT Empty := .obc (.obt (.ret (V.bool (eu x0 x1 x2 x3 (i64.wrap (2 * x5)) (i64.wrap (2 * x6)) x4))))
theorem Fq0 (x0 x1 x2 x3 x4 x5 x6 : Int) : Fit noD (bk JJ uJ u0 LB [V.agg [vi x0, vi x1, vi x2, vi x3, vi x4], vi x5, vi x6]) (Il x0 x1 x2 x3 x4 x5 x6) := ⟨by kernel_rfl, by kernel_rfl⟩
def bC (x0 x1 x2 x3 x4 x5 x6 : Int) : Bool := eu x0 x1 x2 x3 (i64.wrap (2 * x5)) (i64.wrap (2 * x6)) x4
def Fo (x0 x1 x2 x3 x4 x5 x6 : Int) : V := .bool (bC x0 x1 x2 x3 x4 x5 x6)
theorem Iu (x0 x1 x2 x3 x4 x5 x6 : Int) : evR noE (Il x0 x1 x2 x3 x4 x5 x6) (Fo x0 x1 x2 x3 x4 x5 x6) := ar (af (ao (by unfold Fo bC; rfl)))
def z8 : a7 := mkC [.agg tyT, .int .i64, .int .i64] (fun _ => True) fun
 | [.agg [.int _ x0, .int _ x1, .int _ x2, .int _ x3, .int _ x4], .int _ x5, .int _ x6] => Fo x0 x1 x2 x3 x4 x5 x6
 | _ => .any
theorem va : (vP z8).Ok Tryz.prog 123 := mkE sM Tryz.func123 (by kernel_rfl) fun ds hp => rf0 (Fq0 ..) (Iu _ _ _ _ _ _ _)
end
noncomputable section
def wg : bj := (140, .con Ah) :: (49, .con C49) :: (123, .con z8) :: uJ
theorem xC : be Tryz.prog eqs its wg := .con tS (.con Bh (.con va (sM)))
def u5 : Unr := fun _ => 5
def Hy (x0 x1 x2 x3 x4 x5 x6 x7 x8 : Int) : RT Empty := .obi (.obi (.obi (.obi (.obi (.obi (.obi (.obi (.obi (.obi (.obi (.obi (.obi (.obi (.obi (.obi (.obi (.obi (.obi (.obi (.obi (.obi (.obi (.obi (.obi (.obi (.obi (.obi (.obi (.obi (.obi (.obi (.obi (.obi (.obi (.obi (.obi (.obi (.obi (.br (bif bif bif decide (max x0 x2 < i64.wrap (2 * x5)) then true else decide (i64.wrap (2 * x7) < min x0 x2) then true else decide (max x1 x3 < i64.wrap (2 * x6)) then true else decide (i64.wrap (2 * x8) < min x1 x3)) (.ret (V.kb false)) (.obc (.obt (.brt (.obt (.obc (.obt (.obc (.obt (.brt (.obt (.obc (.obt (.obc (.obt (.obi (.obi (.obi (.obi (.brt (.obt (.obc (.obt (.obc (.obt (.obi (.obi (.obi (.obi (.brt (.obt (.obc (.obt (.obc (.obt (.obi (.obi (.obi (.obi (.brf (.obi (.ret (V.bool (bif bif bif bif decide (0 <= bR x0 x1 x2 x3 (cq x5 2) (cr x6 2)) then true else decide (0 <= bR x0 x1 x2 x3 (cq x7 2) (cr x6 2)) then true else decide (0 <= bR x0 x1 x2 x3 (cq x7 2) (cr x8 2)) then true else decide (0 <= bR x0 x1 x2 x3 (cq x5 2) (cr x8 2)) then bif bif bif decide (bR x0 x1 x2 x3 (cq x5 2) (cr x6 2) <= 0) then true else decide (bR x0 x1 x2 x3 (cq x7 2) (cr x6 2) <= 0) then true else decide (bR x0 x1 x2 x3 (cq x7 2) (cr x8 2) <= 0) then true else decide (bR x0 x1 x2 x3 (cq x5 2) (cr x8 2) <= 0) else false))))))))))))))))))))))))))))))))))))))))))))))))))))))))))))))))))))))))))))))))))
theorem Fm (x0 x1 x2 x3 x4 x5 x6 x7 x8 : Int) : Fit noD (bk JJ wg u5 Lh [V.agg [vi x0, vi x1, vi x2, vi x3, vi x4], V.agg [vi x5, vi x6, vi x7, vi x8]]) (Hy x0 x1 x2 x3 x4 x5 x6 x7 x8) := ⟨by kernel_rfl, by kernel_rfl⟩
def jo (x0 x1 x2 x3 x5 x6 x7 x8 : Int) : Bool := bif bif bif bif decide (max x0 x2 < i64.wrap (2 * x5)) then true else decide (i64.wrap (2 * x7) < min x0 x2) then true else decide (max x1 x3 < i64.wrap (2 * x6)) then true else decide (i64.wrap (2 * x8) < min x1 x3) then false else bif bif bif bif decide (0 <= bR x0 x1 x2 x3 (cq x5 2) (cr x6 2)) then true else decide (0 <= bR x0 x1 x2 x3 (cq x7 2) (cr x6 2)) then true else decide (0 <= bR x0 x1 x2 x3 (cq x7 2) (cr x8 2)) then true else decide (0 <= bR x0 x1 x2 x3 (cq x5 2) (cr x8 2)) then bif bif bif decide (bR x0 x1 x2 x3 (cq x5 2) (cr x6 2) <= 0) then true else decide (bR x0 x1 x2 x3 (cq x7 2) (cr x6 2) <= 0) then true else decide (bR x0 x1 x2 x3 (cq x7 2) (cr x8 2) <= 0) then true else decide (bR x0 x1 x2 x3 (cq x5 2) (cr x8 2) <= 0) else false
def DX (x0 x1 x2 x3 x4 x5 x6 x7 x8 : Int) : V := .bool (jo x0 x1 x2 x3 x5 x6 x7 x8)
theorem HP (x0 x1 x2 x3 x4 x5 x6 x7 x8 : Int) : evR noE (Hy x0 x1 x2 x3 x4 x5 x6 x7 x8) (DX x0 x1 x2 x3 x4 x5 x6 x7 x8) := ak (ak (ak (ak (ak (ak (ak (ak (ak (ak (ak (ak (ak (ak (ak (ak (ak (ak (ak (ak (ak (ak (ak (ak (ak (ak (ak (ak (ak (ak (ak (ak (ak (ak (ak (ak (ak (ak (ak (aL (fun h0 => ao (by unfold DX jo; try rw [h0]; rfl)) (fun h0 => ar (af (bz (af (ar (af (ar (af (bz (af (ar (af (ar (af (ak (ak (ak (ak (bz (af (ar (af (ar (af (ak (ak (ak (ak (bz (af (ar (af (ar (af (ak (ak (ak (ak (bD (ak (ao (by unfold DX jo; try rw [h0]; rfl)))))))))))))))))))))))))))))))))))))))))))))))))))))))))))))))))))))))))))))))))
def Ac : a7 := mkC [.agg tyT, .agg tp4] (fun _ => True) fun
 | [.agg [.int _ x0, .int _ x1, .int _ x2, .int _ x3, .int _ x4], .agg [.int _ x5, .int _ x6, .int _ x7, .int _ x8]] => DX x0 x1 x2 x3 x4 x5 x6 x7 x8
 | _ => .any
theorem um : (vP Ac).Ok Tryz.prog 145 := mkE xC Tryz.func145 (by kernel_rfl) fun ds hp => rf0 (Fm ..) (HP _ _ _ _ _ _ _ _ _)
end
noncomputable section
def qg : bj := (145, .con Ac) :: wg
theorem oL : be Tryz.prog eqs its qg := .con um (xC)
def Kd (x0 x1 x2 x3 x4 x5 x6 x7 x8 : Int) : RT Empty := .obc (.obt (.brt (.obt (.obc (.obt (.br (bC x0 x1 x2 x3 x4 x5 x6) (.brt (.obt (.obc (.obt (.br (bC x0 x1 x2 x3 x4 x7 x6) (.brt (.obt (.obc (.obt (.br (bC x0 x1 x2 x3 x4 x7 x8) (.brt (.obt (.obc (.obt (.br (bC x0 x1 x2 x3 x4 x5 x8) (.brf (.brt (.ret (vi 2)))) (.brf (.brf (.brt (.ret (vi 1)))))))))) (.brt (.obt (.obc (.obt (.br (bC x0 x1 x2 x3 x4 x5 x8) (.brf (.brf (.brt (.ret (vi 1))))) (.brf (.brf (.brt (.ret (vi 1))))))))))))))) (.brt (.obt (.obc (.obt (.br (bC x0 x1 x2 x3 x4 x7 x8) (.brt (.obt (.obc (.obt (.br (bC x0 x1 x2 x3 x4 x5 x8) (.brf (.brf (.brt (.ret (vi 1))))) (.brf (.brf (.brt (.ret (vi 1)))))))))) (.brt (.obt (.obc (.obt (.br (bC x0 x1 x2 x3 x4 x5 x8) (.brf (.brf (.brt (.ret (vi 1))))) (.brf (.brf (.brt (.ret (vi 1)))))))))))))))))))) (.brt (.obt (.obc (.obt (.br (bC x0 x1 x2 x3 x4 x7 x6) (.brt (.obt (.obc (.obt (.br (bC x0 x1 x2 x3 x4 x7 x8) (.brt (.obt (.obc (.obt (.br (bC x0 x1 x2 x3 x4 x5 x8) (.brf (.brf (.brt (.ret (vi 1))))) (.brf (.brf (.brt (.ret (vi 1)))))))))) (.brt (.obt (.obc (.obt (.br (bC x0 x1 x2 x3 x4 x5 x8) (.brf (.brf (.brt (.ret (vi 1))))) (.brf (.brf (.brt (.ret (vi 1))))))))))))))) (.brt (.obt (.obc (.obt (.br (bC x0 x1 x2 x3 x4 x7 x8) (.brt (.obt (.obc (.obt (.br (bC x0 x1 x2 x3 x4 x5 x8) (.brf (.brf (.brt (.ret (vi 1))))) (.brf (.brf (.brt (.ret (vi 1)))))))))) (.brt (.obt (.obc (.obt (.br (bC x0 x1 x2 x3 x4 x5 x8) (.brf (.brf (.brt (.ret (vi 1))))) (.brf (.brf (.brf (.brt (.obt (.obc (.obt (.br (decide (dm (max (max (i64.wrap (i64.wrap (2 * x5) - x0)) 0) (i64.wrap (x0 - i64.wrap (2 * x7)))) (max (max (i64.wrap (i64.wrap (2 * x6) - x1)) 0) (i64.wrap (x1 - i64.wrap (2 * x8)))) (max (max (i64.wrap (i64.wrap (2 * x5) - x0)) 0) (i64.wrap (x0 - i64.wrap (2 * x7)))) (max (max (i64.wrap (i64.wrap (2 * x6) - x1)) 0) (i64.wrap (x1 - i64.wrap (2 * x8)))) <= i64.wrap (x4 * x4))) (.ret (vi 1)) (.brt (.obt (.obc (.obt (.br (decide (dm (max (max (i64.wrap (i64.wrap (2 * x5) - x2)) 0) (i64.wrap (x2 - i64.wrap (2 * x7)))) (max (max (i64.wrap (i64.wrap (2 * x6) - x3)) 0) (i64.wrap (x3 - i64.wrap (2 * x8)))) (max (max (i64.wrap (i64.wrap (2 * x5) - x2)) 0) (i64.wrap (x2 - i64.wrap (2 * x7)))) (max (max (i64.wrap (i64.wrap (2 * x6) - x3)) 0) (i64.wrap (x3 - i64.wrap (2 * x8)))) <= i64.wrap (x4 * x4))) (.ret (vi 1)) (.brf (.obc (.obt (.br (jo x0 x1 x2 x3 x5 x6 x7 x8) (.ret (vi 1)) (.ret (vi 0))))))))))))))))))))))))))))))))))))))))
theorem Hd (x0 x1 x2 x3 x4 x5 x6 x7 x8 : Int) : Fit noD (bk JJ qg u5 K8 [V.agg [vi x0, vi x1, vi x2, vi x3, vi x4], V.agg [vi x5, vi x6, vi x7, vi x8]]) (Kd x0 x1 x2 x3 x4 x5 x6 x7 x8) := ⟨by kernel_rfl, by kernel_rfl⟩
def bE (x0 x1 x2 x3 x4 x5 x6 x7 x8 : Int) : Int := bif bC x0 x1 x2 x3 x4 x5 x6 then bif bC x0 x1 x2 x3 x4 x7 x6 then bif bC x0 x1 x2 x3 x4 x7 x8 then bif bC x0 x1 x2 x3 x4 x5 x8 then 2 else 1 else 1 else 1 else bif bC x0 x1 x2 x3 x4 x7 x6 then 1 else bif bC x0 x1 x2 x3 x4 x7 x8 then 1 else bif bC x0 x1 x2 x3 x4 x5 x8 then 1 else bif decide (dm (max (max (i64.wrap (i64.wrap (2 * x5) - x0)) 0) (i64.wrap (x0 - i64.wrap (2 * x7)))) (max (max (i64.wrap (i64.wrap (2 * x6) - x1)) 0) (i64.wrap (x1 - i64.wrap (2 * x8)))) (max (max (i64.wrap (i64.wrap (2 * x5) - x0)) 0) (i64.wrap (x0 - i64.wrap (2 * x7)))) (max (max (i64.wrap (i64.wrap (2 * x6) - x1)) 0) (i64.wrap (x1 - i64.wrap (2 * x8)))) <= i64.wrap (x4 * x4)) then 1 else bif decide (dm (max (max (i64.wrap (i64.wrap (2 * x5) - x2)) 0) (i64.wrap (x2 - i64.wrap (2 * x7)))) (max (max (i64.wrap (i64.wrap (2 * x6) - x3)) 0) (i64.wrap (x3 - i64.wrap (2 * x8)))) (max (max (i64.wrap (i64.wrap (2 * x5) - x2)) 0) (i64.wrap (x2 - i64.wrap (2 * x7)))) (max (max (i64.wrap (i64.wrap (2 * x6) - x3)) 0) (i64.wrap (x3 - i64.wrap (2 * x8)))) <= i64.wrap (x4 * x4)) then 1 else bif jo x0 x1 x2 x3 x5 x6 x7 x8 then 1 else 0
def iw (x0 x1 x2 x3 x4 x5 x6 x7 x8 : Int) : V := .int i64 (bE x0 x1 x2 x3 x4 x5 x6 x7 x8)
theorem Is (x0 x1 x2 x3 x4 x5 x6 x7 x8 : Int) : evR noE (Kd x0 x1 x2 x3 x4 x5 x6 x7 x8) (iw x0 x1 x2 x3 x4 x5 x6 x7 x8) := ar (af (bz (af (ar (af (aL (fun h0 => bz (af (ar (af (aL (fun h1 => bz (af (ar (af (aL (fun h2 => bz (af (ar (af (aL (fun h3 => bD (bz (ao (by unfold iw bE; try rw [h0]; try rw [h1]; try rw [h2]; try rw [h3]; rfl)))) (fun h3 => bD (bD (bz (ao (by unfold iw bE; try rw [h0]; try rw [h1]; try rw [h2]; try rw [h3]; rfl)))))))))) (fun h2 => bz (af (ar (af (aL (fun h3 => bD (bD (bz (ao (by unfold iw bE; try rw [h0]; try rw [h1]; try rw [h2]; try rw [h3]; rfl))))) (fun h3 => bD (bD (bz (ao (by unfold iw bE; try rw [h0]; try rw [h1]; try rw [h2]; try rw [h3]; rfl))))))))))))))) (fun h1 => bz (af (ar (af (aL (fun h2 => bz (af (ar (af (aL (fun h3 => bD (bD (bz (ao (by unfold iw bE; try rw [h0]; try rw [h1]; try rw [h2]; try rw [h3]; rfl))))) (fun h3 => bD (bD (bz (ao (by unfold iw bE; try rw [h0]; try rw [h1]; try rw [h2]; try rw [h3]; rfl)))))))))) (fun h2 => bz (af (ar (af (aL (fun h3 => bD (bD (bz (ao (by unfold iw bE; try rw [h0]; try rw [h1]; try rw [h2]; try rw [h3]; rfl))))) (fun h3 => bD (bD (bz (ao (by unfold iw bE; try rw [h0]; try rw [h1]; try rw [h2]; try rw [h3]; rfl)))))))))))))))))))) (fun h0 => bz (af (ar (af (aL (fun h1 => bz (af (ar (af (aL (fun h2 => bz (af (ar (af (aL (fun h3 => bD (bD (bz (ao (by unfold iw bE; try rw [h0]; try rw [h1]; try rw [h2]; try rw [h3]; rfl))))) (fun h3 => bD (bD (bz (ao (by unfold iw bE; try rw [h0]; try rw [h1]; try rw [h2]; try rw [h3]; rfl)))))))))) (fun h2 => bz (af (ar (af (aL (fun h3 => bD (bD (bz (ao (by unfold iw bE; try rw [h0]; try rw [h1]; try rw [h2]; try rw [h3]; rfl))))) (fun h3 => bD (bD (bz (ao (by unfold iw bE; try rw [h0]; try rw [h1]; try rw [h2]; try rw [h3]; rfl))))))))))))))) (fun h1 => bz (af (ar (af (aL (fun h2 => bz (af (ar (af (aL (fun h3 => bD (bD (bz (ao (by unfold iw bE; try rw [h0]; try rw [h1]; try rw [h2]; try rw [h3]; rfl))))) (fun h3 => bD (bD (bz (ao (by unfold iw bE; try rw [h0]; try rw [h1]; try rw [h2]; try rw [h3]; rfl)))))))))) (fun h2 => bz (af (ar (af (aL (fun h3 => bD (bD (bz (ao (by unfold iw bE; try rw [h0]; try rw [h1]; try rw [h2]; try rw [h3]; rfl))))) (fun h3 => bD (bD (bD (bz (af (ar (af (aL (fun h4 => ao (by unfold iw bE; try rw [h0]; try rw [h1]; try rw [h2]; try rw [h3]; try rw [h4]; rfl)) (fun h4 => bz (af (ar (af (aL (fun h5 => ao (by unfold iw bE; try rw [h0]; try rw [h1]; try rw [h2]; try rw [h3]; try rw [h4]; try rw [h5]; rfl)) (fun h5 => bD (ar (af (aL (fun h6 => ao (by unfold iw bE; try rw [h0]; try rw [h1]; try rw [h2]; try rw [h3]; try rw [h4]; try rw [h5]; try rw [h6]; rfl)) (fun h6 => ao (by unfold iw bE; try rw [h0]; try rw [h1]; try rw [h2]; try rw [h3]; try rw [h4]; try rw [h5]; try rw [h6]; rfl))))))))))))))))))))))))))))))))))))))))
def zd : a7 := mkC [.agg tyT, .agg tp4] (fun _ => True) fun
 | [.agg [.int _ x0, .int _ x1, .int _ x2, .int _ x3, .int _ x4], .agg [.int _ x5, .int _ x6, .int _ x7, .int _ x8]] => iw x0 x1 x2 x3 x4 x5 x6 x7 x8
 | _ => .any
theorem ue : (vP zd).Ok Tryz.prog 111 := mkE oL Tryz.func111 (by kernel_rfl) fun ds hp => rf0 (Hd ..) (Is _ _ _ _ _ _ _ _ _)
def m56 (x0 x1 x2 x3 x4 x5 x6 x7 x8 x9 : Int) (b10 : Bool) : RT Empty := .obc (.obt (.ret (V.bool !mi x2 x3 x4 x5 x6 x7 x8 x9 b10 x0 x1)))
theorem IV (x0 x1 x2 x3 x4 x5 x6 x7 x8 x9 : Int) (b10 : Bool) : Fit noD (bk JJ qg u0 s56 [V.agg [vi x0, vi x1], V.pd [vi x2, vi x3, vi x4, vi x5, vi x6, vi x7, vi x8, vi x9, V.bool b10]]) (m56 x0 x1 x2 x3 x4 x5 x6 x7 x8 x9 b10) := ⟨by kernel_rfl, by kernel_rfl⟩
def w8 (x0 x1 x2 x3 x4 x5 x6 x7 x8 x9 : Int) (b10 : Bool) : Bool := !mi x2 x3 x4 x5 x6 x7 x8 x9 b10 x0 x1
def R56 (x0 x1 x2 x3 x4 x5 x6 x7 x8 x9 : Int) (b10 : Bool) : V := .bool (w8 x0 x1 x2 x3 x4 x5 x6 x7 x8 x9 b10)
theorem Kq (x0 x1 x2 x3 x4 x5 x6 x7 x8 x9 : Int) (b10 : Bool) : evR noE (m56 x0 x1 x2 x3 x4 x5 x6 x7 x8 x9 b10) (R56 x0 x1 x2 x3 x4 x5 x6 x7 x8 x9 b10) := ar (af (ao (by unfold R56 w8; rfl)))
def C56 : a7 := mkC [.agg tp2, .pd [.int .i64, .int .i64, .int .i64, .int .i64, .int .i64, .int .i64, .int .i64, .int .i64, .bool]] (fun _ => True) fun
 | [.agg [.int _ x0, .int _ x1], .pd [.int _ x2, .int _ x3, .int _ x4, .int _ x5, .int _ x6, .int _ x7, .int _ x8, .int _ x9, .bool b10]] => R56 x0 x1 x2 x3 x4 x5 x6 x7 x8 x9 b10
 | _ => .any
theorem BN : (vP C56).Ok Tryz.prog 56 := mkE oL Tryz.func56 (by kernel_rfl) fun ds hp => rf0 (IV ..) (Kq _ _ _ _ _ _ _ _ _ _ _)
def m47 (x0 x1 x2 x3 x4 : Int) (n5 : Nat) (f5 : FnV) (n7 : Nat) (f7 : FnV) (n9 : Nat) (f9 : FnV) (n11 : Nat) (f11 : FnV) (x13 x14 x15 : Int) : RT Empty := .ob (decide (0 <= x13 /\ x13 < (↑n11 : Int))) (.obc (.obt (.obc (.obt (.ret (V.bool (mi (jv1 (f11 x13.toNat)) (jv2 (f11 x13.toNat)) (jv3 (f11 x13.toNat)) (gx (jv3 (f11 x13.toNat)) x4) (gM (jv3 (f11 x13.toNat)) x3) (gL (jv3 (f11 x13.toNat)) x0) (gH (jv3 (f11 x13.toNat)) x1) (gC (jv3 (f11 x13.toNat)) x2) (eq (jv3 (f11 x13.toNat)) x3) x14 x15)))))))
theorem HF (x0 x1 x2 x3 x4 : Int) (n5 : Nat) (f5 : FnV) (n7 : Nat) (f7 : FnV) (n9 : Nat) (f9 : FnV) (n11 : Nat) (f11 : FnV) (x13 x14 x15 : Int) : Fit noD (bk JJ qg u0 s47 [V.agg [vi x0, vi x1, vi x2, vi x3, vi x4], V.pd [V.sl n5 (elV tyR f5), V.sl n7 (elV tyT f7), V.sl n9 (elV tyF f9), V.sl n11 (elV tyC f11)], V.pd [vi x13], V.pd [vi x14], V.pd [vi x15]]) (m47 x0 x1 x2 x3 x4 n5 f5 n7 f7 n9 f9 n11 f11 x13 x14 x15) := ⟨by kernel_rfl, by kernel_rfl⟩
def xA (x0 x1 x2 x3 x4 : Int) (f11 : FnV) (x13 x14 x15 : Int) : Bool := mi (jv1 (f11 x13.toNat)) (jv2 (f11 x13.toNat)) (jv3 (f11 x13.toNat)) (gx (jv3 (f11 x13.toNat)) x4) (gM (jv3 (f11 x13.toNat)) x3) (gL (jv3 (f11 x13.toNat)) x0) (gH (jv3 (f11 x13.toNat)) x1) (gC (jv3 (f11 x13.toNat)) x2) (eq (jv3 (f11 x13.toNat)) x3) x14 x15
def R47 (x0 x1 x2 x3 x4 : Int) (n5 : Nat) (f5 : FnV) (n7 : Nat) (f7 : FnV) (n9 : Nat) (f9 : FnV) (n11 : Nat) (f11 : FnV) (x13 x14 x15 : Int) : V := .bool (xA x0 x1 x2 x3 x4 f11 x13 x14 x15)
theorem Ko (x0 x1 x2 x3 x4 : Int) (n5 : Nat) (f5 : FnV) (n7 : Nat) (f7 : FnV) (n9 : Nat) (f9 : FnV) (n11 : Nat) (f11 : FnV) (x13 x14 x15 : Int) (hp : 0 <= x13 /\ x13 < (n11 : Int)) : evR noE (m47 x0 x1 x2 x3 x4 n5 f5 n7 f7 n9 f9 n11 f11 x13 x14 x15) (R47 x0 x1 x2 x3 x4 n5 f5 n7 f7 n9 f9 n11 f11 x13 x14 x15) := ac (by first | assumption | (exact dqt hp)) (ar (af (ar (af (ao (by unfold R47 xA; rfl))))))
def C47 : a7 := mkC [.agg tyT, .pd [.sl tyR, .sl tyT, .sl tyF, .sl tyC], .pd tp1, .pd tp1, .pd tp1] (fun
 | [.agg [.int _ x0, .int _ x1, .int _ x2, .int _ x3, .int _ x4], .pd [.sl n5 f5, .sl n7 f7, .sl n9 f9, .sl n11 f11], .pd [.int _ x13], .pd [.int _ x14], .pd [.int _ x15]] => 0 <= x13 /\ x13 < (n11 : Int)
 | _ => False) fun
 | [.agg [.int _ x0, .int _ x1, .int _ x2, .int _ x3, .int _ x4], .pd [.sl n5 f5, .sl n7 f7, .sl n9 f9, .sl n11 f11], .pd [.int _ x13], .pd [.int _ x14], .pd [.int _ x15]] => R47 x0 x1 x2 x3 x4 n5 f5 n7 f7 n9 f9 n11 f11 x13 x14 x15
 | _ => .any
theorem CG : (vP C47).Ok Tryz.prog 47 := mkE oL Tryz.func47 (by kernel_rfl) fun ds hp => rf0 (HF ..) (Ko _ _ _ _ _ _ _ _ _ _ _ _ _ _ _ _ hp)
end
end Go.Dx
namespace Go.Dx
open Go.IntKind (i64 u64 u8)
open Go.Sx
section
variable {S : Type} {step : S -> RT S}
theorem D0 {L : Int -> S} {n : Nat} {p : Nat -> Bool} {Q : Nat -> Prop} {ρ : Rho} (W : Nat -> RT S -> RT S) (hW : ∀ i x r, Q i -> evR (Ev step) x r -> evR (Ev step) (W i x) r) (hWn : ∀ i x, cz (W i x) = cz x) (hn : n <= 9223372036854775807) (hQ : ∀ i, i < n -> Q i)
 (hst : ∀ i : Nat, step (L i) = .br (decide ((i : Int) < (n : Int))) (.ob (decide (0 <= (i : Int) /\ (i : Int) < (n : Int))) (W i (.br (p i) (.ret (.int .i64 i)) (.next ρ (L (i64.wrap ((i : Int) + 1))) [])))) (.ret (.int .i64 (-1)))) :
 Ev step (L 0) (.int .i64 (idx n p)) :=
 Ig hn p (P := fun i => Ev step (L i) (.int .i64 (idx n p))) (fun i hlt hj next => Ev.of (by rw [hst]; simp only [cz, hWn, Bool.and_self]) (by
  rw [hst]
  refine Ce hlt (Cd hlt (hW i _ _ (hQ i hlt) (aL (fun hb => ao ?_) (fun hb => aR (next hb)))))
  rw [l9 hb hlt hj])) (fun hj => Ev.of (by rw [hst]; simp only [cz, hWn, Bool.and_self]) (by
  rw [hst]
  refine mP (ao ?_)
  rw [lT hj]))
end
end Go.Dx
namespace Go.Dx
open Go.IntKind (i64 u64 u8)
open Go.Sx
def ik (p : Nat -> Int) : Nat -> Int
 | 0 => 0
 | k + 1 => max (ik p k) (p k)
section
variable {S : Type} {step : S -> RT S}
theorem zE {L : Int -> Nat -> Int -> S} {n : Nat} {p : Nat -> Int} {ρ : Rho} {l : Nat} (hn : n <= 9223372036854775807)
 (hst : ∀ (i : Nat) (a : Int), i64.wrap ((i : Int) + 1) = ((i + 1 : Nat) : Int) -> step (L i l a) = .br (decide ((i : Int) < i64.wrap ((n : Int) - 1))) (.ob (decide (0 <= (i : Int) /\ (i : Int) < (n : Int))) (.ob (decide (0 <= i64.wrap ((i : Int) + 1) /\ i64.wrap ((i : Int) + 1) < (n : Int))) (.obt (.obt (.obt (.obt (.obc (.obt (.next ρ (L (i64.wrap ((i : Int) + 1)) l (max a (p i))) [])))))))) ) (.ret (.int .i64 a))) :
 Ev step (L 0 l 0) (.int .i64 (ik p (n - 1))) := by
 have w0 : i64.wrap ((n : Int) - 1) = (n : Int) - 1 := aA (by omega) (by omega)
 have key := dM (n := n - 1) (P := fun i => Ev step (L i l (ik p i)) (.int .i64 (ik p (n - 1)))) fun i hi ih => by
  have w1 : i64.wrap ((i : Int) + 1) = ((i + 1 : Nat) : Int) := by rw [aA (by omega) (by omega)]; omega
  refine Ev.of (by rw [hst i _ w1]; rfl) ?_
  rw [hst i _ w1]
  by_cases hlt : i < n - 1
  ·refine cX (decide_eq_true (by rw [w0]; omega)) (ac (decide_eq_true (by omega)) (ac (decide_eq_true (by rw [w1]; omega)) (af (af (af (af (ar (af (aR ?_)))))))))
   rw [w1]; exact ih hlt
  ·refine cH (decide_eq_false (by rw [w0]; omega)) (ao ?_)
   have : i = n - 1 := by omega
   subst this; rfl
 exact key 0 (Nat.zero_le _)
theorem zL {L : Int -> Nat -> S} {n : Nat} {p : Nat -> Bool} {ρ : Rho} {l : Nat} (hn : n <= 9223372036854775807)
 (hst : ∀ i : Nat, i64.wrap ((i : Int) + 1) = ((i + 1 : Nat) : Int) -> step (L i l) = .br (decide ((i : Int) < i64.wrap ((n : Int) - 1))) (.ob (decide (0 <= (i : Int) /\ (i : Int) < (n : Int))) (.ob (decide (0 <= i64.wrap ((i : Int) + 1) /\ i64.wrap ((i : Int) + 1) < (n : Int))) (.obt (.obt (.obt (.obt (.obc (.obt (.br (p i) (.ret (.kb true)) (.next ρ (L (i64.wrap ((i : Int) + 1)) l) []))))))))) ) (.ret (.kb false))) :
 Ev step (L 0 l) (.bool (exB (n - 1) p)) := by
 have w0 : i64.wrap ((n : Int) - 1) = (n : Int) - 1 := aA (by omega) (by omega)
 have key := dM (n := n - 1) (P := fun i => (∀ j, j < i -> p j = false) -> Ev step (L i l) (.bool (exB (n - 1) p))) fun i hi ih hj => by
  have w1 : i64.wrap ((i : Int) + 1) = ((i + 1 : Nat) : Int) := by rw [aA (by omega) (by omega)]; omega
  refine Ev.of (by rw [hst i w1]; rfl) ?_
  rw [hst i w1]
  by_cases hlt : i < n - 1
  ·refine cX (decide_eq_true (by rw [w0]; omega)) (ac (decide_eq_true (by omega)) (ac (decide_eq_true (by rw [w1]; omega)) (af (af (af (af (ar (af (aL (fun hb => ao ?_) (fun hb => aR ?_))))))))))
   ·rw [bN i hlt hb]; rfl
   ·rw [w1]; exact ih hlt fun j h1 => by
     by_cases e : j = i
     ·subst e; exact hb
     ·exact hj j (by omega)
  ·refine cH (decide_eq_false (by rw [w0]; omega)) (ao ?_)
   have : i = n - 1 := by omega
   subst this
   rw [eg hj]; rfl
 exact key 0 (Nat.zero_le _) fun j hj => by omega
end
end Go.Dx
namespace Go.Dx
open Go.IntKind (i64 u64 u8)
open Go.Sx
end Go.Dx
namespace Go.Dx
open Go.IntKind (i64 u64 u8)
theorem qv {p : Nat -> Int} {i : Nat} : ∀ {n : Nat}, i < n -> p i <= ik p n
 | n + 1, h => by
   simp only [ik]
   by_cases e : i = n
   ·subst e; omega
   ·have := qv (p := p) (i := i) (n := n) (by omega); omega
theorem mv {p : Nat -> Int} {B : Int} (hB : 0 <= B) : ∀ {n : Nat}, (∀ i, i < n -> p i <= B) -> ik p n <= B
 | 0, _ => hB
 | n + 1, h => by
   simp only [ik]
   have := mv (p := p) hB (n := n) fun i hi => h i (by omega)
   have := h n (by omega); omega
end Go.Dx
namespace Go.Dx
open Go.IntKind (i64 u64 u8)
open Go.Sx Go.Proofs
noncomputable section
def pR : bj := (111, .con zd) :: (56, .con C56) :: (47, .con C47) :: qg
theorem yy : be Tryz.prog eqs its pR := .con ue (.con BN (.con CG (oL)))
inductive uG where
 | L0 (ia0 : Int)
def Gq (n0 : Nat) (f0 : FnV) (x2 x3 x4 x5 x6 x7 x8 x9 : Int) (b10 : Bool) : uG -> Env × List O × Option Ex
 | .L0 ia0 => ([(8, vi ia0), (7, vi (↑n0 : Int)), (6, V.sl n0 (elV tp2 f0)), (4, vi 0), (0, V.sl n0 (elV tp2 f0)), (1, V.fn 56 [] [V.pd [vi x2, vi x3, vi x4, vi x5, vi x6, vi x7, vi x8, vi x9, V.bool b10]])], [], none)
def HE : uG -> JJ
 | .L0 ia0 => (0, [])
def EQ (n0 : Nat) (f0 : FnV) (x2 x3 x4 x5 x6 x7 x8 x9 : Int) (b10 : Bool) : T (ca JJ) := bk JJ pR u0 Lc [V.sl n0 (elV tp2 f0), V.fn 56 [] [V.pd [vi x2, vi x3, vi x4, vi x5, vi x6, vi x7, vi x8, vi x9, V.bool b10]]]
def xl (n0 : Nat) (f0 : FnV) (x2 x3 x4 x5 x6 x7 x8 x9 : Int) (b10 : Bool) (cx : List Cx) : Lp JJ := lpT (atT (EQ n0 f0 x2 x3 x4 x5 x6 x7 x8 x9 b10) [])
def JX (n0 : Nat) (f0 : FnV) (x2 x3 x4 x5 x6 x7 x8 x9 : Int) (b10 : Bool) : JJ -> Lp JJ
 | (0, cx) => xl n0 f0 x2 x3 x4 x5 x6 x7 x8 x9 b10 cx
 | (_, cx) => xl n0 f0 x2 x3 x4 x5 x6 x7 x8 x9 b10 cx
def Kn (n0 : Nat) (f0 : FnV) (x2 x3 x4 x5 x6 x7 x8 x9 : Int) (b10 : Bool) : LD JJ uG := ⟨HE, JX n0 f0 x2 x3 x4 x5 x6 x7 x8 x9 b10, Gq n0 f0 x2 x3 x4 x5 x6 x7 x8 x9 b10⟩
def AA (n0 : Nat) (f0 : FnV) (x2 x3 x4 x5 x6 x7 x8 x9 : Int) (b10 : Bool) : uG -> RT uG
 | .L0 ia0 => .br (decide (ia0 < (↑n0 : Int))) (.ob (decide (0 <= ia0 /\ ia0 < (↑n0 : Int))) (.obc (.obt (.br (w8 (jv0 (f0 ia0.toNat)) (jv1 (f0 ia0.toNat)) x2 x3 x4 x5 x6 x7 x8 x9 b10) (.ret (vi ia0)) (.next [] (uG.L0 (i64.wrap (ia0 + 1))) []))))) (.ret (vi (-1)))
def Ft (n0 : Nat) (f0 : FnV) (x2 x3 x4 x5 x6 x7 x8 x9 : Int) (b10 : Bool) : RT uG := .asm (true = true -> n0 <= 9223372036854775807) (.enter [] (uG.L0 (0)) [])
theorem Hg (n0 : Nat) (f0 : FnV) (x2 x3 x4 x5 x6 x7 x8 x9 : Int) (b10 : Bool) : jF pR u0 (Kn n0 f0 x2 x3 x4 x5 x6 x7 x8 x9 b10) (EQ n0 f0 x2 x3 x4 x5 x6 x7 x8 x9 b10) (Ft n0 f0 x2 x3 x4 x5 x6 x7 x8 x9 b10) (AA n0 f0 x2 x3 x4 x5 x6 x7 x8 x9 b10) := ⟨⟨by kernel_rfl, by kernel_rfl⟩, fun s => by cases s <;> exact ⟨by kernel_rfl, by kernel_rfl⟩⟩
def y4 (n0 : Nat) (f0 : FnV) (x2 x3 x4 x5 x6 x7 x8 x9 : Int) (b10 : Bool) : Int   := idx n0 fun ii => w8 (jv0 (f0 ii)) (jv1 (f0 ii)) x2 x3 x4 x5 x6 x7 x8 x9 b10
theorem DF (n0 : Nat) (f0 : FnV) (x2 x3 x4 x5 x6 x7 x8 x9 : Int) (b10 : Bool) : evR (Ev (AA n0 f0 x2 x3 x4 x5 x6 x7 x8 x9 b10)) (Ft n0 f0 x2 x3 x4 x5 x6 x7 x8 x9 b10) (.int .i64 (y4 n0 f0 x2 x3 x4 x5 x6 x7 x8 x9 b10)) := dF fun hn => aJ (nt hn fun i => rfl)
theorem HY (n0 : Nat) (f0 : FnV) (x2 x3 x4 x5 x6 x7 x8 x9 : Int) (b10 : Bool) : evR (Ev (AA n0 f0 x2 x3 x4 x5 x6 x7 x8 x9 b10)) (Ft n0 f0 x2 x3 x4 x5 x6 x7 x8 x9 b10) (.int .i64 (y4 n0 (elV tp2 f0) x2 x3 x4 x5 x6 x7 x8 x9 b10)) := DF n0 f0 x2 x3 x4 x5 x6 x7 x8 x9 b10
def Bi : a7 := mkC [.sl tp2, .fn 56 [] [.pd [.int .i64, .int .i64, .int .i64, .int .i64, .int .i64, .int .i64, .int .i64, .int .i64, .bool]]] (fun _ => True) fun
 | [.sl n0 f0, .fn _ [] [.pd [.int _ x2, .int _ x3, .int _ x4, .int _ x5, .int _ x6, .int _ x7, .int _ x8, .int _ x9, .bool b10]]] => .int .i64 (y4 n0 f0 x2 x3 x4 x5 x6 x7 x8 x9 b10)
 | _ => .any
theorem xI : (vP Bi).Ok Tryz.prog 108 := mkE yy Tryz.func108 (by kernel_rfl) fun ds hp => rfs (Hg ..) (HY _ _ _ _ _ _ _ _ _ _ _)
inductive S46 where
 | L0 (ia0 : Int)
def HD (n0 : Nat) (f0 : FnV) (n2 : Nat) (f2 : FnV) (n4 : Nat) (f4 : FnV) (n6 : Nat) (f6 : FnV) (n8 : Nat) (f8 : FnV) (x10 x11 x12 : Int) : S46 -> Env × List O × Option Ex
 | .L0 ia0 => ([(8, vi ia0), (7, vi (↑n0 : Int)), (6, V.sl n0 (elV tyT f0)), (4, vi 0), (0, V.sl n0 (elV tyT f0)), (1, V.fn 47 [] [V.pd [V.sl n2 (elV tyR f2), V.sl n4 (elV tyT f4), V.sl n6 (elV tyF f6), V.sl n8 (elV tyC f8)], V.pd [vi x10], V.pd [vi x11], V.pd [vi x12]])], [], none)
def K2 : S46 -> JJ
 | .L0 ia0 => (0, [])
def H3 (n0 : Nat) (f0 : FnV) (n2 : Nat) (f2 : FnV) (n4 : Nat) (f4 : FnV) (n6 : Nat) (f6 : FnV) (n8 : Nat) (f8 : FnV) (x10 x11 x12 : Int) : T (ca JJ) := bk JJ pR u0 s46 [V.sl n0 (elV tyT f0), V.fn 47 [] [V.pd [V.sl n2 (elV tyR f2), V.sl n4 (elV tyT f4), V.sl n6 (elV tyF f6), V.sl n8 (elV tyC f8)], V.pd [vi x10], V.pd [vi x11], V.pd [vi x12]]]
def BI (n0 : Nat) (f0 : FnV) (n2 : Nat) (f2 : FnV) (n4 : Nat) (f4 : FnV) (n6 : Nat) (f6 : FnV) (n8 : Nat) (f8 : FnV) (x10 x11 x12 : Int) (cx : List Cx) : Lp JJ := lpT (atT (H3 n0 f0 n2 f2 n4 f4 n6 f6 n8 f8 x10 x11 x12) [])
def LJ (n0 : Nat) (f0 : FnV) (n2 : Nat) (f2 : FnV) (n4 : Nat) (f4 : FnV) (n6 : Nat) (f6 : FnV) (n8 : Nat) (f8 : FnV) (x10 x11 x12 : Int) : JJ -> Lp JJ
 | (0, cx) => BI n0 f0 n2 f2 n4 f4 n6 f6 n8 f8 x10 x11 x12 cx
 | (_, cx) => BI n0 f0 n2 f2 n4 f4 n6 f6 n8 f8 x10 x11 x12 cx
def D46 (n0 : Nat) (f0 : FnV) (n2 : Nat) (f2 : FnV) (n4 : Nat) (f4 : FnV) (n6 : Nat) (f6 : FnV) (n8 : Nat) (f8 : FnV) (x10 x11 x12 : Int) : LD JJ S46 := ⟨K2, LJ n0 f0 n2 f2 n4 f4 n6 f6 n8 f8 x10 x11 x12, HD n0 f0 n2 f2 n4 f4 n6 f6 n8 f8 x10 x11 x12⟩
def Gk (n0 : Nat) (f0 : FnV) (n2 : Nat) (f2 : FnV) (n4 : Nat) (f4 : FnV) (n6 : Nat) (f6 : FnV) (n8 : Nat) (f8 : FnV) (x10 x11 x12 : Int) : S46 -> RT S46
 | .L0 ia0 => .br (decide (ia0 < (↑n0 : Int))) (.ob (decide (0 <= ia0 /\ ia0 < (↑n0 : Int))) (.obp ((0 : Int) <= x10 /\ x10 < (↑n8 : Int)) (.obt (.br (xA (jv0 (f0 ia0.toNat)) (jv1 (f0 ia0.toNat)) (jv2 (f0 ia0.toNat)) (jv3 (f0 ia0.toNat)) (jv4 (f0 ia0.toNat)) (elV tyC f8) x10 x11 x12) (.ret (vi ia0)) (.next [] (S46.L0 (i64.wrap (ia0 + 1))) []))))) (.ret (vi (-1)))
def m46 (n0 : Nat) (f0 : FnV) (n2 : Nat) (f2 : FnV) (n4 : Nat) (f4 : FnV) (n6 : Nat) (f6 : FnV) (n8 : Nat) (f8 : FnV) (x10 x11 x12 : Int) : RT S46 := .asm (true = true -> n0 <= 9223372036854775807) (.enter [] (S46.L0 (0)) [])
theorem JD (n0 : Nat) (f0 : FnV) (n2 : Nat) (f2 : FnV) (n4 : Nat) (f4 : FnV) (n6 : Nat) (f6 : FnV) (n8 : Nat) (f8 : FnV) (x10 x11 x12 : Int) : jF pR u0 (D46 n0 f0 n2 f2 n4 f4 n6 f6 n8 f8 x10 x11 x12) (H3 n0 f0 n2 f2 n4 f4 n6 f6 n8 f8 x10 x11 x12) (m46 n0 f0 n2 f2 n4 f4 n6 f6 n8 f8 x10 x11 x12) (Gk n0 f0 n2 f2 n4 f4 n6 f6 n8 f8 x10 x11 x12) := ⟨⟨by kernel_rfl, by kernel_rfl⟩, fun s => by cases s <;> exact ⟨by kernel_rfl, by kernel_rfl⟩⟩
def F46 (n0 : Nat) (f0 f8 : FnV) (x10 x11 x12 : Int) : Int   := idx n0 fun ii => xA (jv0 (f0 ii)) (jv1 (f0 ii)) (jv2 (f0 ii)) (jv3 (f0 ii)) (jv4 (f0 ii)) (elV tyC f8) x10 x11 x12
theorem Fs (n0 : Nat) (f0 : FnV) (n2 : Nat) (f2 : FnV) (n4 : Nat) (f4 : FnV) (n6 : Nat) (f6 : FnV) (n8 : Nat) (f8 : FnV) (x10 x11 x12 : Int) (hp : 0 <= x10 /\ x10 < (n8 : Int)) : evR (Ev (Gk n0 f0 n2 f2 n4 f4 n6 f6 n8 f8 x10 x11 x12)) (m46 n0 f0 n2 f2 n4 f4 n6 f6 n8 f8 x10 x11 x12) (.int .i64 (F46 n0 f0 f8 x10 x11 x12)) := dF fun hn => aJ (D0 (Q := fun ii => (0 : Int) <= x10 /\ x10 < (↑n8 : Int)) (fun ii x => .obp ((0 : Int) <= x10 /\ x10 < (↑n8 : Int)) (.obt x)) (fun i x r h hx => aO h (af hx)) (fun _ _ => rfl) hn (fun _ _ => hp) fun i => rfl)
theorem Kp (n0 : Nat) (f0 : FnV) (n2 : Nat) (f2 : FnV) (n4 : Nat) (f4 : FnV) (n6 : Nat) (f6 : FnV) (n8 : Nat) (f8 : FnV) (x10 x11 x12 : Int) (hp : 0 <= x10 /\ x10 < (n8 : Int)) : evR (Ev (Gk n0 f0 n2 f2 n4 f4 n6 f6 n8 f8 x10 x11 x12)) (m46 n0 f0 n2 f2 n4 f4 n6 f6 n8 f8 x10 x11 x12) (.int .i64 (F46 n0 (elV tyT f0) (elV tyC f8) x10 x11 x12)) := Fs n0 f0 n2 f2 n4 f4 n6 f6 n8 f8 x10 x11 x12 hp
def C46 : a7 := mkC [.sl tyT, .fn 47 [] [.pd [.sl tyR, .sl tyT, .sl tyF, .sl tyC], .pd tp1, .pd tp1, .pd tp1]] (fun
 | [.sl n0 f0, .fn _ [] [.pd [.sl n2 f2, .sl n4 f4, .sl n6 f6, .sl n8 f8], .pd [.int _ x10], .pd [.int _ x11], .pd [.int _ x12]]] => 0 <= x10 /\ x10 < (n8 : Int)
 | _ => False) fun
 | [.sl n0 f0, .fn _ [] [.pd [.sl n2 f2, .sl n4 f4, .sl n6 f6, .sl n8 f8], .pd [.int _ x10], .pd [.int _ x11], .pd [.int _ x12]]] => .int .i64 (F46 n0 f0 f8 x10 x11 x12)
 | _ => .any
theorem Ec : (vP C46).Ok Tryz.prog 46 := mkE yy Tryz.func46 (by kernel_rfl) fun ds hp => rfs (JD ..) (Kp _ _ _ _ _ _ _ _ _ _ _ _ _ hp)
end
noncomputable section
def lk : bj := [(108, .con Bi), (46, .con C46), (111, .con zd), (56, .con C56), (47, .con C47), (145, .con Ac), (140, .con Ah), (49, .con C49), (123, .con z8), (44, .con C44), (23, .con C23), (62, .con C62), (68, .con C68), (63, .con C63), (69, .con C69), (117, .inl Bw u0), (116, .inl BY u0), (115, .con zr), (114, .con zU), (147, .con yQ), (64, .con C64), (66, .con C66), (113, .con v7), (65, .con C65), (67, .con C67), (53, .con C53), (45, .con C45), (90, .con C90), (119, .con wj), (121, .con wm), (99, .con C99), (129, .con vw), (148, .con wT), (149, .con vJ), (112, .con wI), (118, .con wz), (120, .con vZ), (133, .con wZ), (103, .con vY), (100, .con wA), (134, .con ww), (135, .con wH), (78, .con C78), (54, .con C54), (48, .con C48), (102, .con wC), (84, .con C84), (85, .con C85), (127, .con wQ), (101, .con wp), (86, .con C86), (162, .con wo), (146, .con wS), (83, .inl s83 u0)]
theorem ow : be Tryz.prog eqs its lk := .con xI (.con Ec (.con ue (.con BN (.con CG (.con um (.con tS (.con Bh (.con va (.con Ay (.con Bd (.con Ap (.con Bn (.con Cn (.con AP (.inl Tryz.func117 (by kernel_rfl) (by kernel_rfl) (by kernel_rfl) (.inl Tryz.func116 (by kernel_rfl) (by kernel_rfl) (by kernel_rfl) (.con uU (.con uo (.con uz (.con Cz (.con CB (.con qQ (.con y9 (.con yN (.con z7 (.con zt (.con yZ (.con r0 (.con rU (.con zS (.con qZ (.con rC (.con qP (.con rP (.con rh (.con qW (.con rY (.con q9 (.con r6 (.con rJ (.con qK (.con zu (.con zb (.con zB (.con rD (.con zq (.con zp (.con rL (.con rp (.con zw (.con ra (.con uk (.inl Tryz.func83 (by kernel_rfl) (by kernel_rfl) (by kernel_rfl) (.nil))))))))))))))))))))))))))))))))))))))))))))))))))))))
def m55 (n0 : Nat) (f0 : FnV) (x2 x3 x4 x5 x6 x7 x8 x9 : Int) (b10 : Bool) : RT Empty := .obc (.obt (.ret (V.bool (decide (0 <= y4 n0 (elV tp2 f0) x2 x3 x4 x5 x6 x7 x8 x9 b10)))))
theorem HM (n0 : Nat) (f0 : FnV) (x2 x3 x4 x5 x6 x7 x8 x9 : Int) (b10 : Bool) : Fit noD (bk JJ lk u0 s55 [V.sl n0 (elV tp2 f0), V.fn 56 [] [V.pd [vi x2, vi x3, vi x4, vi x5, vi x6, vi x7, vi x8, vi x9, V.bool b10]]]) (m55 n0 f0 x2 x3 x4 x5 x6 x7 x8 x9 b10) := ⟨by kernel_rfl, by kernel_rfl⟩
def tW (n0 : Nat) (f0 : FnV) (x2 x3 x4 x5 x6 x7 x8 x9 : Int) (b10 : Bool) : Bool := decide (0 <= y4 n0 (elV tp2 f0) x2 x3 x4 x5 x6 x7 x8 x9 b10)
def R55 (n0 : Nat) (f0 : FnV) (x2 x3 x4 x5 x6 x7 x8 x9 : Int) (b10 : Bool) : V := .bool (tW n0 f0 x2 x3 x4 x5 x6 x7 x8 x9 b10)
theorem Ld (n0 : Nat) (f0 : FnV) (x2 x3 x4 x5 x6 x7 x8 x9 : Int) (b10 : Bool) : evR noE (m55 n0 f0 x2 x3 x4 x5 x6 x7 x8 x9 b10) (R55 n0 f0 x2 x3 x4 x5 x6 x7 x8 x9 b10) := ar (af (ao (by unfold R55 tW; rfl)))
def C55 : a7 := mkC [.sl tp2, .fn 56 [] [.pd [.int .i64, .int .i64, .int .i64, .int .i64, .int .i64, .int .i64, .int .i64, .int .i64, .bool]]] (fun _ => True) fun
 | [.sl n0 f0, .fn _ [] [.pd [.int _ x2, .int _ x3, .int _ x4, .int _ x5, .int _ x6, .int _ x7, .int _ x8, .int _ x9, .bool b10]]] => R55 n0 f0 x2 x3 x4 x5 x6 x7 x8 x9 b10
 | _ => .any
theorem C3 : (vP C55).Ok Tryz.prog 55 := mkE ow Tryz.func55 (by kernel_rfl) fun ds hp => rf0 (HM ..) (Ld _ _ _ _ _ _ _ _ _ _ _)
inductive S61 where
 | L0 (ia0 : Int) (na1 : Nat) (ia2 : Int)
def Ho (s0 : ByteArray) (x1 : Int) (n2 : Nat) (f2 : FnV) (x4 x5 x6 x7 x8 : Int) : S61 -> Env × List O × Option Ex
 | .L0 ia0 na1 ia2 => ([(10, vi ia0), (9, vi (i64.wrap ((↑n2 : Int) - 1))), (8, vi (↑n2 : Int)), (7, V.sl n2 (elV tp2 f2)), (6, V.pl 3 2), (0, V.yl na1), (1, V.pl 3 0)], [O.cells [V.str s0, vi x1, V.sl n2 (elV tp2 f2), vi x4] 54, O.cells [vi x5, vi x6, vi x7, vi x8] 29, O.cells [vi ia2] 3, O.cells [V.str s0, vi x1, V.sl n2 (elV tp2 f2), vi x4] 54], none)
def Ll : S61 -> JJ
 | .L0 ia0 na1 ia2 => (0, [Cx.n na1])
def IP (s0 : ByteArray) (x1 : Int) (n2 : Nat) (f2 : FnV) (x4 x5 x6 x7 x8 : Int) : T (ca JJ) := bk JJ lk u0 s61 [V.agg [V.str s0, vi x1, V.sl n2 (elV tp2 f2), vi x4], V.agg [vi x5, vi x6, vi x7, vi x8]]
def AU (s0 : ByteArray) (x1 : Int) (n2 : Nat) (f2 : FnV) (x4 x5 x6 x7 x8 : Int) (cx : List Cx) : Lp JJ := lpT (atT (afT (atT (IP s0 x1 n2 f2 x4 x5 x6 x7 x8) []) (cxn cx 0)) [])
def Lz (s0 : ByteArray) (x1 : Int) (n2 : Nat) (f2 : FnV) (x4 x5 x6 x7 x8 : Int) : JJ -> Lp JJ
 | (0, cx) => AU s0 x1 n2 f2 x4 x5 x6 x7 x8 cx
 | (_, cx) => AU s0 x1 n2 f2 x4 x5 x6 x7 x8 cx
def D61 (s0 : ByteArray) (x1 : Int) (n2 : Nat) (f2 : FnV) (x4 x5 x6 x7 x8 : Int) : LD JJ S61 := ⟨Ll, Lz s0 x1 n2 f2 x4 x5 x6 x7 x8, Ho s0 x1 n2 f2 x4 x5 x6 x7 x8⟩
def GS (s0 : ByteArray) (x1 : Int) (n2 : Nat) (f2 : FnV) (x4 x5 x6 x7 x8 : Int) : S61 -> RT S61
 | .L0 ia0 na1 ia2 => .br (decide (ia0 < i64.wrap ((↑n2 : Int) - 1))) (.ob (decide (0 <= ia0 /\ ia0 < (↑n2 : Int))) (.ob (decide (0 <= i64.wrap (ia0 + 1) /\ i64.wrap (ia0 + 1) < (↑n2 : Int))) (.obt (.obt (.obt (.obt (.obc (.obt (.next (iR 0 4 []) (S61.L0 (i64.wrap (ia0 + 1)) (na1) (max ia2 (bE (i64.wrap (2 * jv0 (f2 ia0.toNat))) (i64.wrap (2 * jv1 (f2 ia0.toNat))) (i64.wrap (2 * jv0 (f2 (i64.wrap (ia0 + 1)).toNat))) (i64.wrap (2 * jv1 (f2 (i64.wrap (ia0 + 1)).toNat))) x4 x5 x6 x7 x8))) []))))))))) (.ret (vi ia2))
def m61 (s0 : ByteArray) (x1 : Int) (n2 : Nat) (f2 : FnV) (x4 x5 x6 x7 x8 : Int) : RT S61 := .all (fun l_6416 => .asm (true = true -> n2 <= 9223372036854775807) (.enter (iR 0 4 []) (S61.L0 (0) (l_6416) (0)) []))
theorem Iw (s0 : ByteArray) (x1 : Int) (n2 : Nat) (f2 : FnV) (x4 x5 x6 x7 x8 : Int) : jF lk u0 (D61 s0 x1 n2 f2 x4 x5 x6 x7 x8) (IP s0 x1 n2 f2 x4 x5 x6 x7 x8) (m61 s0 x1 n2 f2 x4 x5 x6 x7 x8) (GS s0 x1 n2 f2 x4 x5 x6 x7 x8) := ⟨⟨by kernel_rfl, by kernel_rfl⟩, fun s => by cases s <;> exact ⟨by kernel_rfl, by kernel_rfl⟩⟩
def p61 (n2 : Nat) (f2 : FnV) (x4 x5 x6 x7 x8 : Int) (ii : Nat) : Int := bE (i64.wrap (2 * jv0 (f2 ii))) (i64.wrap (2 * jv1 (f2 ii))) (i64.wrap (2 * jv0 (f2 (i64.wrap ((ii : Int) + 1)).toNat))) (i64.wrap (2 * jv1 (f2 (i64.wrap ((ii : Int) + 1)).toNat))) x4 x5 x6 x7 x8
def F61 (n2 : Nat) (f2 : FnV) (x4 x5 x6 x7 x8 : Int) : Int := ik (p61 n2 f2 x4 x5 x6 x7 x8) (n2 - 1)
theorem FW (s0 : ByteArray) (x1 : Int) (n2 : Nat) (f2 : FnV) (x4 x5 x6 x7 x8 : Int) : evR (Ev (GS s0 x1 n2 f2 x4 x5 x6 x7 x8)) (m61 s0 x1 n2 f2 x4 x5 x6 x7 x8) (.int .i64 (F61 n2 f2 x4 x5 x6 x7 x8)) := EE fun l => dF fun hn => aJ (zE hn fun i a _ => rfl)
theorem KL (s0 : ByteArray) (x1 : Int) (n2 : Nat) (f2 : FnV) (x4 x5 x6 x7 x8 : Int) : evR (Ev (GS s0 x1 n2 f2 x4 x5 x6 x7 x8)) (m61 s0 x1 n2 f2 x4 x5 x6 x7 x8) (.int .i64 (F61 n2 (elV tp2 f2) x4 x5 x6 x7 x8)) := FW s0 x1 n2 f2 x4 x5 x6 x7 x8
def C61 : a7 := mkC [.agg tyR, .agg tp4] (fun _ => True) fun
 | [.agg [.str s0, .int _ x1, .sl n2 f2, .int _ x4], .agg [.int _ x5, .int _ x6, .int _ x7, .int _ x8]] => .int .i64 (F61 n2 f2 x4 x5 x6 x7 x8)
 | _ => .any
theorem C4 : (vP C61).Ok Tryz.prog 61 := mkE ow Tryz.func61 (by kernel_rfl) fun ds hp => rfs (Iw ..) (KL _ _ _ _ _ _ _ _ _)
inductive S74 where
 | L0 (ia0 : Int) (na1 : Nat)
def Jt (s0 : ByteArray) (x1 : Int) (n2 : Nat) (f2 : FnV) (x4 x5 x6 : Int) : S74 -> Env × List O × Option Ex
 | .L0 ia0 na1 => ([(10, vi ia0), (9, vi (i64.wrap ((↑n2 : Int) - 1))), (8, vi (↑n2 : Int)), (7, V.sl n2 (elV tp2 f2)), (6, V.pl 4 2), (0, V.yl na1), (1, V.pl 4 0)], [O.cells [V.str s0, vi x1, V.sl n2 (elV tp2 f2), vi x4] 54, O.cells [vi x5] 3, O.cells [vi x6] 3, O.cells [V.kb false] 4, O.cells [V.str s0, vi x1, V.sl n2 (elV tp2 f2), vi x4] 54], none)
def K5 : S74 -> JJ
 | .L0 ia0 na1 => (0, [Cx.n na1])
def Kc (s0 : ByteArray) (x1 : Int) (n2 : Nat) (f2 : FnV) (x4 x5 x6 : Int) : T (ca JJ) := bk JJ lk u0 s74 [V.agg [V.str s0, vi x1, V.sl n2 (elV tp2 f2), vi x4], vi x5, vi x6]
def AR (s0 : ByteArray) (x1 : Int) (n2 : Nat) (f2 : FnV) (x4 x5 x6 : Int) (cx : List Cx) : Lp JJ := lpT (atT (afT (atT (Kc s0 x1 n2 f2 x4 x5 x6) []) (cxn cx 0)) [])
def K3 (s0 : ByteArray) (x1 : Int) (n2 : Nat) (f2 : FnV) (x4 x5 x6 : Int) : JJ -> Lp JJ
 | (0, cx) => AR s0 x1 n2 f2 x4 x5 x6 cx
 | (_, cx) => AR s0 x1 n2 f2 x4 x5 x6 cx
def D74 (s0 : ByteArray) (x1 : Int) (n2 : Nat) (f2 : FnV) (x4 x5 x6 : Int) : LD JJ S74 := ⟨K5, K3 s0 x1 n2 f2 x4 x5 x6, Jt s0 x1 n2 f2 x4 x5 x6⟩
def Gm (s0 : ByteArray) (x1 : Int) (n2 : Nat) (f2 : FnV) (x4 x5 x6 : Int) : S74 -> RT S74
 | .L0 ia0 na1 => .br (decide (ia0 < i64.wrap ((↑n2 : Int) - 1))) (.ob (decide (0 <= ia0 /\ ia0 < (↑n2 : Int))) (.ob (decide (0 <= i64.wrap (ia0 + 1) /\ i64.wrap (ia0 + 1) < (↑n2 : Int))) (.obt (.obt (.obt (.obt (.obc (.obt (.br (bC (i64.wrap (2 * jv0 (f2 ia0.toNat))) (i64.wrap (2 * jv1 (f2 ia0.toNat))) (i64.wrap (2 * jv0 (f2 (i64.wrap (ia0 + 1)).toNat))) (i64.wrap (2 * jv1 (f2 (i64.wrap (ia0 + 1)).toNat))) x4 x5 x6) (.ret (V.kb true)) (.next (iR 0 5 []) (S74.L0 (i64.wrap (ia0 + 1)) (na1)) [])))))))))) (.ret (V.kb false))
def m74 (s0 : ByteArray) (x1 : Int) (n2 : Nat) (f2 : FnV) (x4 x5 x6 : Int) : RT S74 := .all (fun l_6589 => .asm (true = true -> n2 <= 9223372036854775807) (.enter (iR 0 5 []) (S74.L0 (0) (l_6589)) []))
theorem Iq0 (s0 : ByteArray) (x1 : Int) (n2 : Nat) (f2 : FnV) (x4 x5 x6 : Int) : jF lk u0 (D74 s0 x1 n2 f2 x4 x5 x6) (Kc s0 x1 n2 f2 x4 x5 x6) (m74 s0 x1 n2 f2 x4 x5 x6) (Gm s0 x1 n2 f2 x4 x5 x6) := ⟨⟨by kernel_rfl, by kernel_rfl⟩, fun s => by cases s <;> exact ⟨by kernel_rfl, by kernel_rfl⟩⟩
def p74 (n2 : Nat) (f2 : FnV) (x4 x5 x6 : Int) (ii : Nat) : Bool := bC (i64.wrap (2 * jv0 (f2 ii))) (i64.wrap (2 * jv1 (f2 ii))) (i64.wrap (2 * jv0 (f2 (i64.wrap ((ii : Int) + 1)).toNat))) (i64.wrap (2 * jv1 (f2 (i64.wrap ((ii : Int) + 1)).toNat))) x4 x5 x6
def F74 (n2 : Nat) (f2 : FnV) (x4 x5 x6 : Int) : Bool := exB (n2 - 1) (p74 n2 f2 x4 x5 x6)
theorem FD (s0 : ByteArray) (x1 : Int) (n2 : Nat) (f2 : FnV) (x4 x5 x6 : Int) : evR (Ev (Gm s0 x1 n2 f2 x4 x5 x6)) (m74 s0 x1 n2 f2 x4 x5 x6) (.bool (F74 n2 f2 x4 x5 x6)) := EE fun l => dF fun hn => aJ (zL hn fun i _ => rfl)
theorem Ky (s0 : ByteArray) (x1 : Int) (n2 : Nat) (f2 : FnV) (x4 x5 x6 : Int) : evR (Ev (Gm s0 x1 n2 f2 x4 x5 x6)) (m74 s0 x1 n2 f2 x4 x5 x6) (.bool (F74 n2 (elV tp2 f2) x4 x5 x6)) := FD s0 x1 n2 f2 x4 x5 x6
def C74 : a7 := mkC [.agg tyR, .int .i64, .int .i64] (fun _ => True) fun
 | [.agg [.str s0, .int _ x1, .sl n2 f2, .int _ x4], .int _ x5, .int _ x6] => .bool (F74 n2 f2 x4 x5 x6)
 | _ => .any
theorem CZ : (vP C74).Ok Tryz.prog 74 := mkE ow Tryz.func74 (by kernel_rfl) fun ds hp => rfs (Iq0 ..) (Ky _ _ _ _ _ _ _)
end
noncomputable section
def pF : bj := (55, .con C55) :: (61, .con C61) :: (74, .con C74) :: lk
theorem oM : be Tryz.prog eqs its pF := .con C3 (.con C4 (.con CZ (ow)))
attribute [local irreducible] F44 rE oP
def m22 (n0 : Nat) (f0 : FnV) (n2 : Nat) (f2 : FnV) (n4 : Nat) (f4 : FnV) (n6 : Nat) (f6 : FnV) (x8 x9 x10 x11 x12 : Int) : RT Empty := .asm (true = true -> n0 <= 9223372036854775807) (.obp (((∀ (i : Nat), i < n0 -> (sv (hdV (f0 i))).size <= (9223372036854775807 : Nat)) /\ ∀ (i : Nat), i < n6 -> (sv (hdV (f6 i))).size <= (9223372036854775807 : Nat)) /\ (0 : Nat) = (0 : Nat) /\ (2 : Nat) <= (100 : Nat)) (.obt (.br (F44 n0 (elV tyR f0) n2 (elV tyT f2) n4 (elV tyF f4) n6 (elV tyC f6) 2 (elV tp1 (bM [vi x8, vi (↑n0 : Int)] 0 1)) != 0) (.ret (V.tup [vi 0, vi (F44 n0 (elV tyR f0) n2 (elV tyT f2) n4 (elV tyF f4) n6 (elV tyC f6) 2 (elV tp1 (bM [vi x8, vi (↑n0 : Int)] 0 1)))])) (.obc (.obt (.br (lc x9 x10 x11 x12) (.ret (V.tup [vi 0, vi 7])) (.ob (decide (0 <= x8 /\ x8 < (↑n0 : Int))) (.obc (.obt (.ret (V.tup [vi (F61 (c5 (hdV (tlV (tlV (f0 x8.toNat))))) (fun i => ap tp2 (atV (hdV (tlV (tlV (f0 x8.toNat)))) i)) (jv3 (f0 x8.toNat)) x9 x10 x11 x12), vi 0])))))))))))
theorem HU (n0 : Nat) (f0 : FnV) (n2 : Nat) (f2 : FnV) (n4 : Nat) (f4 : FnV) (n6 : Nat) (f6 : FnV) (x8 x9 x10 x11 x12 : Int) : Fit noD (bk JJ pF u0 s22 [scV n0 f0 n2 f2 n4 f4 n6 f6, vi x8, V.agg [vi x9, vi x10, vi x11, vi x12]]) (m22 n0 f0 n2 f2 n4 f4 n6 f6 x8 x9 x10 x11 x12) := ⟨by kernel_rfl, by kernel_rfl⟩
def fG (n0 : Nat) (f0 : FnV) (n2 : Nat) (f2 : FnV) (n4 : Nat) (f4 : FnV) (n6 : Nat) (f6 : FnV) (x8 x9 x10 x11 x12 : Int) : Int := bif F44 n0 (elV tyR f0) n2 (elV tyT f2) n4 (elV tyF f4) n6 (elV tyC f6) 2 (elV tp1 (bM [vi x8, vi (↑n0 : Int)] 0 1)) != 0 then 0 else bif lc x9 x10 x11 x12 then 0 else F61 (c5 (hdV (tlV (tlV (f0 x8.toNat))))) (fun i => ap tp2 (atV (hdV (tlV (tlV (f0 x8.toNat)))) i)) (jv3 (f0 x8.toNat)) x9 x10 x11 x12
def iF (n0 : Nat) (f0 : FnV) (n2 : Nat) (f2 : FnV) (n4 : Nat) (f4 : FnV) (n6 : Nat) (f6 : FnV) (x8 x9 x10 x11 x12 : Int) : Int := bif F44 n0 (elV tyR f0) n2 (elV tyT f2) n4 (elV tyF f4) n6 (elV tyC f6) 2 (elV tp1 (bM [vi x8, vi (↑n0 : Int)] 0 1)) != 0 then F44 n0 (elV tyR f0) n2 (elV tyT f2) n4 (elV tyF f4) n6 (elV tyC f6) 2 (elV tp1 (bM [vi x8, vi (↑n0 : Int)] 0 1)) else bif lc x9 x10 x11 x12 then 7 else 0
def R22 (n0 : Nat) (f0 : FnV) (n2 : Nat) (f2 : FnV) (n4 : Nat) (f4 : FnV) (n6 : Nat) (f6 : FnV) (x8 x9 x10 x11 x12 : Int) : V := .tup [.int i64 (fG n0 f0 n2 f2 n4 f4 n6 f6 x8 x9 x10 x11 x12), .int i64 (iF n0 f0 n2 f2 n4 f4 n6 f6 x8 x9 x10 x11 x12)]
theorem Kr (n0 : Nat) (f0 : FnV) (n2 : Nat) (f2 : FnV) (n4 : Nat) (f4 : FnV) (n6 : Nat) (f6 : FnV) (x8 x9 x10 x11 x12 : Int) (hp : cY n0 f0 /\ cY n6 f6) : evR noE (m22 n0 f0 n2 f2 n4 f4 n6 f6 x8 x9 x10 x11 x12) (R22 n0 f0 n2 f2 n4 f4 n6 f6 x8 x9 x10 x11 x12) := dT (fun a0 => aO (by first | assumption | ((first | exact ⟨hp, rfl, by decide⟩ | (simp_all [cond_eq_ite] <;> first | omega | exact (jO (by assumption) (by assumption) h0).1 | exact (jO (by assumption) (by assumption) h0).2 | exact eI (by assumption) h0 | exact eI (by assumption) h1 | exact k50 h0 | exact k50 h1 | exact k50 hc.1 | exact eI (by assumption) hc)))) (af (aL (fun h0 => ao (by unfold R22 fG iF; try rw [h0]; rfl)) (fun h0 => ar (af (aL (fun h1 => ao (by unfold R22 fG iF; try rw [h0]; try rw [h1]; rfl)) (fun h1 => ac (by first | assumption | ((simp_all [cond_eq_ite] <;> first | omega | exact (jO (by assumption) (by assumption) h0).1 | exact (jO (by assumption) (by assumption) h0).2 | exact eI (by assumption) h0 | exact eI (by assumption) h1 | exact k50 h0 | exact k50 h1 | exact k50 hc.1 | exact eI (by assumption) hc))) (ar (af (ao (by unfold R22 fG iF; try rw [h0]; try rw [h1]; rfl)))))))))))
def C22 : a7 := mkC [.agg [.sl tyR, .sl tyT, .sl tyF, .sl tyC], .int .i64, .agg tp4] (fun
 | [.agg [.sl n0 f0, .sl n2 f2, .sl n4 f4, .sl n6 f6], .int _ x8, .agg [.int _ x9, .int _ x10, .int _ x11, .int _ x12]] => cY n0 f0 /\ cY n6 f6
 | _ => False) fun
 | [.agg [.sl n0 f0, .sl n2 f2, .sl n4 f4, .sl n6 f6], .int _ x8, .agg [.int _ x9, .int _ x10, .int _ x11, .int _ x12]] => R22 n0 f0 n2 f2 n4 f4 n6 f6 x8 x9 x10 x11 x12
 | _ => .any
theorem C7 : (vP C22).Ok Tryz.prog 22 := mkE oM Tryz.func22 (by kernel_rfl) fun ds hp => rf0 (HU ..) (Kr _ _ _ _ _ _ _ _ _ _ _ _ _ hp)
def m25 (n0 : Nat) (f0 : FnV) (n2 : Nat) (f2 : FnV) (n4 : Nat) (f4 : FnV) (n6 : Nat) (f6 : FnV) (x8 x9 x10 : Int) : RT Empty := .asm (true = true -> n0 <= 9223372036854775807) (.obp (((∀ (i : Nat), i < n0 -> (sv (hdV (f0 i))).size <= (9223372036854775807 : Nat)) /\ ∀ (i : Nat), i < n6 -> (sv (hdV (f6 i))).size <= (9223372036854775807 : Nat)) /\ (0 : Nat) = (0 : Nat) /\ (2 : Nat) <= (100 : Nat)) (.obt (.br (F44 n0 (elV tyR f0) n2 (elV tyT f2) n4 (elV tyF f4) n6 (elV tyC f6) 2 (elV tp1 (bM [vi x8, vi (↑n0 : Int)] 0 1)) != 0) (.ret (V.tup [V.kb false, vi (F44 n0 (elV tyR f0) n2 (elV tyT f2) n4 (elV tyF f4) n6 (elV tyC f6) 2 (elV tp1 (bM [vi x8, vi (↑n0 : Int)] 0 1)))])) (.obc (.obt (.br (dK 2 (elV tp1 (bM [vi x9, vi x10] 0 1))) (.ret (V.tup [V.kb false, vi 7])) (.ob (decide (0 <= x8 /\ x8 < (↑n0 : Int))) (.obc (.obt (.ret (V.tup [V.bool (F74 (c5 (hdV (tlV (tlV (f0 x8.toNat))))) (fun i => ap tp2 (atV (hdV (tlV (tlV (f0 x8.toNat)))) i)) (jv3 (f0 x8.toNat)) x9 x10), vi 0])))))))))))
theorem Hx (n0 : Nat) (f0 : FnV) (n2 : Nat) (f2 : FnV) (n4 : Nat) (f4 : FnV) (n6 : Nat) (f6 : FnV) (x8 x9 x10 : Int) : Fit noD (bk JJ pF u0 s25 [scV n0 f0 n2 f2 n4 f4 n6 f6, vi x8, vi x9, vi x10]) (m25 n0 f0 n2 f2 n4 f4 n6 f6 x8 x9 x10) := ⟨by kernel_rfl, by kernel_rfl⟩
def gK (n0 : Nat) (f0 : FnV) (n2 : Nat) (f2 : FnV) (n4 : Nat) (f4 : FnV) (n6 : Nat) (f6 : FnV) (x8 x9 x10 : Int) : Bool := bif F44 n0 (elV tyR f0) n2 (elV tyT f2) n4 (elV tyF f4) n6 (elV tyC f6) 2 (elV tp1 (bM [vi x8, vi (↑n0 : Int)] 0 1)) != 0 then false else bif dK 2 (elV tp1 (bM [vi x9, vi x10] 0 1)) then false else F74 (c5 (hdV (tlV (tlV (f0 x8.toNat))))) (fun i => ap tp2 (atV (hdV (tlV (tlV (f0 x8.toNat)))) i)) (jv3 (f0 x8.toNat)) x9 x10
def iJ (n0 : Nat) (f0 : FnV) (n2 : Nat) (f2 : FnV) (n4 : Nat) (f4 : FnV) (n6 : Nat) (f6 : FnV) (x8 x9 x10 : Int) : Int := bif F44 n0 (elV tyR f0) n2 (elV tyT f2) n4 (elV tyF f4) n6 (elV tyC f6) 2 (elV tp1 (bM [vi x8, vi (↑n0 : Int)] 0 1)) != 0 then F44 n0 (elV tyR f0) n2 (elV tyT f2) n4 (elV tyF f4) n6 (elV tyC f6) 2 (elV tp1 (bM [vi x8, vi (↑n0 : Int)] 0 1)) else bif dK 2 (elV tp1 (bM [vi x9, vi x10] 0 1)) then 7 else 0
def R25 (n0 : Nat) (f0 : FnV) (n2 : Nat) (f2 : FnV) (n4 : Nat) (f4 : FnV) (n6 : Nat) (f6 : FnV) (x8 x9 x10 : Int) : V := .tup [.bool (gK n0 f0 n2 f2 n4 f4 n6 f6 x8 x9 x10), .int i64 (iJ n0 f0 n2 f2 n4 f4 n6 f6 x8 x9 x10)]
theorem La (n0 : Nat) (f0 : FnV) (n2 : Nat) (f2 : FnV) (n4 : Nat) (f4 : FnV) (n6 : Nat) (f6 : FnV) (x8 x9 x10 : Int) (hp : cY n0 f0 /\ cY n6 f6) : evR noE (m25 n0 f0 n2 f2 n4 f4 n6 f6 x8 x9 x10) (R25 n0 f0 n2 f2 n4 f4 n6 f6 x8 x9 x10) := dT (fun a0 => aO (by first | assumption | ((first | exact ⟨hp, rfl, by decide⟩ | (simp_all [cond_eq_ite] <;> first | omega | exact (jO (by assumption) (by assumption) h0).1 | exact (jO (by assumption) (by assumption) h0).2 | exact eI (by assumption) h0 | exact eI (by assumption) h1 | exact k50 h0 | exact k50 h1 | exact k50 hc.1 | exact eI (by assumption) hc)))) (af (aL (fun h0 => ao (by unfold R25 gK iJ; try rw [h0]; rfl)) (fun h0 => ar (af (aL (fun h1 => ao (by unfold R25 gK iJ; try rw [h0]; try rw [h1]; rfl)) (fun h1 => ac (by first | assumption | ((simp_all [cond_eq_ite] <;> first | omega | exact (jO (by assumption) (by assumption) h0).1 | exact (jO (by assumption) (by assumption) h0).2 | exact eI (by assumption) h0 | exact eI (by assumption) h1 | exact k50 h0 | exact k50 h1 | exact k50 hc.1 | exact eI (by assumption) hc))) (ar (af (ao (by unfold R25 gK iJ; try rw [h0]; try rw [h1]; rfl)))))))))))
def C25 : a7 := mkC [.agg [.sl tyR, .sl tyT, .sl tyF, .sl tyC], .int .i64, .int .i64, .int .i64] (fun
 | [.agg [.sl n0 f0, .sl n2 f2, .sl n4 f4, .sl n6 f6], .int _ x8, .int _ x9, .int _ x10] => cY n0 f0 /\ cY n6 f6
 | _ => False) fun
 | [.agg [.sl n0 f0, .sl n2 f2, .sl n4 f4, .sl n6 f6], .int _ x8, .int _ x9, .int _ x10] => R25 n0 f0 n2 f2 n4 f4 n6 f6 x8 x9 x10
 | _ => .any
theorem CO : (vP C25).Ok Tryz.prog 25 := mkE oM Tryz.func25 (by kernel_rfl) fun ds hp => rf0 (Hx ..) (La _ _ _ _ _ _ _ _ _ _ _ hp)
def m15 (n0 : Nat) (f0 : FnV) (n2 : Nat) (f2 : FnV) (n4 : Nat) (f4 : FnV) (n6 : Nat) (f6 : FnV) (x8 x9 x10 : Int) : RT Empty := .asm (true = true -> n6 <= 9223372036854775807) (.obp (((∀ (i : Nat), i < n0 -> (sv (hdV (f0 i))).size <= (9223372036854775807 : Nat)) /\ ∀ (i : Nat), i < n6 -> (sv (hdV (f6 i))).size <= (9223372036854775807 : Nat)) /\ (0 : Nat) = (0 : Nat) /\ (2 : Nat) <= (100 : Nat)) (.obt (.br (F44 n0 (elV tyR f0) n2 (elV tyT f2) n4 (elV tyF f4) n6 (elV tyC f6) 2 (elV tp1 (bM [vi x8, vi (↑n6 : Int)] 0 1)) != 0) (.ret (V.tup [vi 0, vi (F44 n0 (elV tyR f0) n2 (elV tyT f2) n4 (elV tyF f4) n6 (elV tyC f6) 2 (elV tp1 (bM [vi x8, vi (↑n6 : Int)] 0 1)))])) (.obc (.obt (.br (dK 2 (elV tp1 (bM [vi x9, vi x10] 0 1))) (.ret (V.tup [vi 0, vi 7])) (.obp ((0 : Int) <= x8 /\ x8 < (↑n6 : Int)) (.obt (.ret (V.tup [vi (F46 n2 (elV tyT f2) (elV tyC f6) x8 x9 x10), vi 0]))))))))))
theorem J0 (n0 : Nat) (f0 : FnV) (n2 : Nat) (f2 : FnV) (n4 : Nat) (f4 : FnV) (n6 : Nat) (f6 : FnV) (x8 x9 x10 : Int) : Fit noD (bk JJ pF u0 s15 [scV n0 f0 n2 f2 n4 f4 n6 f6, vi x8, vi x9, vi x10]) (m15 n0 f0 n2 f2 n4 f4 n6 f6 x8 x9 x10) := ⟨by kernel_rfl, by kernel_rfl⟩
def bm (n0 : Nat) (f0 : FnV) (n2 : Nat) (f2 : FnV) (n4 : Nat) (f4 : FnV) (n6 : Nat) (f6 : FnV) (x8 x9 x10 : Int) : Int := bif F44 n0 (elV tyR f0) n2 (elV tyT f2) n4 (elV tyF f4) n6 (elV tyC f6) 2 (elV tp1 (bM [vi x8, vi (↑n6 : Int)] 0 1)) != 0 then 0 else bif dK 2 (elV tp1 (bM [vi x9, vi x10] 0 1)) then 0 else F46 n2 (elV tyT f2) (elV tyC f6) x8 x9 x10
def dS (n0 : Nat) (f0 : FnV) (n2 : Nat) (f2 : FnV) (n4 : Nat) (f4 : FnV) (n6 : Nat) (f6 : FnV) (x8 x9 x10 : Int) : Int := bif F44 n0 (elV tyR f0) n2 (elV tyT f2) n4 (elV tyF f4) n6 (elV tyC f6) 2 (elV tp1 (bM [vi x8, vi (↑n6 : Int)] 0 1)) != 0 then F44 n0 (elV tyR f0) n2 (elV tyT f2) n4 (elV tyF f4) n6 (elV tyC f6) 2 (elV tp1 (bM [vi x8, vi (↑n6 : Int)] 0 1)) else bif dK 2 (elV tp1 (bM [vi x9, vi x10] 0 1)) then 7 else 0
def R15 (n0 : Nat) (f0 : FnV) (n2 : Nat) (f2 : FnV) (n4 : Nat) (f4 : FnV) (n6 : Nat) (f6 : FnV) (x8 x9 x10 : Int) : V := .tup [.int i64 (bm n0 f0 n2 f2 n4 f4 n6 f6 x8 x9 x10), .int i64 (dS n0 f0 n2 f2 n4 f4 n6 f6 x8 x9 x10)]
theorem Mb (n0 : Nat) (f0 : FnV) (n2 : Nat) (f2 : FnV) (n4 : Nat) (f4 : FnV) (n6 : Nat) (f6 : FnV) (x8 x9 x10 : Int) (hp : cY n0 f0 /\ cY n6 f6) : evR noE (m15 n0 f0 n2 f2 n4 f4 n6 f6 x8 x9 x10) (R15 n0 f0 n2 f2 n4 f4 n6 f6 x8 x9 x10) := dT (fun a0 => aO (by first | assumption | ((first | exact ⟨hp, rfl, by decide⟩ | (simp_all [cond_eq_ite] <;> first | omega | exact (jO (by assumption) (by assumption) h0).1 | exact (jO (by assumption) (by assumption) h0).2 | exact eI (by assumption) h0 | exact eI (by assumption) h1 | exact k50 h0 | exact k50 h1 | exact k50 hc.1 | exact eI (by assumption) hc)))) (af (aL (fun h0 => ao (by unfold R15 bm dS; try rw [h0]; rfl)) (fun h0 => ar (af (aL (fun h1 => ao (by unfold R15 bm dS; try rw [h0]; try rw [h1]; rfl)) (fun h1 => aO (by first | assumption | ((first | exact ⟨hp, rfl, by decide⟩ | (simp_all [cond_eq_ite] <;> first | omega | exact (jO (by assumption) (by assumption) h0).1 | exact (jO (by assumption) (by assumption) h0).2 | exact eI (by assumption) h0 | exact eI (by assumption) h1 | exact k50 h0 | exact k50 h1 | exact k50 hc.1 | exact eI (by assumption) hc)))) (af (ao (by unfold R15 bm dS; try rw [h0]; try rw [h1]; rfl))))))))))
def C15 : a7 := mkC [.agg [.sl tyR, .sl tyT, .sl tyF, .sl tyC], .int .i64, .int .i64, .int .i64] (fun
 | [.agg [.sl n0 f0, .sl n2 f2, .sl n4 f4, .sl n6 f6], .int _ x8, .int _ x9, .int _ x10] => cY n0 f0 /\ cY n6 f6
 | _ => False) fun
 | [.agg [.sl n0 f0, .sl n2 f2, .sl n4 f4, .sl n6 f6], .int _ x8, .int _ x9, .int _ x10] => R15 n0 f0 n2 f2 n4 f4 n6 f6 x8 x9 x10
 | _ => .any
theorem Da : (vP C15).Ok Tryz.prog 15 := mkE oM Tryz.func15 (by kernel_rfl) fun ds hp => rf0 (J0 ..) (Mb _ _ _ _ _ _ _ _ _ _ _ hp)
end
end Go.Dx
namespace Go.Dx
open Go.IntKind (i64 u64 u8)
open Go.Sx Go.Proofs
noncomputable section
def Er : bj := (22, .con C22) :: (25, .con C25) :: (15, .con C15) :: pF
theorem GO : be Tryz.prog eqs its Er := .con C7 (.con CO (.con Da (oM)))
end
noncomputable section
def EN : bj := Er
theorem He : be Tryz.prog eqs its EN := GO
end
noncomputable section
def Ek : bj := EN
theorem EX : be Tryz.prog eqs its Ek := He
def u2 : Unr := fun k => bif Nat.beq k 2 then 5 else 0
end
noncomputable section
def Ew : bj := Ek
theorem FQ : be Tryz.prog eqs its Ew := EX
attribute [local irreducible] F44 rE oP
end
end Go.Dx
namespace Go.Dx
open Go.Sx
section
variable {J : Type}
def Cc : V -> ca J -> ca J
 | .bool b, .res (.kb _) => .res (.kb b)
 | r, _ => .res r
theorem B5 (r : V) (a : ca J) : p8 r (Cc r a) := by
 unfold Cc; split <;> rfl
def mH (r : V) : T (ca J) -> T (ca J)
 | .ret a => .ret (Cc r a)
 | .br b x y => match b with
   | true => .br true (mH r x) y
   | false => .br false x (mH r y)
 | .ob _ x => .ob true (mH r x)
 | .obi c d x => match c with
   | true => .obi true true (mH r x)
   | false => .obi false d (mH r x)
 | .obp _ x => .obp True (mH r x)
 | .obq a _ x => .obq a a (mH r x)
 | .fail _ => .ret (.res r)
 | .loop .. => .ret (.res r)
 | .all f => .all fun l => mH r (f l)
 | .und x y => .und (mH r x) (mH r y)
 | .asm p x => .asm p (mH r x)
theorem A0 {LP : dg} (r : V) : ∀ t : T (ca J), sat LP (mH r t) (p8 r) := by
 intro t
 induction t with
 | ret a => exact B5 r a
 | br b x y hx hy =>
   cases b with
   | true => exact ⟨fun _ => hx, (fun e => by cases e)⟩
   | false => exact ⟨(fun e => by cases e), fun _ => hy⟩
 | ob b x hx => exact ⟨rfl, hx⟩
 | obi c d x hx =>
   cases c with
   | true => exact ⟨fun _ => rfl, hx⟩
   | false => exact ⟨(fun e => by cases e), hx⟩
 | obp p x hx => exact ⟨trivial, hx⟩
 | obq a b x hx => exact ⟨rfl, hx⟩
 | fail n => exact (rfl : toA r = toA r)
 | loop fr b e h g k hk => exact (rfl : toA r = toA r)
 | all f hf => exact fun l => hf l
 | und x y hx hy => exact ⟨hx, hy⟩
 | asm p x hx => exact fun _ => hx
theorem ul {ct : bj} {un : Unr} {w0 : World} {sf : aT} {ds : List V} {r : V} (h : mH r (bk J ct un sf ds) = bk J ct un sf ds) : sat (bU w0 (SV ct)) (bk J ct un sf ds) (p8 r) := by
 rw [← h]; exact A0 r _
end
def Fk (ts : List Ty) (pre : List V -> Bool) (r : List V -> V) : a7 := fun ds => cond (pre (kI ts ds)) (some ((gk ts ds [], gi ts ds []), True, r (kI ts ds))) none
theorem DC {P : Program} {f : FuncId} {ts : List Ty} {pre : List V -> Prop} {preB : List V -> Bool} {r : List V -> V} (h : ∀ ds, preB ds = true -> pre ds) (hO : (vP (mkC ts pre r)).Ok P f) : (vP (Fk ts preB r)).Ok P f := by
 refine ⟨fun B m lh w args vs K hrel hargs hsp => ?_, fun _ _ _ _ _ hk ⟨ds, d, p, r, h1, h2, h3, h4, h5⟩ => ⟨ds, d, p, r, h1, h2, h3, h4, hk _ _ h5⟩, fun _ _ _ _ ⟨_, _, _, _, _, _, _, _, h⟩ => h⟩
 refine hO.sound B m lh w args vs K hrel hargs ?_
 obtain ⟨ds, d, p, r', h1, h2, ⟨h30, h3⟩, h4, h5⟩ := hsp
 unfold Fk at h2
 cases hb : preB (kI ts ds) with
 | false => rw [hb] at h2; cases h2
 | true =>
   rw [hb] at h2
   simp only [cond_true, Option.some.injEq, Prod.mk.injEq] at h2
   obtain ⟨rfl, rfl, rfl⟩ := h2
   exact ⟨ds, _, _, _, h1, rfl, ⟨h30, h _ hb⟩, h4, h5⟩
def eqL (p : V -> V -> Bool) : List V -> List V -> Bool
 | [], [] => true
 | v :: vs, x :: xs => p v x && eqL p vs xs
 | _, _ => false
def eqD : Nat -> V -> V -> Bool
 | 0, _, _ => false
 | fu + 1, v, x => match v, x with
   | .int k a, .int k' b => decide (k = k') && decide (a = b)
   | .bool a, .bool b => a == b
   | .kb a, .bool b => a == b
   | .str a, .str b => decide (a.data.toList = b.data.toList)
   | .agg xs, .agg ys => eqL (eqD fu) xs ys
   | .sl n f, .sl m g => Nat.beq n m && fO n fun i => eqL (eqD fu) (f i) (g i) && (g i).all V.fc
   | .sq n _ f, .sl m g => Nat.beq n m && fO n fun i => eqL (eqD fu) (f i) (g i) && (g i).all V.fc
   | _, _ => false
theorem oQ {w0 : World} {lh : List ae} {p : V -> V -> Bool} (hp : ∀ v x a, p v x = true -> vr w0 lh Nu.nil v a -> vr w0 lh Nu.nil x a) : ∀ (vs xs : List V) (qs : List ab), eqL p vs xs = true -> vrs w0 lh Nu.nil vs qs -> vrs w0 lh Nu.nil xs qs
 | [], [], qs, _, h => h
 | v :: vs, x :: xs, qs, h, h1 => by
   simp only [eqL, Bool.and_eq_true] at h
   simp only [vrs] at h1 ⊢
   obtain ⟨y, ys, rfl, h2, h3⟩ := h1
   exact ⟨y, ys, rfl, hp _ _ _ h.1 h2, oQ hp vs xs ys h.2 h3⟩
 | [], _ :: _, _, h, _ => by simp [eqL] at h
 | _ :: _, [], _, h, _ => by simp [eqL] at h
theorem tn {w0 : World} {lh : List ae} : ∀ (fu : Nat) (v x : V) (a : ab), eqD fu v x = true -> vr w0 lh Nu.nil v a -> vr w0 lh Nu.nil x a
 | 0, v, x, a, h, _ => by simp [eqD] at h
 | fu + 1, v, x, a, h, hv => by
   simp only [eqD] at h
   split at h
   ·simp only [Bool.and_eq_true, decide_eq_true_eq] at h; obtain ⟨rfl, rfl⟩ := h; exact hv
   ·have := eq_of_beq h; subst this; exact hv
   ·have := eq_of_beq h; subst this; simp only [vr] at hv ⊢; exact hv
   ·rename_i s t
    have h0 := of_decide_eq_true h
    have : s = t := by
     cases s with | mk d =>
     cases t with | mk e =>
     have : d = e := Array.toList_inj.1 h0
     rw [this]
    subst this; exact hv
   ·simp only [vr] at hv ⊢
    obtain ⟨qs, rfl, h2⟩ := hv
    exact ⟨qs, rfl, oQ (fun v x a => tn fu v x a) _ _ _ h h2⟩
   ·simp only [Bool.and_eq_true] at h
    have hn := Nat.eq_of_beq_eq_true h.1
    subst hn
    simp only [vr] at hv ⊢
    obtain ⟨p, c, esz, h1, h2, h3, h4, h5⟩ := hv
    refine ⟨p, c, esz, h1, h2, h3, h4, fun i hi => ?_⟩
    obtain ⟨q, qs, g1, g2, g3, g4⟩ := h5 i hi
    have hh := dJ h.2 i hi
    simp only [Bool.and_eq_true] at hh
    exact ⟨q, qs, g1, g2, oQ (fun v x a => tn fu v x a) _ _ _ hh.1 g3, hh.2⟩
   ·simp only [Bool.and_eq_true] at h
    have hn := Nat.eq_of_beq_eq_true h.1
    subst hn
    simp only [vr] at hv ⊢
    obtain ⟨p, c, esz, h1, h2, h3, h4, h5⟩ := hv
    refine ⟨p, c, esz, h1, h2.1, h3, h4, fun i hi => ?_⟩
    obtain ⟨q, qs, g1, g2, g3, g4⟩ := h5 i hi
    have hh := dJ h.2 i hi
    simp only [Bool.and_eq_true] at hh
    exact ⟨q, qs, g1, g2, oQ (fun v x a => tn fu v x a) _ _ _ hh.1 g3, hh.2⟩
   ·cases h
def atC : List (List V × V) -> a7
 | [], _ => none
 | (ex, r) :: l, ds => cond (eqL (eqD 8) ds ex) (some (([], []), True, r)) (atC l ds)
theorem sn {P : Program} {f : FuncId} {C : a7} (hO : (vP C).Ok P f) : ∀ (l : List (List V × V)), (∀ e ∈ l, ∃ d p, C e.1 = some (d, p, e.2) /\ d.1 = d.2 /\ p) -> (vP (atC l)).Ok P f := by
 intro l hl
 refine ⟨fun B m lh w args vs K hrel hargs hsp => ?_, fun _ _ _ _ _ hk ⟨ds, d, p, r, h1, h2, h3, h4, h5⟩ => ⟨ds, d, p, r, h1, h2, h3, h4, hk _ _ h5⟩, fun _ _ _ _ ⟨_, _, _, _, _, _, _, _, h⟩ => h⟩
 refine hO.sound B m lh w args vs K hrel hargs ?_
 obtain ⟨ds, d, p, r', h1, h2, _, h4, h5⟩ := hsp
 induction l with
 | nil => simp [atC] at h2
 | cons e l ih =>
   simp only [atC] at h2
   cases hb : eqL (eqD 8) ds e.1 with
   | true =>
     rw [hb] at h2
     simp only [cond_true, Option.some.injEq, Prod.mk.injEq] at h2
     obtain ⟨_, _, rfl⟩ := h2
     obtain ⟨d', p', e1, e2, e3⟩ := hl e (List.mem_cons_self ..)
     exact ⟨e.1, d', p', _, oQ (fun v x a => tn 8 v x a) _ _ _ hb h1, e1, ⟨e2, e3⟩, h4, h5⟩
   | false =>
     rw [hb] at h2
     exact ih (fun e he => hl e (List.mem_cons_of_mem _ he)) h2
end Go.Dx
namespace Go.Dx
open Go.Sx
theorem at1 {ts : List Ty} {pre : List V -> Prop} {r : List V -> V} {raw : List V} {res : V} (hp : pre (kI ts (ap ts raw))) (hr : r (kI ts (ap ts raw)) = res) : ∃ d p, mkC ts pre r (ap ts raw) = some (d, p, res) /\ d.1 = d.2 /\ p :=
 ⟨_, _, by rw [mkC, hr], dH ts raw [], hp⟩
theorem Ee {α : Type} {a : α} {l : List α} {Q : α -> Prop} (h : Q a) (hl : ∀ e ∈ l, Q e) : ∀ e ∈ a :: l, Q e := fun e he => by
 rcases List.mem_cons.1 he with rfl | he
 ·exact h
 ·exact hl e he
theorem DN {α : Type} {Q : α -> Prop} : ∀ e ∈ ([] : List α), Q e := fun e he => by cases he
end Go.Dx
namespace Go.Dx
open Go.IntKind (i64 u64 u8)
open Go.Sx Go.Proofs
noncomputable section
def EP : bj := Ew
theorem Gp : be Tryz.prog eqs its EP := FQ
def uB : Unr := fun _ => 1000
def szB (n : Nat) (f : Nat -> List V) : Bool := fO n fun i => Nat.ble (sv (hdV (f i))).size 9223372036854775807
theorem j4 {n : Nat} {f : Nat -> List V} (h : szB n f = true) : cY n f := fun i hi => Nat.le_of_ble_eq_true (dJ h i hi)
def LX : ByteArray := ⟨#[104, 105, 103, 104]⟩
def Me : ByteArray := ⟨#[122, 101, 98, 114, 97]⟩
def LZ : ByteArray := ⟨#[99, 49]⟩
def exR : Nat -> List V
 | 0 => [.str LX, vi 0, .sl 3 (fun | 0 => [vi 0, vi 0] | 1 => [vi 10000, vi 0] | _ => [vi 10000, vi 10000]), vi 4000]
 | _ => [.str Me, vi 3, .sl 2 (fun | 0 => [vi 5000, vi (-2000)] | _ => [vi 5000, vi 2000]), vi 3000]
def exT : Nat -> List V := fun _ => [vi 4000, vi 3000, vi 1000, vi 20, vi 40]
def exF : Nat -> List V := fun _ => [vi 10000, vi 5000, vi 0, vi 5000, .sl 1 fun _ => [vi 250, vi 750, vi 10, vi 30]]
def exK : Nat -> List V := fun _ => [.str LZ, vi 4000, vi 4000, vi 60, vi 0, vi (-1)]
def exS : V := .agg [.sl 2 exR, .sl 1 exT, .sl 1 exF, .sl 1 exK]
def Iq : List Ty := [.agg [.sl tyR, .sl tyT, .sl tyF, .sl tyC], .sl tp1]
def Jo : a7 := atC [(ap Iq [exS, .sl 2 (fun | 0 => [vi 0] | _ => [vi 1])], vi 0)]
theorem Hn : (vP Jo).Ok Tryz.prog 44 := sn Ay _ (Ee (at1 (ts := Iq) (raw := [exS, .sl 2 (fun | 0 => [vi 0] | _ => [vi 1])]) (⟨⟨j4 (by kernel_rfl), j4 (by kernel_rfl)⟩, rfl, by decide⟩) (by kernel_rfl)) (DN))
def IF : List Ty := [.agg [.sl tyR, .sl tyT, .sl tyF, .sl tyC]]
def I1 : a7 := atC [(ap IF [.agg [.sl 0 exR, .sl 1 (fun _ => [vi 0, vi 0, vi 0, vi 0, vi 0]), .sl 0 exF, .sl 0 exK]], .tup [vi 2, vi 0, vi 7])]
theorem Jx : (vP I1).Ok Tryz.prog 23 := sn Bd _ (Ee (at1 (ts := IF) (raw := [.agg [.sl 0 exR, .sl 1 (fun _ => [vi 0, vi 0, vi 0, vi 0, vi 0]), .sl 0 exF, .sl 0 exK]]) (⟨j4 (by kernel_rfl), j4 (by kernel_rfl)⟩) (by kernel_rfl)) (DN))
def Hk : List Ty := [.agg [.sl tyR, .sl tyT, .sl tyF, .sl tyC], .int .i64, .agg tp4]
def Iv : a7 := atC [(ap Hk [exS, vi 0, .agg [vi 8500, vi (-1500), vi 11500, vi 1500]], .tup [vi 1, vi 0])]
theorem HN : (vP Iv).Ok Tryz.prog 22 := sn C7 _ (Ee (at1 (ts := Hk) (raw := [exS, vi 0, .agg [vi 8500, vi (-1500), vi 11500, vi 1500]]) (⟨j4 (by kernel_rfl), j4 (by kernel_rfl)⟩) (by kernel_rfl)) (DN))
def Ji : List Ty := [.agg [.sl tyR, .sl tyT, .sl tyF, .sl tyC], .int .i64, .int .i64, .int .i64]
def Iy : a7 := atC [(ap Ji [exS, vi 0, vi 4000, vi 5000], .tup [vi (-1), vi 0])]
theorem JI : (vP Iy).Ok Tryz.prog 15 := sn Da _ (Ee (at1 (ts := Ji) (raw := [exS, vi 0, vi 4000, vi 5000]) (⟨j4 (by kernel_rfl), j4 (by kernel_rfl)⟩) (by kernel_rfl)) (DN))
end
noncomputable section
def Bt : bj := [(44, .con Jo), (23, .con I1), (22, .con Iv), (15, .con Iy), (25, .con C25), (55, .con C55), (61, .con C61), (74, .con C74), (108, .con Bi), (46, .con C46), (111, .con zd), (56, .con C56), (47, .con C47), (145, .con Ac), (140, .con Ah), (49, .con C49), (123, .con z8), (62, .con C62), (68, .con C68), (63, .con C63), (69, .con C69), (117, .inl Bw u0), (116, .inl BY u0), (115, .con zr), (114, .con zU), (147, .con yQ), (64, .con C64), (66, .con C66), (113, .con v7), (65, .con C65), (67, .con C67), (53, .con C53), (45, .con C45), (90, .con C90), (119, .con wj), (121, .con wm), (99, .con C99), (129, .con vw), (148, .con wT), (149, .con vJ), (112, .con wI), (118, .con wz), (120, .con vZ), (133, .con wZ), (103, .con vY), (100, .con wA), (134, .con ww), (135, .con wH), (78, .con C78), (54, .con C54), (48, .con C48), (102, .con wC), (84, .con C84), (85, .con C85), (127, .con wQ), (101, .con wp), (86, .con C86), (162, .con wo), (146, .con wS), (83, .inl s83 u0), (19, .inl s19 uB), (17, .inl s17 uB), (43, .inl s43 uB), (57, .inl s57 uB), (109, .inl I9 uB), (139, .inl Hs uB), (163, .inl H8 uB), (177, .inl JY uB), (141, .inl IU uB), (142, .inl Jy uB), (143, .inl JF uB), (131, .inl Gl uB), (161, .inl I8 uB)]
theorem Gb : be Tryz.prog eqs its Bt := .con Hn (.con Jx (.con HN (.con JI (.con CO (.con C3 (.con C4 (.con CZ (.con xI (.con Ec (.con ue (.con BN (.con CG (.con um (.con tS (.con Bh (.con va (.con Ap (.con Bn (.con Cn (.con AP (.inl Tryz.func117 (by kernel_rfl) (by kernel_rfl) (by kernel_rfl) (.inl Tryz.func116 (by kernel_rfl) (by kernel_rfl) (by kernel_rfl) (.con uU (.con uo (.con uz (.con Cz (.con CB (.con qQ (.con y9 (.con yN (.con z7 (.con zt (.con yZ (.con r0 (.con rU (.con zS (.con qZ (.con rC (.con qP (.con rP (.con rh (.con qW (.con rY (.con q9 (.con r6 (.con rJ (.con qK (.con zu (.con zb (.con zB (.con rD (.con zq (.con zp (.con rL (.con rp (.con zw (.con ra (.con uk (.inl Tryz.func83 (by kernel_rfl) (by kernel_rfl) (by kernel_rfl) (.inl Tryz.func19 (by kernel_rfl) (by kernel_rfl) (by kernel_rfl) (.inl Tryz.func17 (by kernel_rfl) (by kernel_rfl) (by kernel_rfl) (.inl Tryz.func43 (by kernel_rfl) (by kernel_rfl) (by kernel_rfl) (.inl Tryz.func57 (by kernel_rfl) (by kernel_rfl) (by kernel_rfl) (.inl Tryz.func109 (by kernel_rfl) (by kernel_rfl) (by kernel_rfl) (.inl Tryz.func139 (by kernel_rfl) (by kernel_rfl) (by kernel_rfl) (.inl Tryz.func163 (by kernel_rfl) (by kernel_rfl) (by kernel_rfl) (.inl Tryz.func177 (by kernel_rfl) (by kernel_rfl) (by kernel_rfl) (.inl Tryz.func141 (by kernel_rfl) (by kernel_rfl) (by kernel_rfl) (.inl Tryz.func142 (by kernel_rfl) (by kernel_rfl) (by kernel_rfl) (.inl Tryz.func143 (by kernel_rfl) (by kernel_rfl) (by kernel_rfl) (.inl Tryz.func131 (by kernel_rfl) (by kernel_rfl) (by kernel_rfl) (.inl Tryz.func161 (by kernel_rfl) (by kernel_rfl) (by kernel_rfl) (.nil)))))))))))))))))))))))))))))))))))))))))))))))))))))))))))))))))))))))))
theorem Ht (w0 : World) : sat (bU w0 (SV Bt)) (bk (JJ) Bt uB s19 []) (p8 (.bool true)) := ul (by kernel_rfl)
def C19 : a7 := mkC [] (fun _ => True) fun _ => .bool true
theorem Dz : (vP C19).Ok Tryz.prog 19 := Bk (J := JJ) (un := uB) Gb hE hI Tryz.func19 (by kernel_rfl) (by kernel_rfl) (by kernel_rfl) rfl (fun w0 ds hp => Ht w0)
end
end Go.Dx
namespace Go.Dx
open Go.IntKind (i64 u64 u8)
open Go.Sx
noncomputable section
theorem xg {x : Int} (h1 : 0 <= x) (h2 : x < 18446744073709551616) : u64.wrap x = x := IntWalk.u64_in _ (by omega)
theorem kq {x y A B : Int} (h1 : -A <= x) (h2 : x <= A) (h3 : -B <= y) (h4 : y <= B) : -(A * B) <= x * y /\ x * y <= A * B := by
 have hA : 0 <= A := by omega
 have hB : 0 <= B := by omega
 by_cases hy : 0 <= y
 ·have a1 : x * y <= A * y := Int.mul_le_mul_of_nonneg_right h2 hy
  have a2 : A * y <= A * B := iml h4 hA
  have a3 : -A * y <= x * y := Int.mul_le_mul_of_nonneg_right h1 hy
  rw [Int.neg_mul] at a3
  exact ⟨by omega, by omega⟩
 ·have hy' : 0 <= -y := by omega
  have a1 : x * (-y) <= A * (-y) := Int.mul_le_mul_of_nonneg_right h2 hy'
  have a2 : A * (-y) <= A * B := iml (by omega) hA
  have a3 : -A * (-y) <= x * (-y) := Int.mul_le_mul_of_nonneg_right h1 hy'
  have b1 : x * (-y) = -(x * y) := Int.mul_neg _ _
  have b3 : -A * (-y) = -(A * (-y)) := Int.neg_mul _ _
  exact ⟨by omega, by omega⟩
theorem sqN (x : Int) : 0 <= x * x := by
 by_cases h : 0 <= x
 ·exact imn h h
 ·rw [← Int.neg_mul_neg]; exact imn (by omega) (by omega)
theorem parts {x : Int} (h0 : 0 <= x) (h1 : x < 18446744073709551616) : 0 <= x / 4294967296 /\ x / 4294967296 <= 4294967295 /\ 0 <= x % 4294967296 /\ x % 4294967296 <= 4294967295 := by omega
theorem JT {x y : Int} (hx0 : 0 <= x) (hx : x < 18446744073709551616) (hy0 : 0 <= y) (hy : y < 18446744073709551616) : m5 x y = x * y / 18446744073709551616 := by
 rw [← mul64_arith x y hx0 hx hy0 hy]
 unfold m5
 simp only [and_low32 _ hx0 hx, and_low32 _ hy0 hy, IntKind.wrap_u64]
 rw [and_low32 _ (by omega) (by omega)]
 simp only [show (2 : Int) ^ 32 = 4294967296 from rfl]
 rw [Int.fdiv_eq_ediv_of_nonneg _ (by omega), Int.fdiv_eq_ediv_of_nonneg _ (by omega), Int.fdiv_eq_ediv_of_nonneg _ (by omega), Int.fdiv_eq_ediv_of_nonneg _ (by omega), Int.fdiv_eq_ediv_of_nonneg _ (by omega)]
theorem I2 (x y : Int) : nm x y = x * y % 18446744073709551616 := by unfold nm; rw [IntKind.wrap_u64]
theorem Ao {x y z w : Int} (hx0 : 0 <= x) (hx : x < 9223372036854775808) (hy0 : 0 <= y) (hy : y < 9223372036854775808) (hz0 : 0 <= z) (hz : z < 9223372036854775808) (hw0 : 0 <= w) (hw : w < 9223372036854775808) :
 mT (jG x y) (jl x y) (jG z w) (jl z w) = decide (x * y <= z * w) := by
 unfold jG jl mT
 rw [xg hx0 (by omega), xg hy0 (by omega), xg hz0 (by omega), xg hw0 (by omega)]
 rw [JT hx0 (by omega) hy0 (by omega), JT hz0 (by omega) hw0 (by omega), I2, I2]
 generalize x * y = a
 generalize z * w = b
 rw [Bool.eq_iff_iff]
 simp only [Bool.cond_eq_ite, Bool.and_true, Bool.and_eq_true, beq_iff_eq, decide_eq_true_eq]
 split <;> (try split) <;> (try split) <;> simp_all <;> omega
def nr (ax ay bx by' px py r : Int) : Bool :=
 bif decide ((px - ax) * (bx - ax) + (py - ay) * (by' - ay) <= 0) then decide ((px - ax) * (px - ax) + (py - ay) * (py - ay) <= r * r)
 else bif decide ((bx - ax) * (bx - ax) + (by' - ay) * (by' - ay) <= (px - ax) * (bx - ax) + (py - ay) * (by' - ay)) then decide ((px - bx) * (px - bx) + (py - by') * (py - by') <= r * r)
 else decide (((bx - ax) * (py - ay) - (by' - ay) * (px - ax)) * ((bx - ax) * (py - ay) - (by' - ay) * (px - ax)) <= r * r * ((bx - ax) * (bx - ax) + (by' - ay) * (by' - ay)))
def sm (x : Int) : Prop := -536870912 <= x /\ x <= 536870912
theorem FM (c : Int) : max c (0 - c) * max c (0 - c) = c * c := by
 by_cases h : 0 <= c
 ·rw [show max c (0 - c) = c from by omega]
 ·rw [show max c (0 - c) = -c from by omega, Int.neg_mul_neg]
section
variable {ax ay bx by' px py r : Int}
theorem v8 (h1 : sm ax) (h2 : sm ay) (h3 : sm bx) (h4 : sm by') (h5 : sm px) (h6 : sm py) (h7 : 0 <= r) (h8 : r <= 1073741824) : eu ax ay bx by' px py r = nr ax ay bx by' px py r := by
 unfold sm at *
 unfold eu nr aG aH
 rw [aA (x := bx - ax) (by omega) (by omega), aA (x := by' - ay) (by omega) (by omega), aA (x := px - ax) (by omega) (by omega), aA (x := py - ay) (by omega) (by omega), aA (x := px - bx) (by omega) (by omega), aA (x := py - by') (by omega) (by omega)]
 have e1 : -1073741824 <= bx - ax /\ bx - ax <= 1073741824 := by omega
 have e2 : -1073741824 <= by' - ay /\ by' - ay <= 1073741824 := by omega
 have e3 : -1073741824 <= px - ax /\ px - ax <= 1073741824 := by omega
 have e4 : -1073741824 <= py - ay /\ py - ay <= 1073741824 := by omega
 have e5 : -1073741824 <= px - bx /\ px - bx <= 1073741824 := by omega
 have e6 : -1073741824 <= py - by' /\ py - by' <= 1073741824 := by omega
 generalize bx - ax = dx at *
 generalize by' - ay = dy at *
 generalize px - ax = ux at *
 generalize py - ay = uy at *
 generalize px - bx = vx at *
 generalize py - by' = vy at *
 have k : ∀ a b c d : Int, (-1073741824 <= a /\ a <= 1073741824) -> (-1073741824 <= b /\ b <= 1073741824) -> (-1073741824 <= c /\ c <= 1073741824) -> (-1073741824 <= d /\ d <= 1073741824) -> dm a b c d = a * c + b * d /\ -2305843009213693952 <= a * c + b * d /\ a * c + b * d <= 2305843009213693952 := by
  intro a b c d ha hb hc hd
  have m1 := kq ha.1 ha.2 hc.1 hc.2
  have m2 := kq hb.1 hb.2 hd.1 hd.2
  unfold dm
  rw [aA (x := a * c) (by omega) (by omega), aA (x := b * d) (by omega) (by omega), aA (by omega) (by omega)]
  exact ⟨rfl, by omega, by omega⟩
 have hr := kq (x := r) (y := r) (A := 1073741824) (B := 1073741824) (by omega) h8 (by omega) h8
 have hr0 : 0 <= r * r := imn h7 h7
 have s1 : 0 <= dx * dx := sqN dx
 have s2 : 0 <= dy * dy := sqN dy
 rw [(k ux uy dx dy e3 e4 e1 e2).1, (k ux uy ux uy e3 e4 e3 e4).1, (k dx dy dx dy e1 e2 e1 e2).1, (k vx vy vx vy e5 e6 e5 e6).1, aA (x := r * r) (by omega) (by omega)]
 have c1 := kq e1.1 e1.2 e4.1 e4.2
 have c2 := kq e2.1 e2.2 e3.1 e3.2
 have d1 := kq e1.1 e1.2 e1.1 e1.2
 have d2 := kq e2.1 e2.2 e2.1 e2.2
 rw [show bY dx dy ux uy = dx * uy - dy * ux from by
  unfold bY
  rw [aA (x := dx * uy) (by omega) (by omega), aA (x := dy * ux) (by omega) (by omega), aA (by omega) (by omega)]]
 rw [aA (x := 0 - (dx * uy - dy * ux)) (by omega) (by omega)]
 rw [Ao (by omega) (by omega) (by omega) (by omega) hr0 (by omega) (by omega) (by omega), FM]
end
end
end Go.Dx
namespace Go.Dx
open Go.IntKind (i64 u64 u8)
def sd (ax ay bx b2 px py : Int) : Int := (bx - ax) * (py - ay) - (b2 - ay) * (px - ax)
section
variable {ax ay bx b2 X0 Y0 X1 Y1 : Int}
def Bx (ax ay bx b2 X0 Y0 X1 Y1 : Int) : Prop := ¬ (max ax bx < X0 ∨ X1 < min ax bx ∨ max ay b2 < Y0 ∨ Y1 < min ay b2)
end
end Go.Dx
namespace Go.Dx
open Go.IntKind (i64 u64 u8)
open Go.Sx
noncomputable section
theorem mF (a l h : Int) : eK a l h = !aP a l h := by
 unfold eK aP
 by_cases h1 : a < l
 ·rw [dqt h1, dqf (show ¬ l <= a by omega)]; rfl
 ·rw [dqf h1, dqt (show l <= a by omega)]
  by_cases h2 : h < a
  ·rw [dqt h2, cond_false, cond_true]; exact dqf (by omega)
  ·rw [dqf h2, cond_false, cond_true]; exact dqt (by omega)
theorem rT {n : Nat} {p q : Nat -> Bool} (h : ∀ i, i < n -> p i = q i) : exB n p = exB n q := by
 cases hq : exB n q with
 | true =>
   obtain ⟨i, hi, hp⟩ := kz.1 hq
   exact bN i hi (by rw [h i hi]; exact hp)
 | false =>
   refine eg fun i hi => ?_
   rw [h i hi]
   cases hp : q i with
   | false => rfl
   | true => rw [bN i hi hp] at hq; cases hq
theorem ck (n : Nat) (f : Nat -> List V) : dK n f = !F51 n f := by
 unfold dK vj yT
 rw [kw]
 unfold exB F51
 congr 1
 congr 1
 funext i
 rw [mF]; rfl
theorem DB (s : ByteArray) : ∀ (k i : Nat) (r : List UInt8), s.size - i = k -> (ByteArray.toList.loop s i r).length = r.length + k := by
 intro k
 induction k with
 | zero =>
   intro i r h
   rw [ByteArray.toList.loop]
   have : ¬ i < s.size := by omega
   simp [this]
 | succ k ih =>
   intro i r h
   rw [ByteArray.toList.loop]
   have : i < s.size := by omega
   simp only [this, if_true]
   rw [ih (i + 1) _ (by omega)]
   simp; omega
theorem xE (s : ByteArray) : (s.toList == (⟨#[]⟩ : ByteArray).toList) = decide (s.size = 0) := by
 have e : (⟨#[]⟩ : ByteArray).toList = [] := by decide +kernel
 rw [e]
 have hl : s.toList.length = s.size := by
  unfold ByteArray.toList; rw [DB s s.size 0 [] (by omega)]; simp
 by_cases h : s.size = 0
 ·rw [dqt h]
  have : s.toList = [] := List.eq_nil_of_length_eq_zero (by omega)
  rw [this]; rfl
 ·rw [dqf h]
  cases hs : s.toList with
  | nil => rw [hs] at hl; simp at hl; omega
  | cons a l => rfl
theorem iz {α : Type} {p : α -> Bool} : ∀ {l : List α}, l.dropWhile p = [] ↔ ∀ x ∈ l, p x = true
 | [] => by simp
 | a :: l => by
   rw [List.dropWhile_cons]
   cases h : p a with
   | true => simp only [if_true]; rw [iz]; simp [h]
   | false => simp [h]
theorem Ax (l cs : List UInt8) : Lib.trimS l cs = [] ↔ ∀ b ∈ l, cs.contains b = true := by
 unfold Lib.trimS Lib.trimLeftS Lib.trimRightS
 rw [iz]
 constructor
 ·intro h
  have h1 : l.reverse.dropWhile (cs.contains ·) = [] := by
   cases hd : l.reverse.dropWhile (cs.contains ·) with
   | nil => rfl
   | cons a r =>
     have ha : cs.contains a = true := h a (by rw [hd]; simp)
     have hh := List.head_dropWhile_not (cs.contains ·) (l := l.reverse) (by rw [hd]; simp)
     simp only [hd, List.head_cons] at hh
     rw [ha] at hh; cases hh
  rw [iz] at h1
  exact fun b hb => h1 b (by simpa using hb)
 ·intro h b hb
  have : b ∈ l.reverse := by
   have := List.mem_reverse.1 hb
   exact (List.dropWhile_sublist _).subset this
  exact h b (by simpa using this)
def nmB (b : Nat) : Bool := (decide (97 <= b) && decide (b <= 122)) || ((decide (48 <= b) && decide (b <= 57)) || decide (b = 45))
theorem rl (b : UInt8) : ([97, 98, 99, 100, 101, 102, 103, 104, 105, 106, 107, 108, 109, 110, 111, 112, 113, 114, 115, 116, 117, 118, 119, 120, 121, 122, 48, 49, 50, 51, 52, 53, 54, 55, 56, 57, 45] : List UInt8).contains b = nmB b.toNat := by
 have key : ∀ n : Fin 256, ([97, 98, 99, 100, 101, 102, 103, 104, 105, 106, 107, 108, 109, 110, 111, 112, 113, 114, 115, 116, 117, 118, 119, 120, 121, 122, 48, 49, 50, 51, 52, 53, 54, 55, 56, 57, 45] : List UInt8).contains (UInt8.ofNat n.val) = nmB n.val := by decide +kernel
 have := key ⟨b.toNat, b.toNat_lt⟩
 simpa using this
theorem xt {l : List UInt8} {i : Nat} (h : i < l.length) : l.getD i 0 = l[i] := by simp [List.getD, h]
theorem sr (s : ByteArray) (i : Nat) : (!De s i) = (nmB (s.data.toList.getD i 0).toNat && (decide (0 < i) || (decide (97 <= (s.data.toList.getD i 0).toNat) && decide ((s.data.toList.getD i 0).toNat <= 122)))) := by
 unfold De nmB
 generalize (s.data.toList.getD i 0).toNat = b
 rw [Bool.eq_iff_iff]
 simp only [Bool.cond_eq_ite, Bool.not_eq_true', Bool.and_eq_true, Bool.or_eq_true, decide_eq_true_eq]
 split <;> split <;> (try split) <;> simp_all <;> omega
theorem xi (s : ByteArray) : jY s = y7 s := by
 unfold jY y7
 rw [xE]
 have hsz : s.size = s.data.toList.length := by rw [Array.length_toList]; rfl
 by_cases h0 : s.size = 0
 ·rw [dqt h0, h0]; rfl
 rw [dqf h0]
 have e0 : decide (0 < (s.size : Int)) = true := dqt (by omega)
 rw [e0]
 by_cases h24 : (s.size : Int) <= 24
 case neg => rw [dqf h24]; simp
 rw [dqt h24]
 simp only [Bool.not_false, cond_true, Bool.and_true]
 rw [xE]
 rw [Bool.eq_iff_iff]
 have ht : (qD s (ByteArray.mk (Array.mk [97, 98, 99, 100, 101, 102, 103, 104, 105, 106, 107, 108, 109, 110, 111, 112, 113, 114, 115, 116, 117, 118, 119, 120, 121, 122, 48, 49, 50, 51, 52, 53, 54, 55, 56, 57, 45]))).size = 0 ↔ ∀ b ∈ s.data.toList, nmB b.toNat = true := by
  rw [show (qD s (ByteArray.mk (Array.mk [97, 98, 99, 100, 101, 102, 103, 104, 105, 106, 107, 108, 109, 110, 111, 112, 113, 114, 115, 116, 117, 118, 119, 120, 121, 122, 48, 49, 50, 51, 52, 53, 54, 55, 56, 57, 45]))).size = (Lib.trimS s.data.toList [97, 98, 99, 100, 101, 102, 103, 104, 105, 106, 107, 108, 109, 110, 111, 112, 113, 114, 115, 116, 117, 118, 119, 120, 121, 122, 48, 49, 50, 51, 52, 53, 54, 55, 56, 57, 45]).length from by simp [qD, ByteArray.size]]
  rw [List.length_eq_zero_iff, Ax]
  constructor
  ·intro h b hb; rw [← rl]; exact h b hb
  ·intro h b hb; rw [rl]; exact h b hb
 have hb : fO s.size (fun i => !De s i) = true ↔ (∀ b ∈ s.data.toList, nmB b.toNat = true) /\ 97 <= (s.data.toList.getD 0 0).toNat /\ (s.data.toList.getD 0 0).toNat <= 122 := by
  rw [yL]
  constructor
  ·intro h
   refine ⟨fun b hb => ?_, ?_⟩
   ·obtain ⟨i, hi, rfl⟩ := List.getElem_of_mem hb
    have := h i (by omega)
    rw [sr, Bool.and_eq_true] at this
    rw [xt hi] at this
    exact this.1
   ·have := h 0 (by omega)
    rw [sr] at this
    simp only [Bool.and_eq_true, Bool.or_eq_true, decide_eq_true_eq] at this
    rcases this.2 with h1 | h1
    ·omega
    ·exact h1
  ·rintro ⟨h1, h2, h3⟩ i hi
   rw [sr]
   have hi' : i < s.data.toList.length := by omega
   rw [h1 _ (by rw [xt hi']; exact List.getElem_mem hi')]
   by_cases hz : i = 0
   ·subst hz; rw [dqt h2, dqt h3]; rfl
   ·simp; omega
 rw [hb, ← ht]
 cases hd : decide ((qD s (ByteArray.mk (Array.mk [97, 98, 99, 100, 101, 102, 103, 104, 105, 106, 107, 108, 109, 110, 111, 112, 113, 114, 115, 116, 117, 118, 119, 120, 121, 122, 48, 49, 50, 51, 52, 53, 54, 55, 56, 57, 45]))).size = 0) with
 | false =>
   have := of_decide_eq_false hd
   simp [this]
 | true =>
   have := of_decide_eq_true hd
   simp only [cond_true, this, true_and]
   rw [show s.data.1.getD 0 0 = s.data.toList.getD 0 0 from rfl]
   generalize (s.data.toList.getD 0 0).toNat = b
   by_cases g : 97 <= b
   ·rw [dqt (show (97 : Int) <= (b : Int) by omega)]
    simp only [cond_true, decide_eq_true_eq]; omega
   ·rw [dqf (show ¬ (97 : Int) <= (b : Int) by omega)]
    simp; omega
end
noncomputable section
theorem DE (x y : Int) : mN x y = !fx x y := by unfold mN fx; exact ck _ _
theorem EZ (n : Nat) (f : Nat -> List V) (s : ByteArray) : nY n f s = exB n fun k => (sv (hdV (f k))).toList == s.toList := by
 unfold nY yY; rw [kw]; rfl
theorem Dv (n : Nat) (f : Nat -> List V) (s : ByteArray) : nk n f s = exB n fun k => (sv (hdV (f k))).toList == s.toList := by
 unfold nk zN; rw [kw]; rfl
theorem GP (n : Nat) (f : Nat -> List V) : gO n f = exB n fun i => !fx (jv0 (f i)) (jv1 (f i)) := by
 unfold gO zP; rw [kw]; exact rT fun i _ => DE _ _
theorem xY (n0 : Nat) (f0 : FnV) (i : Nat) : c62 n0 (elV tyR f0) i = cR n0 f0 i := by
 unfold c62 cR F63 F70 yp
 rw [xi, EZ, GP]
 simp only [Int.toNat_natCast, Nat.sub_zero, Nat.zero_add, mF, Bool.not_not]
 rfl
theorem yh (n2 : Nat) (f2 : FnV) (i : Nat) : c64 n2 (elV tyT f2) i = cT f2 i := by
 show kp (jv0 (f2 i)) (jv1 (f2 i)) (jv2 (f2 i)) (jv3 (f2 i)) (jv4 (f2 i)) = _
 unfold cT kp yt
 rw [ck]
 show (bif !!fx _ _ then _ else _) = _
 generalize fx _ _ = p
 generalize jv2 (f2 i) = a
 generalize jv3 (f2 i) = z
 generalize jv4 (f2 i) = w
 cases p
 ·rfl
 ·simp only [Bool.not_true, Bool.not_false, cond_true]
  rw [mF]
  cases ha : aP a 1 20000
  ·simp only [Bool.not_false, Bool.not_true, cond_true, cond_false]
   by_cases hw : 1 <= w /\ w <= 1000
   ·have e : aP w 1 1000 = false := by unfold aP; rw [dqf (by omega), cond_false]; exact dqf (by omega)
    rw [e, aA (by omega) (by omega)]
    unfold aP
    by_cases hz : z < 0
    ·rw [dqt hz]; rfl
    ·rw [dqf hz]
     by_cases hz2 : w <= z
     ·rw [dqt (show w - 1 < z by omega), dqt hz2]; rfl
     ·rw [dqf (show ¬ w - 1 < z by omega), dqf hz2, dqf (show ¬ 1000 < w by omega)]; rfl
   ·have e : aP w 1 1000 = true := by
     unfold aP
     by_cases h1 : w < 1
     ·rw [dqt h1]; rfl
     ·rw [dqf h1, cond_false]; exact dqt (by omega)
    rw [e]
    have : (bif bif decide (z < 0) then true else decide (w <= z) then true else decide (1000 < w)) = true := by
     by_cases hz : z < 0
     ·rw [dqt hz]; rfl
     ·rw [dqf hz, cond_false]
      by_cases h2 : w <= z
      ·rw [dqt h2]; rfl
      ·rw [dqf h2, cond_false]; exact dqt (by omega)
    rw [this]
    cases !aP z 0 (i64.wrap (w - 1)) <;> rfl
  ·rfl
theorem Hh (x0 x1 x2 x3 : Int) : im x0 x1 x2 x3 = bif bif bif bif bif decide (x0 < 0) then true else decide (x1 <= x0) then true else decide (1000 < x1) then true else decide (x2 < 0) then true else decide (x3 <= x2) then true else decide (1000 < x3) := by
 have key : ∀ a b : Int, ((bif !aP b 1 1000 then aP a 0 (i64.wrap (b - 1)) else true) = true) ↔ (a < 0 ∨ b <= a ∨ 1000 < b) := by
  intro a b
  unfold aP
  by_cases h1 : b < 1
  ·rw [dqt h1]; simp; omega
  ·rw [dqf h1]
   by_cases h2 : 1000 < b
   ·rw [dqt h2]; simp; omega
   ·rw [dqf h2, aA (by omega) (by omega)]
    simp only [cond_false, Bool.not_false, cond_true, Bool.cond_eq_ite]
    split <;> simp_all <;> omega
 have e1 := key x0 x1
 have e2 := key x2 x3
 have : im x0 x1 x2 x3 = (bif !(bif !aP x1 1 1000 then aP x0 0 (i64.wrap (x1 - 1)) else true) then (bif !aP x3 1 1000 then aP x2 0 (i64.wrap (x3 - 1)) else true) else true) := by
  unfold im
  cases aP x1 1 1000 <;> cases aP x0 0 (i64.wrap (x1 - 1)) <;> rfl
 rw [this]
 generalize (bif !aP x1 1 1000 then aP x0 0 (i64.wrap (x1 - 1)) else true) = p at e1 ⊢
 generalize (bif !aP x3 1 1000 then aP x2 0 (i64.wrap (x3 - 1)) else true) = q at e2 ⊢
 rw [Bool.eq_iff_iff]
 simp only [Bool.cond_eq_ite]
 cases p <;> cases q <;> simp_all <;> omega
theorem u9 (n4 : Nat) (f4 : FnV) (i : Nat) : c66 n4 (elV tyF f4) i = cF f4 i := by
 show jV (jv0 (f4 i)) (jv1 (f4 i)) (jv2 (f4 i)) (jv3 (f4 i)) (c5 (hdV (tlV (tlV (tlV (tlV (f4 i))))))) (fun j => ap tp4 (atV (hdV (tlV (tlV (tlV (tlV (f4 i)))))) j)) = _
 unfold cF jV F72
 rw [ck]
 have : ∀ n (f : Nat -> List V), mZ n f = exB n fun j => JL (f j) := by
  intro n f
  unfold mZ yW; rw [kw]
  exact rT fun j _ => by rw [Hh]; rfl
 rw [this]
 rfl
theorem LY (p q r t : Bool) (B : Int) : (bif p then bif !q then bif !r then bif t then 7 else B else 7 else 7 else 7) = (bif bif bif bif !p then true else q then true else r then true else t then 7 else B) := by
 cases p <;> cases q <;> cases r <;> cases t <;> rfl
theorem CD (n6 : Nat) (f6 : FnV) (i : Nat) : c68 n6 (elV tyC f6) i = cC n6 f6 i := by
 unfold c68 cC ja F73
 rw [xi, Dv, ck]
 simp only [Int.toNat_natCast, Nat.sub_zero, Nat.zero_add]
 unfold CX
 simp only [mF, Bool.not_not]
 rw [LY]
 rfl
theorem c9 {n : Nat} {c d : Nat -> Int} (h : ∀ i, c i = d i) : eO n c = eO n d /\ cM n c = cM n d := by
 have : c = d := funext h
 rw [this]; exact ⟨rfl, rfl⟩
theorem Ak (n0 : Nat) (f0 : FnV) (n2 : Nat) (f2 : FnV) (n4 : Nat) (f4 : FnV) (n6 : Nat) (f6 : FnV) :
 (iG n0 f0 n2 f2 n4 f4 n6 f6, iU n0 f0 n2 f2 n4 f4 n6 f6, dC n0 f0 n2 f2 n4 f4 n6 f6) = F24 n0 f0 n2 f2 n4 f4 n6 f6 := by
 unfold iG iU dC F24 DU z1 z2 z3 r24 rI kN rV kJ qY kS qX kX
 rw [(c9 (xY n0 f0)).1, (c9 (xY n0 f0)).2, (c9 (yh n2 f2)).1, (c9 (yh n2 f2)).2, (c9 (u9 n4 f4)).1, (c9 (u9 n4 f4)).2, (c9 (CD n6 f6)).1, (c9 (CD n6 f6)).2]
 cases (bif bif bif decide (8 < (n0 : Int)) then true else decide (12 < (n2 : Int)) then true else decide (8 < (n4 : Int)) then true else decide (24 < (n6 : Int)))
 ·simp only [cond_false]
  cases h1 : cM n0 (cR n0 f0) != 0
  ·simp only [cond_false]
   cases h2 : cM n2 (cT f2) != 0
   ·simp only [cond_false]
    cases h3 : cM n4 (cF f4) != 0
    ·simp only [cond_false]
     cases h4 : cM n6 (cC n6 f6) != 0
     ·rfl
     ·rfl
    ·rfl
   ·rfl
  ·rfl
 ·rfl
end
noncomputable section
theorem dI (ts : List Ty) (f : Nat -> List V) : elV ts (elV ts f) = elV ts f := by
 funext i; exact bn ts _
theorem ud {n : Nat} {c : Nat -> Int} (h : cM n c = 0) : ∀ i, i < n -> c i = 0 := by
 unfold cM at h
 rcases nG (n := n) (p := fun i => c i != 0) with ⟨_, h2⟩ | ⟨j, h1, h2, h3, _⟩
 ·intro i hi
  have := h2 i hi
  simpa using this
 ·rw [h2] at h
  have : ((j : Int) == -1) = false := by rw [beq_eq_false_iff_ne]; omega
  rw [this, cond_false, Int.toNat_natCast] at h
  rw [h] at h3; cases h3
section
variable {n0 : Nat} {f0 : Nat -> List V} {n2 : Nat} {f2 : Nat -> List V} {n4 : Nat} {f4 : Nat -> List V} {n6 : Nat} {f6 : Nat -> List V} {i j m l : Int}
structure Kb (n0 : Nat) (f0 : FnV) (n2 : Nat) (f2 : FnV) (n4 : Nat) (f4 : FnV) (n6 : Nat) (f6 : FnV) : Prop where
 l0 : n0 <= 8
 l2 : n2 <= 12
 l4 : n4 <= 8
 l6 : n6 <= 24
 rd : ∀ i, i < n0 -> cR n0 f0 i = 0
 tr : ∀ i, i < n2 -> cT f2 i = 0
 fr : ∀ i, i < n4 -> cF f4 i = 0
 cl : ∀ i, i < n6 -> cC n6 f6 i = 0
theorem mj {n : Nat} {c : Nat -> Int} {k : Int} {z : Int × Int × Int} (h : (r24 n c k z).2.2 = 0) : (∀ i, i < n -> c i = 0) /\ z.2.2 = 0 := by
 unfold r24 at h
 cases hb : cM n c != 0 with
 | true => rw [hb] at h; simp only [cond_true] at h; rw [h] at hb; cases hb
 | false =>
   rw [hb] at h
   exact ⟨ud (by simpa using hb), h⟩
theorem jN (h : bt n0 f0 n2 f2 n4 f4 n6 f6 = 0) : Kb n0 f0 n2 f2 n4 f4 n6 f6 := by
 unfold bt F24 at h
 cases hl : DU n0 f0 n2 f2 n4 f4 n6 f6 with
 | true => rw [hl] at h; cases h
 | false =>
   rw [hl, cond_false] at h
   obtain ⟨h1, h⟩ := mj h
   unfold z1 at h
   obtain ⟨h2, h⟩ := mj h
   unfold z2 at h
   obtain ⟨h3, h⟩ := mj h
   unfold z3 at h
   obtain ⟨h4, _⟩ := mj h
   unfold DU at hl
   simp only [Bool.cond_eq_ite, Bool.ite_eq_false_distrib] at hl
   have : n0 <= 8 /\ n2 <= 12 /\ n4 <= 8 /\ n6 <= 24 := by
    refine ⟨?_, ?_, ?_, ?_⟩ <;> (apply Classical.byContradiction; intro hn) <;> simp_all <;> omega
   exact ⟨this.1, this.2.1, this.2.2.1, this.2.2.2, h1, h2, h3, h4⟩
def Dl (i m : Int) : Bool := bif decide (i < 0) then true else decide (m <= i)
def ix1 (e i m : Int) : Int := bif e == 0 then (bif Dl i m then 4 else 0) else e
theorem jI : dC n0 f0 n2 f2 n4 f4 n6 f6 = bt n0 f0 n2 f2 n4 f4 n6 f6 := congrArg (fun t => t.2.2) (Ak n0 f0 n2 f2 n4 f4 n6 f6)
theorem D8 {i : Int} {m : Nat} (hm : m <= 9223372036854775807) : aP i 0 (i64.wrap ((m : Int) - 1)) = Dl i m := by
 unfold aP Dl
 rw [aA (by omega) (by omega)]
 by_cases h : i < 0
 ·rw [dqt h]; rfl
 ·rw [dqf h, cond_false, cond_false]
  by_cases g : (m : Int) <= i
  ·rw [dqt g]; exact dqt (by omega)
  ·rw [dqf g]; exact dqf (by omega)
theorem s8 {i : Int} {m : Nat} (hm : bt n0 (elV tyR f0) n2 (elV tyT f2) n4 (elV tyF f4) n6 (elV tyC f6) = 0 -> m <= 9223372036854775807) :
 F44 n0 (elV tyR f0) n2 (elV tyT f2) n4 (elV tyF f4) n6 (elV tyC f6) 2 (elV tp1 (bM [vi i, vi m] 0 1)) = ix1 (bt n0 (elV tyR f0) n2 (elV tyT f2) n4 (elV tyF f4) n6 (elV tyC f6)) i m := by
 unfold F44 zR ix1
 simp only [dI, jI]
 cases he : bt n0 (elV tyR f0) n2 (elV tyT f2) n4 (elV tyF f4) n6 (elV tyC f6) == 0 with
 | false => rfl
 | true =>
   rw [cond_true, cond_true]
   have := hm (eq_of_beq he)
   rw [← D8 this]
   show (bif !(true && !aP i 0 (i64.wrap ((m : Int) - 1))) then _ else _) = _
   rw [Bool.true_and, Bool.not_not]
end
end
noncomputable section
theorem fM {a l h : Int} (hf : eK a l h = true) : l <= a /\ a <= h := by
 unfold eK at hf
 by_cases h1 : l <= a
 ·rw [dqt h1, cond_true] at hf; exact ⟨h1, of_decide_eq_true hf⟩
 ·rw [dqf h1] at hf; cases hf
end
noncomputable section
section
variable {ax ay bx b2 px py r : Int}
theorem Jg (h1 : sm ax) (h2 : sm ay) (h3 : sm bx) (h4 : sm b2) (h5 : sm px) (h6 : sm py) : bY (aG bx ax) (aH b2 ay) (aG px ax) (aH py ay) = sd ax ay bx b2 px py /\ -4611686018427387904 <= sd ax ay bx b2 px py /\ sd ax ay bx b2 px py <= 4611686018427387904 := by
 unfold sm at *
 unfold sd bY aG aH
 rw [aA (x := bx - ax) (by omega) (by omega), aA (x := b2 - ay) (by omega) (by omega), aA (x := px - ax) (by omega) (by omega), aA (x := py - ay) (by omega) (by omega)]
 have c1 := kq (x := bx - ax) (y := py - ay) (A := 1073741824) (B := 1073741824) (by omega) (by omega) (by omega) (by omega)
 have c2 := kq (x := b2 - ay) (y := px - ax) (A := 1073741824) (B := 1073741824) (by omega) (by omega) (by omega) (by omega)
 rw [aA (x := (bx - ax) * (py - ay)) (by omega) (by omega), aA (x := (b2 - ay) * (px - ax)) (by omega) (by omega), aA (by omega) (by omega)]
 exact ⟨rfl, by omega, by omega⟩
end
end
noncomputable section
theorem lR {e i m : Int} (h : ix1 e i m = 0) : e = 0 /\ 0 <= i /\ i < m := by
 unfold ix1 at h
 cases he : e == 0 with
 | false => rw [he, cond_false] at h; rw [h] at he; cases he
 | true =>
   rw [he, cond_true] at h
   refine ⟨eq_of_beq he, ?_⟩
   unfold Dl at h
   by_cases h1 : i < 0
   ·rw [dqt h1] at h; cases h
   ·rw [dqf h1, cond_false] at h
    by_cases h2 : m <= i
    ·rw [dqt h2] at h; cases h
    ·omega
end
noncomputable section
def u4 (ax ay X0 Y0 X1 Y1 : Int) : Int := i64.wrap (i64.wrap (max (max 0 (i64.wrap (i64.wrap (2 * X0) - ax))) (i64.wrap (ax - i64.wrap (2 * X1))) * max (max 0 (i64.wrap (i64.wrap (2 * X0) - ax))) (i64.wrap (ax - i64.wrap (2 * X1)))) + i64.wrap (max (max 0 (i64.wrap (i64.wrap (2 * Y0) - ay))) (i64.wrap (ay - i64.wrap (2 * Y1))) * max (max 0 (i64.wrap (i64.wrap (2 * Y0) - ay))) (i64.wrap (ay - i64.wrap (2 * Y1)))))
section
variable {ax ay bx b2 w X0 Y0 X1 Y1 px py : Int}
def pl (x : Int) : Prop := -100000000 <= x /\ x <= 100000000
theorem dbl {x : Int} (h : pl x) : i64.wrap (2 * x) = 2 * x /\ sm (2 * x) := by
 unfold pl at h; unfold sm
 exact ⟨aA (by omega) (by omega), by omega⟩
theorem kg (h1 : sm ax) (h2 : sm ay) (h3 : sm bx) (h4 : sm b2) (h7 : 0 <= w) (h8 : w <= 1073741824) (hx : pl px) (hy : pl py) : bC ax ay bx b2 w px py = nr ax ay bx b2 (2 * px) (2 * py) w := by
 unfold bC
 rw [(dbl hx).1, (dbl hy).1]
 exact v8 h1 h2 h3 h4 (dbl hx).2 (dbl hy).2 h7 h8
theorem Ez (ax ay X0 Y0 X1 Y1 : Int) : dm (max (max (i64.wrap (i64.wrap (2 * X0) - ax)) 0) (i64.wrap (ax - i64.wrap (2 * X1)))) (max (max (i64.wrap (i64.wrap (2 * Y0) - ay)) 0) (i64.wrap (ay - i64.wrap (2 * Y1)))) (max (max (i64.wrap (i64.wrap (2 * X0) - ax)) 0) (i64.wrap (ax - i64.wrap (2 * X1)))) (max (max (i64.wrap (i64.wrap (2 * Y0) - ay)) 0) (i64.wrap (ay - i64.wrap (2 * Y1)))) = u4 ax ay X0 Y0 X1 Y1 := by
 unfold dm u4
 rw [Int.max_comm (i64.wrap (i64.wrap (2 * X0) - ax)) 0, Int.max_comm (i64.wrap (i64.wrap (2 * Y0) - ay)) 0]
theorem J7 (h1 : sm ax) (h2 : sm ay) (h3 : sm bx) (h4 : sm b2) (g1 : pl X0) (g2 : pl Y0) (g3 : pl X1) (g4 : pl Y1) :
 jo ax ay bx b2 X0 Y0 X1 Y1 = true ↔ (Bx ax ay bx b2 (2 * X0) (2 * Y0) (2 * X1) (2 * Y1) /\ (0 <= sd ax ay bx b2 (2 * X0) (2 * Y0) ∨ 0 <= sd ax ay bx b2 (2 * X1) (2 * Y0) ∨ 0 <= sd ax ay bx b2 (2 * X1) (2 * Y1) ∨ 0 <= sd ax ay bx b2 (2 * X0) (2 * Y1)) /\ (sd ax ay bx b2 (2 * X0) (2 * Y0) <= 0 ∨ sd ax ay bx b2 (2 * X1) (2 * Y0) <= 0 ∨ sd ax ay bx b2 (2 * X1) (2 * Y1) <= 0 ∨ sd ax ay bx b2 (2 * X0) (2 * Y1) <= 0)) := by
 have s : ∀ px py, pl px -> pl py -> bR ax ay bx b2 (cq px 2) (cr py 2) = sd ax ay bx b2 (2 * px) (2 * py) := fun px py hx hy => by
  unfold bR cq cr
  rw [(dbl hx).1, (dbl hy).1]
  exact (Jg h1 h2 h3 h4 (dbl hx).2 (dbl hy).2).1
 unfold jo
 rw [s _ _ g1 g2, s _ _ g3 g2, s _ _ g3 g4, s _ _ g1 g4, (dbl g1).1, (dbl g2).1, (dbl g3).1, (dbl g4).1]
 generalize sd ax ay bx b2 (2 * X0) (2 * Y0) = p
 generalize sd ax ay bx b2 (2 * X1) (2 * Y0) = q
 generalize sd ax ay bx b2 (2 * X1) (2 * Y1) = u
 generalize sd ax ay bx b2 (2 * X0) (2 * Y1) = t
 unfold Bx
 have o4 : ∀ a b c d : Bool, (bif bif bif a then true else b then true else c then true else d) = true ↔ (a = true ∨ b = true ∨ c = true ∨ d = true) := by
  intro a b c d; cases a <;> cases b <;> cases c <;> cases d <;> simp
 have e1 := o4 (decide (max ax bx < 2 * X0)) (decide (2 * X1 < min ax bx)) (decide (max ay b2 < 2 * Y0)) (decide (2 * Y1 < min ay b2))
 have e2 := o4 (decide (0 <= p)) (decide (0 <= q)) (decide (0 <= u)) (decide (0 <= t))
 have e3 := o4 (decide (p <= 0)) (decide (q <= 0)) (decide (u <= 0)) (decide (t <= 0))
 simp only [decide_eq_true_eq] at e1 e2 e3
 rw [← e1, ← e2, ← e3]
 generalize (bif bif bif decide (max ax bx < 2 * X0) then true else decide (2 * X1 < min ax bx) then true else decide (max ay b2 < 2 * Y0) then true else decide (2 * Y1 < min ay b2)) = A
 generalize (bif bif bif decide (0 <= p) then true else decide (0 <= q) then true else decide (0 <= u) then true else decide (0 <= t)) = B
 generalize (bif bif bif decide (p <= 0) then true else decide (q <= 0) then true else decide (u <= 0) then true else decide (t <= 0)) = C
 cases A <;> cases B <;> cases C <;> simp
end
end
noncomputable section
theorem ko (a b c d : Int) : lc a b c d = !hU a b c d := by
 unfold lc hU
 rw [ck]
 generalize F51 _ _ = p
 have e1 : decide (c < a) = !decide (a <= c) := by by_cases h : a <= c <;> simp [h] <;> omega
 have e2 : decide (d < b) = !decide (b <= d) := by by_cases h : b <= d <;> simp [h] <;> omega
 rw [e1, e2]
 generalize decide (a <= c) = q
 generalize decide (b <= d) = u
 cases p <;> cases q <;> cases u <;> rfl
theorem lM {a b c d : Int} (h : hU a b c d = true) : (-100000 <= a /\ a <= 100000) /\ (-100000 <= b /\ b <= 100000) /\ (-100000 <= c /\ c <= 100000) /\ (-100000 <= d /\ d <= 100000) /\ a <= c /\ b <= d := by
 unfold hU at h
 cases hp : F51 4 (elV tp1 (bM [vi a, vi b, vi c, vi d] 0 1)) with
 | false => rw [hp] at h; cases h
 | true =>
   rw [hp, cond_true] at h
   by_cases h1 : a <= c
   ·rw [dqt h1, cond_true] at h
    have h2 := of_decide_eq_true h
    unfold F51 at hp
    exact ⟨fM (dJ hp 0 (by omega)), fM (dJ hp 1 (by omega)), fM (dJ hp 2 (by omega)), fM (dJ hp 3 (by omega)), h1, h2⟩
   ·rw [dqf h1] at h; cases h
theorem qS {x y : Int} (h : fx x y = true) : (-100000 <= x /\ x <= 100000) /\ (-100000 <= y /\ y <= 100000) := by
 unfold fx F51 at h
 exact ⟨fM (dJ h 0 (by omega)), fM (dJ h 1 (by omega))⟩
structure eV (n : Nat) (f : Nat -> List V) (w : Int) : Prop where
 two : 2 <= n
 eight : n <= 8
 pts : ∀ j, j < n -> (-100000 <= jv0 (f j) /\ jv0 (f j) <= 100000) /\ (-100000 <= jv1 (f j) /\ jv1 (f j) <= 100000)
 adj : ∀ j, j + 1 < n -> eqP f (j + 1) j = false
 w1 : 100 <= w
 w2 : w <= 30000
theorem tv {n0 : Nat} {f0 : Nat -> List V} {i : Nat} (h : cR n0 f0 i = 0) : eV (c5 (hdV (tlV (tlV (f0 i))))) (fun j => ap tp2 (atV (hdV (tlV (tlV (f0 i)))) j)) (jv3 (f0 i)) := by
 have h' : F70 n0 (elV tyR f0) (i : Int) = 0 := h
 unfold F70 at h'
 simp only [Int.toNat_natCast] at h'
 cases hn : y7 (sv (hdV (elV tyR f0 i))) with
 | false => rw [hn] at h'; cases h'
 | true =>
   rw [hn, Bool.not_true, cond_false] at h'
   cases hd : exB i (fun k => (sv (hdV (elV tyR f0 k))).toList == (sv (hdV (elV tyR f0 i))).toList) with
   | true => rw [hd] at h'; cases h'
   | false =>
     rw [hd, cond_false] at h'
     have h2 : yp (jv1 (f0 i)) (c5 (hdV (tlV (tlV (f0 i))))) (fun j => ap tp2 (atV (hdV (tlV (tlV (f0 i)))) j)) (jv3 (f0 i)) = 0 := h'
     unfold yp at h2
     generalize (fun j => ap tp2 (atV (hdV (tlV (tlV (f0 i)))) j)) = f at h2 ⊢
     generalize c5 (hdV (tlV (tlV (f0 i)))) = n at h2 ⊢
     generalize jv3 (f0 i) = w at h2 ⊢
     generalize jv1 (f0 i) = k at h2
     cases h3 : eK k 0 3 with
     | false => rw [h3] at h2; cases h2
     | true =>
       rw [h3, Bool.not_true, cond_false] at h2
       by_cases h4 : (n : Int) < 2
       ·rw [dqt h4] at h2; cases h2
       ·rw [dqf h4, cond_false] at h2
        by_cases h5 : 8 < (n : Int)
        ·rw [dqt h5] at h2; cases h2
        ·rw [dqf h5, cond_false] at h2
         cases h6 : exB n (fun i => !fx (jv0 (f i)) (jv1 (f i))) with
         | true => rw [h6] at h2; cases h2
         | false =>
           rw [h6, cond_false] at h2
           cases h7 : eK w 100 30000 with
           | false => rw [h7] at h2; cases h2
           | true =>
             rw [h7, Bool.not_true, cond_false] at h2
             cases h8 : iW n f with
             | true => rw [h8] at h2; cases h2
             | false =>
               have hw := fM h7
               refine ⟨by omega, by omega, fun j hj => ?_, fun j hj => ?_, hw.1, hw.2⟩
               ·apply qS
                cases hp : fx (jv0 (f j)) (jv1 (f j)) with
                | true => rfl
                | false => rw [bN j hj (by rw [hp]; rfl)] at h6; cases h6
               ·cases hp : eqP f (j + 1) j with
                | false => rfl
                | true =>
                  unfold iW at h8
                  rw [bN (j + 1) hj (by rw [Nat.add_sub_cancel, hp]; simp)] at h8; cases h8
section
variable {n : Nat} {f : Nat -> List V} {w : Int}
theorem w1p {j n : Nat} (h : j < n) (hn : n <= 8) : (i64.wrap ((j : Int) + 1)).toNat = j + 1 := by
 rw [aA (by omega) (by omega)]; omega
theorem dpt {x : Int} (h : -100000 <= x /\ x <= 100000) : i64.wrap (2 * x) = 2 * x /\ sm (2 * x) := dbl (by unfold pl; omega)
end
section
variable {n0 : Nat} {f0 : Nat -> List V} {n2 : Nat} {f2 : Nat -> List V} {n4 : Nat} {f4 : Nat -> List V} {n6 : Nat} {f6 : Nat -> List V}
theorem xG {x8 : Int} (h : ix1 (bt n0 (elV tyR f0) n2 (elV tyT f2) n4 (elV tyF f4) n6 (elV tyC f6)) x8 n0 = 0) : eV (c5 (hdV (tlV (tlV (f0 x8.toNat))))) (fun j => ap tp2 (atV (hdV (tlV (tlV (f0 x8.toNat)))) j)) (jv3 (f0 x8.toNat)) := by
 obtain ⟨h1, h2, h3⟩ := lR h
 have hv := (jN h1).rd x8.toNat (by omega)
 exact tv (f0 := f0) (n0 := n0) (by have : cR n0 (elV tyR f0) x8.toNat = cR n0 f0 x8.toNat := by unfold cR; rw [dI]
                                    rw [← this]; exact hv)
end
end
end Go.Dx
namespace Go.Dx
open Go.IntKind (i64 u64 u8)
open Go.Sx Go.Proofs
noncomputable section
def ER : bj := (19, .con C19) :: EP
theorem FH : be Tryz.prog eqs its ER := .con Dz (Gp)
end
noncomputable section
def xV : bj := [(19, .con C19), (22, .con C22), (25, .con C25), (15, .con C15), (55, .con C55), (61, .con C61), (74, .con C74), (108, .con Bi), (46, .con C46), (111, .con zd), (56, .con C56), (47, .con C47), (145, .con Ac), (140, .con Ah), (49, .con C49), (123, .con z8), (44, .con C44), (23, .con C23), (62, .con C62), (68, .con C68), (63, .con C63), (69, .con C69), (117, .inl Bw u0), (116, .inl BY u0), (115, .con zr), (114, .con zU), (147, .con yQ), (64, .con C64), (66, .con C66), (113, .con v7), (65, .con C65), (67, .con C67), (53, .con C53), (45, .con C45), (90, .con C90), (119, .con wj), (121, .con wm), (99, .con C99), (129, .con vw), (148, .con wT), (149, .con vJ), (112, .con wI), (118, .con wz), (120, .con vZ), (133, .con wZ), (103, .con vY), (100, .con wA), (134, .con ww), (135, .con wH), (78, .con C78), (54, .con C54), (48, .con C48), (102, .con wC), (84, .con C84), (85, .con C85), (127, .con wQ), (101, .con wp), (86, .con C86), (162, .con wo), (146, .con wS), (83, .inl s83 u0), (161, .inl I8 u0)]
theorem Gi : be Tryz.prog eqs its xV := .con Dz (.con C7 (.con CO (.con Da (.con C3 (.con C4 (.con CZ (.con xI (.con Ec (.con ue (.con BN (.con CG (.con um (.con tS (.con Bh (.con va (.con Ay (.con Bd (.con Ap (.con Bn (.con Cn (.con AP (.inl Tryz.func117 (by kernel_rfl) (by kernel_rfl) (by kernel_rfl) (.inl Tryz.func116 (by kernel_rfl) (by kernel_rfl) (by kernel_rfl) (.con uU (.con uo (.con uz (.con Cz (.con CB (.con qQ (.con y9 (.con yN (.con z7 (.con zt (.con yZ (.con r0 (.con rU (.con zS (.con qZ (.con rC (.con qP (.con rP (.con rh (.con qW (.con rY (.con q9 (.con r6 (.con rJ (.con qK (.con zu (.con zb (.con zB (.con rD (.con zq (.con zp (.con rL (.con rp (.con zw (.con ra (.con uk (.inl Tryz.func83 (by kernel_rfl) (by kernel_rfl) (by kernel_rfl) (.inl Tryz.func161 (by kernel_rfl) (by kernel_rfl) (by kernel_rfl) (.nil))))))))))))))))))))))))))))))))))))))))))))))))))))))))))))))
def Jp : List V -> Prop
 | [.int _ x] => x = 8
 | _ => False
def Md : a7 := mkC [.int .u64] Jp fun _ => .int .i64 4
theorem Le {w0 : World} : sat (bU w0 (SV xV)) (bk JJ xV u0 Gl [.int .u64 8]) (p8 (.int .i64 4)) := ul (by kernel_rfl)
theorem IX : (vP Md).Ok Tryz.prog 131 := mkE (un := u0) Gi Tryz.func131 (by kernel_rfl) fun ds hp => by
 have hp' : jv0 ds = 8 := hp
 intro hd w0
 show sat _ (bk JJ xV u0 Gl [.int .u64 (jv0 ds)]) _
 rw [hp']
 exact Le
def IB : List V -> Bool
 | [.int _ x] => decide (x = 8)
 | _ => false
def AL : a7 := Fk [.int .u64] IB fun _ => .int .i64 4
theorem Bz : (vP AL).Ok Tryz.prog 131 := DC (pre := Jp) (fun ds h => by
 unfold IB at h
 split at h
 ·rename_i x; exact (show x = 8 from of_decide_eq_true h)
 ·cases h) IX
end
end Go.Dx
namespace Go.Dx
theorem EJ {ts : List Ty} (h : ts.all a6 = true) {n : Nat} {p : Nat -> Bool} {ds : List V} {f : Nat -> List V} (h1 : pp ts n f) (hf : ig [] (ap ts ds) ds = ap ts ds) : pp ts n fun i => cond (p i) ds (f i) := fun i hi => by
 show okE _ (ap ts (cond (p i) ds (f i))) = true /\ c8 [] (cond (p i) ds (f i)) (ap ts (cond (p i) ds (f i)))
 cases p i with
 | true => exact ⟨fV h _, dR _ _ hf⟩
 | false => exact h1 i hi
theorem sq0 (x : Int) : 0 <= x * x := by
 rcases Int.le_total 0 x with h | h
 ·exact imn h h
 ·have := imn (show 0 <= -x by omega) (show 0 <= -x by omega)
  rwa [Int.neg_mul_neg] at this
theorem Ef {a b : Int} (hb : 0 <= b) (h : a * a <= b * b) : a <= b := by
 apply Classical.byContradiction; intro hn
 have h1 : b < a := by omega
 have h2 : b * b < a * a := Int.lt_of_le_of_lt (iml (Int.le_of_lt h1) hb) (Int.mul_lt_mul_of_pos_right h1 (by omega))
 omega
theorem cK {k a b : Int} (hk : 0 < k) (h : k * a <= k * b) : a <= b := Int.le_of_mul_le_mul_left h hk
theorem g8 {k a b : Int} (hk : 0 < k) (h : k * k * a <= k * k * b) : a <= b := cK (Int.mul_pos hk hk) h
def q2 (x y : Int) : Int := x * x + y * y
theorem C2 (x y : Int) : 0 <= q2 x y := by unfold q2; have := sq0 x; have := sq0 y; omega
theorem dN (k x y : Int) : q2 (k * x) (k * y) = k * k * q2 x y := by unfold q2; grind
theorem o0 (x y : Int) : q2 (-x) y = q2 x y := by unfold q2; grind
theorem fN (x y : Int) : q2 x y = q2 y x := by unfold q2; grind
theorem xZ {x y x' y' : Int} (h1 : 0 <= x) (h2 : x <= x') (h3 : 0 <= y) (h4 : y <= y') : q2 x y <= q2 x' y' := by
 unfold q2
 have := Int.mul_le_mul h2 h2 h1 (Int.le_trans h1 h2)
 have := Int.mul_le_mul h4 h4 h3 (Int.le_trans h3 h4)
 omega
theorem F0 {x y z w A B : Int} (hA : 0 <= A) (hB : 0 <= B) (h1 : q2 x y <= A * A) (h2 : q2 z w <= B * B) : x * z + y * w <= A * B := by
 refine Ef (imn hA hB) ?_
 have e : q2 x y * q2 z w = (x * z + y * w) * (x * z + y * w) + (x * w - y * z) * (x * w - y * z) := by unfold q2; grind
 have h3 := sq0 (x * w - y * z)
 have h4 : q2 x y * q2 z w <= (A * A) * (B * B) := Int.mul_le_mul h1 h2 (C2 z w) (sq0 A)
 have e2 : (A * B) * (A * B) = (A * A) * (B * B) := by grind
 omega
theorem JO {x y z w A B : Int} (hA : 0 <= A) (hB : 0 <= B) (h1 : q2 x y <= A * A) (h2 : q2 z w <= B * B) : q2 (x + z) (y + w) <= (A + B) * (A + B) := by
 have h3 := F0 hA hB h1 h2
 have e : q2 (x + z) (y + w) = q2 x y + q2 z w + 2 * (x * z + y * w) := by unfold q2; grind
 have e2 : (A + B) * (A + B) = A * A + B * B + 2 * (A * B) := by grind
 omega
def At (ax ay bx b2 px py k r n m : Int) : Prop := 0 <= n /\ n <= m /\ 0 < m /\ q2 (m * px - k * ((m - n) * ax + n * bx)) (m * py - k * ((m - n) * ay + n * b2)) <= (m * k * r) * (m * k * r)
def Nq (ax ay bx b2 px py k r : Int) : Prop := ∃ n m, At ax ay bx b2 px py k r n m
section
variable {ax ay bx b2 px py r n m k : Int}
theorem Hq (hr : 0 <= r) (h : Nq ax ay bx b2 px py 1 r) : nr ax ay bx b2 px py r = true := by
 obtain ⟨n, m, h1, h2, h3, h4⟩ := h
 rw [Int.mul_one] at h4
 have ex : m * px - 1 * ((m - n) * ax + n * bx) = m * (px - ax) - n * (bx - ax) := by grind
 have ey : m * py - 1 * ((m - n) * ay + n * b2) = m * (py - ay) - n * (b2 - ay) := by grind
 rw [ex, ey] at h4
 unfold nr
 have e1 : px - bx = (px - ax) - (bx - ax) := by omega
 have e2 : py - b2 = (py - ay) - (b2 - ay) := by omega
 rw [e1, e2]
 generalize px - ax = ux at *
 generalize py - ay = uy at *
 generalize bx - ax = dx at *
 generalize b2 - ay = dy at *
 have hmn := imn (Int.le_of_lt h3) h1
 have hR : (m * r) * (m * r) = m * m * (r * r) := by grind
 by_cases c1 : ux * dx + uy * dy <= 0
 ·rw [dqt c1, cond_true]
  refine dqt (g8 h3 ?_)
  have e : q2 (m * ux - n * dx) (m * uy - n * dy) = m * m * (ux * ux + uy * uy) + n * n * q2 dx dy - 2 * (m * n * (ux * dx + uy * dy)) := by unfold q2; grind
  have k1 := imn (sq0 n) (C2 dx dy)
  have k2 := imn hmn (show 0 <= -(ux * dx + uy * dy) by omega)
  rw [Int.mul_neg] at k2
  omega
 ·rw [dqf c1, cond_false]
  by_cases c2 : dx * dx + dy * dy <= ux * dx + uy * dy
  ·rw [dqt c2, cond_true]
   refine dqt (g8 h3 ?_)
   have e : q2 (m * ux - n * dx) (m * uy - n * dy) = m * m * ((ux - dx) * (ux - dx) + (uy - dy) * (uy - dy)) + (m - n) * (m - n) * q2 dx dy + 2 * (m * (m - n) * ((ux * dx + uy * dy) - (dx * dx + dy * dy))) := by unfold q2; grind
   have k1 := imn (sq0 (m - n)) (C2 dx dy)
   have k2 := imn (imn (Int.le_of_lt h3) (show 0 <= m - n by omega)) (show 0 <= (ux * dx + uy * dy) - (dx * dx + dy * dy) by omega)
   omega
  ·rw [dqf c2, cond_false]
   refine dqt (g8 h3 ?_)
   have e : q2 dx dy * q2 (m * ux - n * dx) (m * uy - n * dy) = m * m * ((dx * uy - dy * ux) * (dx * uy - dy * ux)) + (dx * (m * ux - n * dx) + dy * (m * uy - n * dy)) * (dx * (m * ux - n * dx) + dy * (m * uy - n * dy)) := by unfold q2; grind
   have k1 := sq0 (dx * (m * ux - n * dx) + dy * (m * uy - n * dy))
   have k2 := iml h4 (C2 dx dy)
   have e3 : q2 dx dy * (m * r * (m * r)) = m * m * (r * r * (dx * dx + dy * dy)) := by unfold q2; grind
   omega
theorem IE (hr : 0 <= r) (h : nr ax ay bx b2 px py r = true) : Nq ax ay bx b2 px py 1 r := by
 unfold nr at h
 by_cases c1 : (px - ax) * (bx - ax) + (py - ay) * (b2 - ay) <= 0
 ·rw [dqt c1, cond_true] at h
  have h := of_decide_eq_true h
  refine ⟨0, 1, by omega, by omega, by omega, ?_⟩
  have e : q2 (1 * px - 1 * ((1 - 0) * ax + 0 * bx)) (1 * py - 1 * ((1 - 0) * ay + 0 * b2)) = (px - ax) * (px - ax) + (py - ay) * (py - ay) := by unfold q2; grind
  rw [e, Int.one_mul, Int.one_mul]; exact h
 ·rw [dqf c1, cond_false] at h
  by_cases c2 : (bx - ax) * (bx - ax) + (b2 - ay) * (b2 - ay) <= (px - ax) * (bx - ax) + (py - ay) * (b2 - ay)
  ·rw [dqt c2, cond_true] at h
   have h := of_decide_eq_true h
   refine ⟨1, 1, by omega, by omega, by omega, ?_⟩
   have e : q2 (1 * px - 1 * ((1 - 1) * ax + 1 * bx)) (1 * py - 1 * ((1 - 1) * ay + 1 * b2)) = (px - bx) * (px - bx) + (py - b2) * (py - b2) := by unfold q2; grind
   rw [e, Int.one_mul, Int.one_mul]; exact h
  ·rw [dqf c2, cond_false] at h
   have h := of_decide_eq_true h
   refine ⟨(px - ax) * (bx - ax) + (py - ay) * (b2 - ay), (bx - ax) * (bx - ax) + (b2 - ay) * (b2 - ay), by omega, by omega, by omega, ?_⟩
   have ex : ((bx - ax) * (bx - ax) + (b2 - ay) * (b2 - ay)) * px - 1 * (((bx - ax) * (bx - ax) + (b2 - ay) * (b2 - ay) - ((px - ax) * (bx - ax) + (py - ay) * (b2 - ay))) * ax + ((px - ax) * (bx - ax) + (py - ay) * (b2 - ay)) * bx) = ((bx - ax) * (bx - ax) + (b2 - ay) * (b2 - ay)) * (px - ax) - ((px - ax) * (bx - ax) + (py - ay) * (b2 - ay)) * (bx - ax) := by grind
   have ey : ((bx - ax) * (bx - ax) + (b2 - ay) * (b2 - ay)) * py - 1 * (((bx - ax) * (bx - ax) + (b2 - ay) * (b2 - ay) - ((px - ax) * (bx - ax) + (py - ay) * (b2 - ay))) * ay + ((px - ax) * (bx - ax) + (py - ay) * (b2 - ay)) * b2) = ((bx - ax) * (bx - ax) + (b2 - ay) * (b2 - ay)) * (py - ay) - ((px - ax) * (bx - ax) + (py - ay) * (b2 - ay)) * (b2 - ay) := by grind
   rw [ex, ey]
   clear ex ey
   generalize px - ax = ux at *
   generalize py - ay = uy at *
   generalize bx - ax = dx at *
   generalize b2 - ay = dy at *
   have e : q2 ((dx * dx + dy * dy) * ux - (ux * dx + uy * dy) * dx) ((dx * dx + dy * dy) * uy - (ux * dx + uy * dy) * dy) = (dx * dx + dy * dy) * ((dx * uy - dy * ux) * (dx * uy - dy * ux)) := by unfold q2; grind
   rw [e, Int.mul_one]
   have k1 := iml h (show 0 <= dx * dx + dy * dy by omega)
   have e2 : (dx * dx + dy * dy) * r * ((dx * dx + dy * dy) * r) = (dx * dx + dy * dy) * (r * r * (dx * dx + dy * dy)) := by grind
   omega
theorem gI (hr : 0 <= r) : nr ax ay bx b2 px py r = true ↔ Nq ax ay bx b2 px py 1 r := ⟨IE hr, Hq hr⟩
theorem Nq.cv {qx qy j l : Int} (hr : 0 <= r) (hk : 0 < k) (h1 : Nq ax ay bx b2 px py k r) (h2 : Nq ax ay bx b2 qx qy k r) (hj : 0 <= j) (hl : j <= l) (h0 : 0 < l) : Nq ax ay bx b2 ((l - j) * px + j * qx) ((l - j) * py + j * qy) (k * l) r := by
 obtain ⟨n1, m1, a1, a2, a3, a4⟩ := h1
 obtain ⟨n2, m2, b1, b2', b3, b4⟩ := h2
 have hlj : 0 <= l - j := by omega
 have p1 := Int.mul_pos a3 b3
 refine ⟨(l - j) * n1 * m2 + j * n2 * m1, l * m1 * m2, ?_, ?_, ?_, ?_⟩
 ·have := imn (imn hlj a1) (Int.le_of_lt b3)
  have := imn (imn hj b1) (Int.le_of_lt a3)
  omega
 ·have k1 := imn (imn hlj (show 0 <= m1 - n1 by omega)) (Int.le_of_lt b3)
  have k2 := imn (imn hj (show 0 <= m2 - n2 by omega)) (Int.le_of_lt a3)
  have e : (l - j) * (m1 - n1) * m2 + j * (m2 - n2) * m1 = l * m1 * m2 - ((l - j) * n1 * m2 + j * n2 * m1) := by grind
  omega
 ·exact Int.mul_pos (Int.mul_pos h0 a3) b3
 ·have ex : l * m1 * m2 * ((l - j) * px + j * qx) - k * l * ((l * m1 * m2 - ((l - j) * n1 * m2 + j * n2 * m1)) * ax + ((l - j) * n1 * m2 + j * n2 * m1) * bx) = l * (((l - j) * m2) * (m1 * px - k * ((m1 - n1) * ax + n1 * bx)) + (j * m1) * (m2 * qx - k * ((m2 - n2) * ax + n2 * bx))) := by grind
  have ey : l * m1 * m2 * ((l - j) * py + j * qy) - k * l * ((l * m1 * m2 - ((l - j) * n1 * m2 + j * n2 * m1)) * ay + ((l - j) * n1 * m2 + j * n2 * m1) * b2) = l * (((l - j) * m2) * (m1 * py - k * ((m1 - n1) * ay + n1 * b2)) + (j * m1) * (m2 * qy - k * ((m2 - n2) * ay + n2 * b2))) := by grind
  rw [ex, ey, dN]
  clear ex ey
  generalize m1 * px - k * ((m1 - n1) * ax + n1 * bx) = x1 at *
  generalize m1 * py - k * ((m1 - n1) * ay + n1 * b2) = y1 at *
  generalize m2 * qx - k * ((m2 - n2) * ax + n2 * bx) = x2 at *
  generalize m2 * qy - k * ((m2 - n2) * ay + n2 * b2) = y2 at *
  have w1 := imn hlj (Int.le_of_lt b3)
  have w2 := imn hj (Int.le_of_lt a3)
  have s1 := iml a4 (sq0 ((l - j) * m2))
  have s2 := iml b4 (sq0 (j * m1))
  rw [← dN] at s1 s2
  have z1 := imn (imn (Int.le_of_lt a3) (Int.le_of_lt hk)) hr
  have z2 := imn (imn (Int.le_of_lt b3) (Int.le_of_lt hk)) hr
  have t := JO (A := (l - j) * m2 * (m1 * k * r)) (B := j * m1 * (m2 * k * r)) (imn w1 z1) (imn w2 z2) (by rw [show (l - j) * m2 * (m1 * k * r) * ((l - j) * m2 * (m1 * k * r)) = (l - j) * m2 * ((l - j) * m2) * (m1 * k * r * (m1 * k * r)) by grind]; exact s1) (by rw [show j * m1 * (m2 * k * r) * (j * m1 * (m2 * k * r)) = j * m1 * (j * m1) * (m2 * k * r * (m2 * k * r)) by grind]; exact s2)
  have e : (l - j) * m2 * (m1 * k * r) + j * m1 * (m2 * k * r) = l * (m1 * m2 * k * r) := by grind
  rw [e] at t
  have t := iml t (sq0 l)
  have e2 : l * l * (l * (m1 * m2 * k * r) * (l * (m1 * m2 * k * r))) = l * m1 * m2 * (k * l) * r * (l * m1 * m2 * (k * l) * r) := by grind
  rw [← e2]; exact t
theorem Nq.scale {l : Int} (hl : 0 < l) : Nq ax ay bx b2 px py k r ↔ Nq ax ay bx b2 (l * px) (l * py) (l * k) r := by
 have key : ∀ n m : Int, q2 (m * (l * px) - l * k * ((m - n) * ax + n * bx)) (m * (l * py) - l * k * ((m - n) * ay + n * b2)) = l * l * q2 (m * px - k * ((m - n) * ax + n * bx)) (m * py - k * ((m - n) * ay + n * b2)) := fun n m => by
  rw [← dN]; congr 1 <;> grind
 have key2 : ∀ m : Int, m * (l * k) * r * (m * (l * k) * r) = l * l * (m * k * r * (m * k * r)) := fun m => by grind
 constructor
 ·rintro ⟨n, m, h1, h2, h3, h4⟩
  exact ⟨n, m, h1, h2, h3, by rw [key, key2]; exact iml h4 (sq0 l)⟩
 ·rintro ⟨n, m, h1, h2, h3, h4⟩
  rw [key, key2] at h4
  exact ⟨n, m, h1, h2, h3, g8 hl h4⟩
end
end Go.Dx
