/- Part 5 of a proof: an evaluator of code with its soundness, contracts of functions, and plain facts of what they compute. No conditions. -/
import Derived.Test.YtkdokmjehblpoaaGreatDoorCk4
import Derived.WalkKit
import Derived.Ground.NamesProg
import Derived.Shelf.Strings.SlTrimAscii
namespace Go.Proofs
open Go.Shelf
def Tryz.lays160_ren : Go.Shelf.Ren := ⟨fun | 160 => 146 | 232 => 165 | 231 => 164 | 227 => 166 | 234 => 168 | 233 => 167 | 236 => 170 | 235 => 169 | 228 => 185 | 271 => 188 | 151 => 187 | 197 => 186 | 120 => 195 | 152 => 194 | 260 => 193 | 137 => 197 | 119 => 198 | 224 => 199 | 225 => 200 | 217 => 201 | 266 => 202 | n => n, fun | 9 => 9 | 4 => 4 | 3 => 3 | 5 => 5 | 117 => 228 | 116 => 227 | 0 => 0 | 124 => 231 | 21 => 21 | 105 => 245 | 46 => 188 | 119 => 254 | 139 => 257 | 138 => 256 | n => n, fun | 3 => 0 | 4 => 1 | n => n⟩
theorem Tryz.lays160 : Go.Proofs.Lays.n160 Tryz.prog Tryz.lays160_ren := {
  mixed := by kernel_rfl
  f119 := Tryz.func198.trans (congrArg some (by kernel_rfl))
  f120 := Tryz.func195.trans (congrArg some (by kernel_rfl))
  f137 := Tryz.func197.trans (congrArg some (by kernel_rfl))
  f151 := Tryz.func187.trans (congrArg some (by kernel_rfl))
  f152 := Tryz.func194.trans (congrArg some (by kernel_rfl))
  f160 := Tryz.func146.trans (congrArg some (by kernel_rfl))
  f197 := Tryz.func186.trans (congrArg some (by kernel_rfl))
  f217 := Tryz.func201.trans (congrArg some (by kernel_rfl))
  f224 := Tryz.func199.trans (congrArg some (by kernel_rfl))
  f225 := Tryz.func200.trans (congrArg some (by kernel_rfl))
  f227 := Tryz.func166.trans (congrArg some (by kernel_rfl))
  f228 := Tryz.func185.trans (congrArg some (by kernel_rfl))
  f231 := Tryz.func164.trans (congrArg some (by kernel_rfl))
  f232 := Tryz.func165.trans (congrArg some (by kernel_rfl))
  f233 := Tryz.func167.trans (congrArg some (by kernel_rfl))
  f234 := Tryz.func168.trans (congrArg some (by kernel_rfl))
  f235 := Tryz.func169.trans (congrArg some (by kernel_rfl))
  f236 := Tryz.func170.trans (congrArg some (by kernel_rfl))
  f260 := Tryz.func193.trans (congrArg some (by kernel_rfl))
  f266 := Tryz.func202.trans (congrArg some (by kernel_rfl))
  f271 := Tryz.func188.trans (congrArg some (by kernel_rfl))
  t0 := Tryz.underlying0
  a0 := Tryz.isAgg0
  z0 := Tryz.sizeOf0
  v0 := Tryz.zeroValue0
  t3 := Tryz.underlying3
  a3 := Tryz.isAgg3
  z3 := Tryz.sizeOf3
  v3 := Tryz.zeroValue3
  t4 := Tryz.underlying4
  a4 := Tryz.isAgg4
  z4 := Tryz.sizeOf4
  v4 := Tryz.zeroValue4
  t5 := Tryz.underlying5
  a5 := Tryz.isAgg5
  z5 := Tryz.sizeOf5
  v5 := Tryz.zeroValue5
  t9 := Tryz.underlying9
  a9 := Tryz.isAgg9
  z9 := Tryz.sizeOf9
  v9 := Tryz.zeroValue9
  t21 := Tryz.underlying21
  a21 := Tryz.isAgg21
  z21 := Tryz.sizeOf21
  v21 := Tryz.zeroValue21
  t46 := Tryz.underlying188
  a46 := Tryz.isAgg188
  z46 := Tryz.sizeOf188
  v46 := Tryz.zeroValue188
  t105 := Tryz.underlying245
  a105 := Tryz.isAgg245
  z105 := Tryz.sizeOf245
  v105 := Tryz.zeroValue245
  t116 := Tryz.underlying227
  a116 := Tryz.isAgg227
  z116 := Tryz.sizeOf227
  t117 := Tryz.underlying228
  a117 := Tryz.isAgg228
  z117 := Tryz.sizeOf228
  v117 := Tryz.zeroValue228
  t119 := Tryz.underlying254
  a119 := Tryz.isAgg254
  z119 := Tryz.sizeOf254
  t124 := Tryz.underlying231
  a124 := Tryz.isAgg231
  z124 := Tryz.sizeOf231
  v124 := Tryz.zeroValue231
  t138 := Tryz.underlying256
  a138 := Tryz.isAgg256
  z138 := Tryz.sizeOf256
  v138 := Tryz.zeroValue256
  t139 := Tryz.underlying257
  a139 := Tryz.isAgg257
  z139 := Tryz.sizeOf257
  v139 := Tryz.zeroValue257
  g3 := by kernel_rfl
  g4 := by kernel_rfl }
end Go.Proofs
namespace Go.Dx
open Go.IntKind (i64 u64 u8)
open Go.Sx Go.Proofs Go.Shelf Go.RowKit
set_option maxRecDepth 100000
def cutN : ByteArray := ⟨#[97, 98, 99, 100, 101, 102, 103, 104, 105, 106, 107, 108, 109, 110, 111, 112, 113, 114, 115, 116, 117, 118, 119, 120, 121, 122, 48, 49, 50, 51, 52, 53, 54, 55, 56, 57, 45]⟩
def F146 (s c : ByteArray) : ByteArray := ⟨(Lib.trimS s.data.toList c.data.toList).toArray⟩
def C146 : PCon := mkC [.str, .str] (fun
  | [.str s, .str c] => s.size <= 9223372036854775807 /\ c = cutN
  | _ => False) fun
  | [.str s, .str c] => .str (F146 s c)
  | _ => .any
theorem trim_calls (s : ByteArray) (w : World) (hs : s.size <= 9223372036854775807) : Calls Tryz.prog 146 #[.string s, .string cutN] w fun e w' => e = .returned (.string (F146 s cutN)) /\ Below w.heap.size w w' :=
  Any.strings_Trim_laid Tryz.lays160 (by kernel_rfl) s cutN w hs (by decide) (ascii_of_all (by decide))
theorem HRel.below {B : Base} {m : Names} {lh : List LObj} {w w' : World} (h : HRel B m lh w) (hb : Below w.heap.size w w') : HRel B m lh w' := by
  obtain ⟨h1, h2, h3, h4, h5⟩ := hb
  have hsz : B.w0.heap.size <= w'.heap.size := Nat.le_trans h.size h4
  refine ⟨h1.trans h.os, h2.trans h.tape, h3.trans h.output, hsz, fun b hb => (h5 b (Nat.lt_of_lt_of_le hb h.size)).trans (h.old b hb), Nat.le_trans h.fsize h4, fun b hb ho => (h5 b (Nat.lt_of_lt_of_le hb h.fsize)).trans (h.kept b hb ho), fun k cs ty hk => ?_, h.inj, h.dom, h.dead, fun k b hk => Nat.lt_of_lt_of_le (h.rng k b hk) h4⟩
  obtain ⟨b, vs, g1, g2, g3, g4⟩ := h.loc k cs ty hk
  exact ⟨b, vs, g1, g2, (h5 b (h.rng k b g1)).trans g3, g4⟩
theorem ok146 : (vP C146).Ok Tryz.prog 146 := by
  refine ⟨fun B m lh w args vs K hrel hargs hsp => ?_, fun _ _ _ _ _ hk ⟨ds, d, p, r, h1, h2, h3, h4, h5⟩ => ⟨ds, d, p, r, h1, h2, h3, h4, hk _ _ h5⟩, fun _ _ _ _ ⟨_, _, _, _, _, _, _, _, h⟩ => h⟩
  obtain ⟨ds, d, p, r, h1, h2, ⟨h30, h3⟩, h4, h5⟩ := hsp
  simp only [C146, mkC, Option.some.injEq, Prod.mk.injEq] at h2
  obtain ⟨rfl, rfl, rfl⟩ := h2
  have hty := (fxs_ok [.str, .str] ds [] [] rfl h30).1
  simp only [hasTys, hasTy] at hty
  obtain ⟨e1, e2, e3, e4, e5⟩ := hty
  rw [e5] at e3
  rw [e3, e2, e4] at e1
  generalize sv (hdV ds) = s at e1
  generalize sv (hdV (tlV ds)) = c at e1
  subst e1
  simp only [unqs, unq] at h3 h4 h5
  obtain ⟨hs, rfl⟩ := h3
  simp only [vrs, vr] at h1
  obtain ⟨_, _, rfl, rfl, _, _, rfl, rfl, rfl⟩ := h1
  simp only [vrels, vrel] at hargs
  obtain ⟨_, _, rfl, rfl, _, _, rfl, rfl, rfl⟩ := hargs
  refine ⟨⟨_, Tryz.func146, by kernel_rfl, by kernel_rfl⟩, (trim_calls s w hs).mono fun e w' ⟨he, hb⟩ => ?_⟩
  exact ⟨_, _, m, lh, he, by simp only [toA, vrel], Ext.refl _ _, HRel.below hrel hb, h5⟩
theorem str_pos (s : ByteArray) (h : (!s.toList == (⟨#[]⟩ : ByteArray).toList) = true) : (0 : Int) < (s.size : Int) := by
  have e : (⟨#[]⟩ : ByteArray).toList = [] := by decide +kernel
  by_cases hz : s.size = 0
  · have : s = ⟨#[]⟩ := by
      cases s with | mk d => 
      have : d = #[] := Array.eq_empty_of_size_eq_zero hz
      rw [this]
    rw [this, e] at h; cases h
  · omega
end Go.Dx
namespace Go.Dx
open Go.IntKind (i64 u64 u8)
open Go.Sx Go.Proofs
set_option maxRecDepth 100000
set_option linter.unusedVariables false
set_option linter.unusedSimpArgs false
def ctB9 : CTab := [(147, .con C147), (64, .con C64), (66, .con C66), (113, .con C113), (65, .con C65), (67, .con C67), (53, .con C53), (58, .con C58), (122, .con C122), (72, .con C72), (45, .con C45), (90, .con C90), (119, .con C119), (121, .con C121), (99, .con C99), (129, .con C129), (148, .con C148), (149, .con C149), (112, .con C112), (118, .con C118), (120, .con C120), (51, .con C51), (133, .con C133), (103, .con C103), (106, .con C106), (100, .con C100), (150, .con C150), (134, .con C134), (135, .con C135), (137, .con C137), (138, .con C138), (78, .con C78), (54, .con C54), (59, .con C59), (48, .con C48), (102, .con C102), (171, .con C171), (84, .con C84), (85, .con C85), (127, .con C127), (101, .con C101), (86, .con C86), (71, .con C71), (93, .con C93), (92, .con C92), (79, .con C79), (136, .con C136), (144, .con C144), (125, .con C125), (162, .con C162), (146, .con C146)]
theorem tabB9 : TabOk Tryz.prog eqs its ctB9 := .con ok147 (.con ok64 (.con ok66 (.con ok113 (.con ok65 (.con ok67 (.con ok53 (.con ok58 (.con ok122 (.con ok72 (.con ok45 (.con ok90 (.con ok119 (.con ok121 (.con ok99 (.con ok129 (.con ok148 (.con ok149 (.con ok112 (.con ok118 (.con ok120 (.con ok51 (.con ok133 (.con ok103 (.con ok106 (.con ok100 (.con ok150 (.con ok134 (.con ok135 (.con ok137 (.con ok138 (.con ok78 (.con ok54 (.con ok59 (.con ok48 (.con ok102 (.con ok171 (.con ok84 (.con ok85 (.con ok127 (.con ok101 (.con ok86 (.con ok71 (.con ok93 (.con ok92 (.con ok79 (.con ok136 (.con ok144 (.con ok125 (.con ok162 (.con ok146 (.nil)))))))))))))))))))))))))))))))))))))))))))))))))))
def m115 (n0 : Nat) (f0 : FnV) : RT Empty := .obc (.obt (.ret (V.bool (decide (0 <= F147 n0 (elV [Ty.int i64, Ty.int i64] f0))))))
def rl115 (n0 : Nat) (f0 : FnV) : T (Leaf (Nat × Nat)) := runL (Nat × Nat) ctB9 u0 s115 [V.sl n0 (elV [Ty.int i64, Ty.int i64] f0), V.fn 113 [] []]
theorem f115m (n0 : Nat) (f0 : FnV) : fitT noD (rl115 n0 f0) (m115 n0 f0) = toF noD (m115 n0 f0) := by kernel_rfl
theorem q115m (n0 : Nat) (f0 : FnV) : sameT (rl115 n0 f0) (m115 n0 f0) = (rl115 n0 f0) := by kernel_rfl
theorem run115 (w0 : World) (n0 : Nat) (f0 : FnV) {r : V} (h : evR noE (m115 n0 f0) r) : sat (LPof w0 (SV ctB9)) (runL (Nat × Nat) ctB9 u0 s115 [V.sl n0 (elV [Ty.int i64, Ty.int i64] f0), V.fn 113 [] []]) (topQ r) := run_ev0 (by kernel_rfl) _ (f115m n0 f0) (q115m n0 f0) h
def F115_0 (n0 : Nat) (f0 : FnV) : Bool := decide (0 <= F147 n0 (elV [Ty.int i64, Ty.int i64] f0))
def R115 (n0 : Nat) (f0 : FnV) : V := .bool (F115_0 n0 f0)
theorem ev115 (n0 : Nat) (f0 : FnV) : evR noE (m115 n0 f0) (R115 n0 f0) := evObc (evObt (evRet (by unfold R115 F115_0; rfl)))
def C115 : PCon := mkC [.sl [.int .i64, .int .i64], .fn 113 [] []] (fun _ => True) fun
  | [.sl n0 f0, .fn _ [] []] => R115 n0 f0
  | _ => .any
theorem ok115 : (vP C115).Ok Tryz.prog 115 := mkC_ev (J := Nat × Nat) (un := u0) tabB9 hE hI Tryz.func115 (by kernel_rfl) (by kernel_rfl) (by kernel_rfl) rfl (fun w0 ds hp => run115 w0 _ _ (ev115 _ _))
def m114 (s0 : ByteArray) : RT Empty := .obp (s0.size <= (9223372036854775807 : Nat) /\ ByteArray.mk (Array.mk [(97 : UInt8), (98 : UInt8), (99 : UInt8), (100 : UInt8), (101 : UInt8), (102 : UInt8), (103 : UInt8), (104 : UInt8), (105 : UInt8), (106 : UInt8), (107 : UInt8), (108 : UInt8), (109 : UInt8), (110 : UInt8), (111 : UInt8), (112 : UInt8), (113 : UInt8), (114 : UInt8), (115 : UInt8), (116 : UInt8), (117 : UInt8), (118 : UInt8), (119 : UInt8), (120 : UInt8), (121 : UInt8), (122 : UInt8), (48 : UInt8), (49 : UInt8), (50 : UInt8), (51 : UInt8), (52 : UInt8), (53 : UInt8), (54 : UInt8), (55 : UInt8), (56 : UInt8), (57 : UInt8), (45 : UInt8)]) = ByteArray.mk (Array.mk [(97 : UInt8), (98 : UInt8), (99 : UInt8), (100 : UInt8), (101 : UInt8), (102 : UInt8), (103 : UInt8), (104 : UInt8), (105 : UInt8), (106 : UInt8), (107 : UInt8), (108 : UInt8), (109 : UInt8), (110 : UInt8), (111 : UInt8), (112 : UInt8), (113 : UInt8), (114 : UInt8), (115 : UInt8), (116 : UInt8), (117 : UInt8), (118 : UInt8), (119 : UInt8), (120 : UInt8), (121 : UInt8), (122 : UInt8), (48 : UInt8), (49 : UInt8), (50 : UInt8), (51 : UInt8), (52 : UInt8), (53 : UInt8), (54 : UInt8), (55 : UInt8), (56 : UInt8), (57 : UInt8), (45 : UInt8)])) (.obt (.obi (.obi (.obi (.obi (.obi (.obi (.obj (bif bif !s0.toList == (ByteArray.mk (Array.mk [])).toList then decide ((↑s0.size : Int) <= 24) else false then (F146 s0 (ByteArray.mk (Array.mk [97, 98, 99, 100, 101, 102, 103, 104, 105, 106, 107, 108, 109, 110, 111, 112, 113, 114, 115, 116, 117, 118, 119, 120, 121, 122, 48, 49, 50, 51, 52, 53, 54, 55, 56, 57, 45]))).toList == (ByteArray.mk (Array.mk [])).toList else false) (decide ((0 : Int) <= 0 /\ 0 < (↑s0.size : Int))) (.obi (.obi (.obi (.obj (bif bif bif !s0.toList == (ByteArray.mk (Array.mk [])).toList then decide ((↑s0.size : Int) <= 24) else false then (F146 s0 (ByteArray.mk (Array.mk [97, 98, 99, 100, 101, 102, 103, 104, 105, 106, 107, 108, 109, 110, 111, 112, 113, 114, 115, 116, 117, 118, 119, 120, 121, 122, 48, 49, 50, 51, 52, 53, 54, 55, 56, 57, 45]))).toList == (ByteArray.mk (Array.mk [])).toList else false then decide (97 <= (↑(s0.data.1.getD 0 0).toNat : Int)) else false) (decide ((0 : Int) <= 0 /\ 0 < (↑s0.size : Int))) (.obi (.obi (.ret (V.bool (bif bif bif bif !s0.toList == (ByteArray.mk (Array.mk [])).toList then decide ((↑s0.size : Int) <= 24) else false then (F146 s0 (ByteArray.mk (Array.mk [97, 98, 99, 100, 101, 102, 103, 104, 105, 106, 107, 108, 109, 110, 111, 112, 113, 114, 115, 116, 117, 118, 119, 120, 121, 122, 48, 49, 50, 51, 52, 53, 54, 55, 56, 57, 45]))).toList == (ByteArray.mk (Array.mk [])).toList else false then decide (97 <= (↑(s0.data.1.getD 0 0).toNat : Int)) else false then decide ((↑(s0.data.1.getD 0 0).toNat : Int) <= 122) else false)))))))))))))))))
def rl114 (s0 : ByteArray) : T (Leaf (Nat × Nat)) := runL (Nat × Nat) ctB9 u0 s114 [V.str s0]
theorem f114m (s0 : ByteArray) : fitT noD (rl114 s0) (m114 s0) = toF noD (m114 s0) := by kernel_rfl
theorem q114m (s0 : ByteArray) : sameT (rl114 s0) (m114 s0) = (rl114 s0) := by kernel_rfl
theorem run114 (w0 : World) (s0 : ByteArray) {r : V} (h : evR noE (m114 s0) r) : sat (LPof w0 (SV ctB9)) (runL (Nat × Nat) ctB9 u0 s114 [V.str s0]) (topQ r) := run_ev0 (by kernel_rfl) _ (f114m s0) (q114m s0) h
def F114_0 (s0 : ByteArray) : Bool := bif bif bif bif !s0.toList == (ByteArray.mk (Array.mk [])).toList then decide ((↑s0.size : Int) <= 24) else false then (F146 s0 (ByteArray.mk (Array.mk [97, 98, 99, 100, 101, 102, 103, 104, 105, 106, 107, 108, 109, 110, 111, 112, 113, 114, 115, 116, 117, 118, 119, 120, 121, 122, 48, 49, 50, 51, 52, 53, 54, 55, 56, 57, 45]))).toList == (ByteArray.mk (Array.mk [])).toList else false then decide (97 <= (↑(s0.data.1.getD 0 0).toNat : Int)) else false then decide ((↑(s0.data.1.getD 0 0).toNat : Int) <= 122) else false
def R114 (s0 : ByteArray) : V := .bool (F114_0 s0)
theorem ev114 (s0 : ByteArray) (hp : s0.size <= 9223372036854775807) : evR noE (m114 s0) (R114 s0) := evObp (by first | assumption | (exact ⟨hp, rfl⟩)) (evObt (evObi (evObi (evObi (evObi (evObi (evObi (evObj (by first | assumption | (intro h; refine decide_eq_true ⟨Int.le_refl 0, str_pos s0 ?_⟩; cases hb : (!s0.toList == (⟨#[]⟩ : ByteArray).toList) with | true => rfl | false => (rw [hb] at h; simp at h))) (evObi (evObi (evObi (evObj (by first | assumption | (intro h; refine decide_eq_true ⟨Int.le_refl 0, str_pos s0 ?_⟩; cases hb : (!s0.toList == (⟨#[]⟩ : ByteArray).toList) with | true => rfl | false => (rw [hb] at h; simp at h))) (evObi (evObi (evRet (by unfold R114 F114_0; rfl))))))))))))))))
def C114 : PCon := mkC [.str] (fun
  | [.str s0] => s0.size <= 9223372036854775807
  | _ => False) fun
  | [.str s0] => R114 s0
  | _ => .any
theorem ok114 : (vP C114).Ok Tryz.prog 114 := mkC_ev (J := Nat × Nat) (un := u0) tabB9 hE hI Tryz.func114 (by kernel_rfl) (by kernel_rfl) (by kernel_rfl) rfl (fun w0 ds hp => run114 w0 _ (ev114 _ hp))
inductive S73 where
  | L0 (i_100 : Int)
def inv73 (n0 : Nat) (f0 : FnV) (n2 : Nat) (f2 : FnV) (n4 : Nat) (f4 : FnV) (n6 : Nat) (f6 : FnV) (x8 : Int) : S73 -> Env × List O × Option Ex
  | .L0 i_100 => ([(6, V.int i64 i_100), (15, V.kb false), (14, V.bool (F122 (sv (hdV (f6 x8.toNat))))), (13, V.str (sv (hdV (f6 x8.toNat)))), (12, V.pl 0 0), (5, V.pl 0 0), (11, V.agg [V.str (sv (hdV (f6 x8.toNat))), V.int i64 (iv (hdV (tlV (f6 x8.toNat)))), V.int i64 (iv (hdV (tlV (tlV (f6 x8.toNat))))), V.int i64 (iv (hdV (tlV (tlV (tlV (f6 x8.toNat)))))), V.int i64 (iv (hdV (tlV (tlV (tlV (tlV (f6 x8.toNat))))))), V.int i64 (iv (hdV (tlV (tlV (tlV (tlV (tlV (f6 x8.toNat))))))))]), (10, V.pd [V.str (sv (hdV (f6 x8.toNat))), V.int i64 (iv (hdV (tlV (f6 x8.toNat)))), V.int i64 (iv (hdV (tlV (tlV (f6 x8.toNat))))), V.int i64 (iv (hdV (tlV (tlV (tlV (f6 x8.toNat)))))), V.int i64 (iv (hdV (tlV (tlV (tlV (tlV (f6 x8.toNat))))))), V.int i64 (iv (hdV (tlV (tlV (tlV (tlV (tlV (f6 x8.toNat))))))))]), (9, V.int i64 x8), (8, V.sl n6 (elV tyC f6)), (7, V.pl 1 3), (4, V.int i64 0), (2, V.pl 1 0), (0, scV n0 f0 n2 f2 n4 f4 n6 f6), (1, V.int i64 x8)], [O.cells [V.str (sv (hdV (f6 x8.toNat))), V.int i64 (iv (hdV (tlV (f6 x8.toNat)))), V.int i64 (iv (hdV (tlV (tlV (f6 x8.toNat))))), V.int i64 (iv (hdV (tlV (tlV (tlV (f6 x8.toNat)))))), V.int i64 (iv (hdV (tlV (tlV (tlV (tlV (f6 x8.toNat))))))), V.int i64 (iv (hdV (tlV (tlV (tlV (tlV (tlV (f6 x8.toNat))))))))] 100, O.cells [V.sl n0 (elV tyR f0), V.sl n2 (elV tyT f2), V.sl n4 (elV tyF f4), V.sl n6 (elV tyC f6)] 27], none)
def id73 : S73 -> Nat × Nat
  | .L0 i_100 => (0, 0)
def rl73 (n0 : Nat) (f0 : FnV) (n2 : Nat) (f2 : FnV) (n4 : Nat) (f4 : FnV) (n6 : Nat) (f6 : FnV) (x8 : Int) : T (Leaf (Nat × Nat)) := runL (Nat × Nat) ctB9 u0 s73 [scV n0 f0 n2 f2 n4 f4 n6 f6, V.int i64 x8]
def lp73_0 (n0 : Nat) (f0 : FnV) (n2 : Nat) (f2 : FnV) (n4 : Nat) (f4 : FnV) (n6 : Nat) (f6 : FnV) (x8 : Int) (cx : Nat) : Lp (Nat × Nat) := lpT (atT (rl73 n0 f0 n2 f2 n4 f4 n6 f6 x8) [false])
def lp73 (n0 : Nat) (f0 : FnV) (n2 : Nat) (f2 : FnV) (n4 : Nat) (f4 : FnV) (n6 : Nat) (f6 : FnV) (x8 : Int) : Nat × Nat -> Lp (Nat × Nat)
  | (0, cx) => lp73_0 n0 f0 n2 f2 n4 f4 n6 f6 x8 cx
  | (_, cx) => lp73_0 n0 f0 n2 f2 n4 f4 n6 f6 x8 cx
def D73 (n0 : Nat) (f0 : FnV) (n2 : Nat) (f2 : FnV) (n4 : Nat) (f4 : FnV) (n6 : Nat) (f6 : FnV) (x8 : Int) : LD (Nat × Nat) S73 := ⟨id73, lp73 n0 f0 n2 f2 n4 f4 n6 f6 x8, inv73 n0 f0 n2 f2 n4 f4 n6 f6 x8⟩
def st73 (n0 : Nat) (f0 : FnV) (n2 : Nat) (f2 : FnV) (n4 : Nat) (f4 : FnV) (n6 : Nat) (f6 : FnV) (x8 : Int) : S73 -> RT S73
  | .L0 i_100 => .br (decide (i_100 < x8)) (.ob (decide (0 <= i_100 /\ i_100 < (↑n6 : Int))) (.br ((sv (hdV (f6 i_100.toNat))).toList == (sv (hdV (f6 x8.toNat))).toList) (.ret (V.int i64 5)) (.next [some (some 0), some (some 1)] (S73.L0 (i64.wrap (i_100 + 1))) []))) (.obc (.obt (.obi (.br (!!F51 2 (elV [Ty.int i64] (secF [V.int i64 (iv (hdV (tlV (f6 x8.toNat)))), V.int i64 (iv (hdV (tlV (tlV (f6 x8.toNat)))))] 0 ((1 + 1 - 0) / 2)))) (.ob (!!F51 2 (elV [Ty.int i64] (secF [V.int i64 (iv (hdV (tlV (f6 x8.toNat)))), V.int i64 (iv (hdV (tlV (tlV (f6 x8.toNat)))))] 0 ((1 + 1 - 0) / 2)))) (.obc (.obt (.obi (.br (!!F71_0 (iv (hdV (tlV (tlV (tlV (f6 x8.toNat)))))) 1 200) (.ob (!!F71_0 (iv (hdV (tlV (tlV (tlV (f6 x8.toNat)))))) 1 200) (.obc (.obt (.obi (.br (!!F71_0 (iv (hdV (tlV (tlV (tlV (tlV (f6 x8.toNat))))))) (-1000) 1000) (.ob (!!F71_0 (iv (hdV (tlV (tlV (tlV (tlV (f6 x8.toNat))))))) (-1000) 1000) (.obc (.obt (.br (!F71_0 (iv (hdV (tlV (tlV (tlV (tlV (tlV (f6 x8.toNat)))))))) (-1000) 1000) (.ret (V.int i64 7)) (.obi (.obi (.obi (.br (bif iv (hdV (tlV (tlV (tlV (tlV (f6 x8.toNat)))))) == 0 then iv (hdV (tlV (tlV (tlV (tlV (tlV (f6 x8.toNat))))))) == 0 else false) (.ret (V.int i64 2)) (.ret (V.int i64 0)))))))))) (.ret (V.int i64 7))))))) (.ret (V.int i64 7))))))) (.ret (V.int i64 7))))))
def m73 (n0 : Nat) (f0 : FnV) (n2 : Nat) (f2 : FnV) (n4 : Nat) (f4 : FnV) (n6 : Nat) (f6 : FnV) (x8 : Int) : RT S73 := .ob (decide (0 <= x8 /\ x8 < (↑n6 : Int))) (.obp ((sv (hdV (f6 x8.toNat))).size <= (9223372036854775807 : Nat)) (.obt (.br (!F122 (sv (hdV (f6 x8.toNat)))) (.ret (V.int i64 6)) (.enter [some (some 1), some (some 0)] (S73.L0 (0)) []))))
theorem f73m (n0 : Nat) (f0 : FnV) (n2 : Nat) (f2 : FnV) (n4 : Nat) (f4 : FnV) (n6 : Nat) (f6 : FnV) (x8 : Int) : fitT (D73 n0 f0 n2 f2 n4 f4 n6 f6 x8) (rl73 n0 f0 n2 f2 n4 f4 n6 f6 x8) (m73 n0 f0 n2 f2 n4 f4 n6 f6 x8) = toF (D73 n0 f0 n2 f2 n4 f4 n6 f6 x8) (m73 n0 f0 n2 f2 n4 f4 n6 f6 x8) := by kernel_rfl
theorem q73m (n0 : Nat) (f0 : FnV) (n2 : Nat) (f2 : FnV) (n4 : Nat) (f4 : FnV) (n6 : Nat) (f6 : FnV) (x8 : Int) : sameT (rl73 n0 f0 n2 f2 n4 f4 n6 f6 x8) (m73 n0 f0 n2 f2 n4 f4 n6 f6 x8) = (rl73 n0 f0 n2 f2 n4 f4 n6 f6 x8) := by kernel_rfl
theorem f73_0 (n0 : Nat) (f0 : FnV) (n2 : Nat) (f2 : FnV) (n4 : Nat) (f4 : FnV) (n6 : Nat) (f6 : FnV) (x8 i_100 : Int) : fitT (D73 n0 f0 n2 f2 n4 f4 n6 f6 x8) (rdS ctB9 u0 (D73 n0 f0 n2 f2 n4 f4 n6 f6 x8) (S73.L0 i_100)) (st73 n0 f0 n2 f2 n4 f4 n6 f6 x8 (S73.L0 i_100)) = toF (D73 n0 f0 n2 f2 n4 f4 n6 f6 x8) (st73 n0 f0 n2 f2 n4 f4 n6 f6 x8 (S73.L0 i_100)) := by kernel_rfl
theorem q73_0 (n0 : Nat) (f0 : FnV) (n2 : Nat) (f2 : FnV) (n4 : Nat) (f4 : FnV) (n6 : Nat) (f6 : FnV) (x8 i_100 : Int) : sameT (rdS ctB9 u0 (D73 n0 f0 n2 f2 n4 f4 n6 f6 x8) (S73.L0 i_100)) (st73 n0 f0 n2 f2 n4 f4 n6 f6 x8 (S73.L0 i_100)) = rdS ctB9 u0 (D73 n0 f0 n2 f2 n4 f4 n6 f6 x8) (S73.L0 i_100) := by kernel_rfl
theorem run73 (w0 : World) (n0 : Nat) (f0 : FnV) (n2 : Nat) (f2 : FnV) (n4 : Nat) (f4 : FnV) (n6 : Nat) (f6 : FnV) (x8 : Int) {r : V} (h : evR (Ev (st73 n0 f0 n2 f2 n4 f4 n6 f6 x8)) (m73 n0 f0 n2 f2 n4 f4 n6 f6 x8) r) : sat (LPof w0 (SV ctB9)) (runL (Nat × Nat) ctB9 u0 s73 [scV n0 f0 n2 f2 n4 f4 n6 f6, V.int i64 x8]) (topQ r) := run_ev (by kernel_rfl) (D73 n0 f0 n2 f2 n4 f4 n6 f6 x8) (st73 n0 f0 n2 f2 n4 f4 n6 f6 x8) _ (f73m n0 f0 n2 f2 n4 f4 n6 f6 x8) (q73m n0 f0 n2 f2 n4 f4 n6 f6 x8) (fun s => match s with | .L0 i_100 => f73_0 n0 f0 n2 f2 n4 f4 n6 f6 x8 i_100) (fun s => match s with | .L0 i_100 => q73_0 n0 f0 n2 f2 n4 f4 n6 f6 x8 i_100) h
def colE (x y h dx dy : Int) : Int := bif bif bif bif !F51 2 (elV [.int .i64] (secF [V.int .i64 x, V.int .i64 y] 0 ((1 + 1 - 0) / 2))) then true else !F71_0 h 1 200 then true else !F71_0 dx (-1000) 1000 then true else !F71_0 dy (-1000) 1000 then 7 else bif bif dx == 0 then dy == 0 else false then 2 else 0
def F73 (n6 : Nat) (f6 : FnV) (x8 : Int) : Int := bif !F122 (sv (hdV (f6 x8.toNat))) then 6 else bif exB x8.toNat (fun k => (sv (hdV (f6 k))).toList == (sv (hdV (f6 x8.toNat))).toList) then 5 else colE (iv (hdV (tlV (f6 x8.toNat)))) (iv (hdV (tlV (tlV (f6 x8.toNat))))) (iv (hdV (tlV (tlV (tlV (f6 x8.toNat)))))) (iv (hdV (tlV (tlV (tlV (tlV (f6 x8.toNat))))))) (iv (hdV (tlV (tlV (tlV (tlV (tlV (f6 x8.toNat))))))))
theorem ev73_0 (n0 : Nat) (f0 : FnV) (n2 : Nat) (f2 : FnV) (n4 : Nat) (f4 : FnV) (n6 : Nat) (f6 : FnV) (x8 : Int) (hp : 0 <= x8 /\ x8 < n6 /\ n6 <= 9223372036854775807 /\ SzOk n6 f6) : evR (Ev (st73 n0 f0 n2 f2 n4 f4 n6 f6 x8)) (m73 n0 f0 n2 f2 n4 f4 n6 f6 x8) (.int .i64 (F73 n6 f6 x8)) := by
  obtain ⟨h0, h1, h2, h3⟩ := hp
  obtain ⟨k, rfl⟩ : ∃ k : Nat, x8 = (k : Int) := ⟨x8.toNat, by omega⟩
  have hk : k < n6 := by omega
  refine evObLt hk (evObp (h3 k hk) (evObt ?_))
  unfold F73
  simp only [Int.toNat_natCast]
  refine evBr (fun h => evRet (by rw [show (!F122 (sv (hdV (f6 k)))) = true from h]; rfl)) (fun h => ?_)
  rw [show (!F122 (sv (hdV (f6 k)))) = false from h, cond_false]
  refine evEnter (scan (n := k) (by omega) (fun i => (sv (hdV (f6 i))).toList == (sv (hdV (f6 k))).toList) (P := fun i => Ev (st73 n0 f0 n2 f2 n4 f4 n6 f6 (k : Int)) (.L0 i) _) (fun i hlt hj next => Ev.of rfl (evBrLt hlt (evObLt (by omega) (evBr (fun hb => evRet ?_) (fun hb => evNext (next hb))))))
    (fun hj => Ev.of rfl (evBrGe ?_)))
  · rw [exB_true i hlt hb]; rfl
  · rw [exB_false hj, cond_false]
    unfold colE
    refine evObc (evObt (evObi (evBr (fun h => evOb h (evObc (evObt (evObi (evBr (fun h' => evOb h' (evObc (evObt (evObi (evBr (fun h'' => evOb h'' (evObc (evObt (evBr (fun h3 => evRet ?_) (fun h3 => ?_))))) (fun h'' => evRet ?_)))))) (fun h' => evRet ?_)))))) (fun h => evRet ?_))))
    all_goals try simp only [Int.toNat_natCast] at *
    · rw [ng h, ng h', ng h'', h3]; rfl
    · rw [ng h, ng h', ng h'', h3]
      repeat refine evObi ?_
      refine evBr (fun h4 => evRet ?_) (fun h4 => evRet ?_) <;> (simp only [cond_false]; rw [h4]; rfl)
    · rw [ng h, ng h', ng' h'']; rfl
    · rw [ng h, ng' h']; rfl
    · rw [ng' h]; rfl
theorem ev73 (n0 : Nat) (f0 : FnV) (n2 : Nat) (f2 : FnV) (n4 : Nat) (f4 : FnV) (n6 : Nat) (f6 : FnV) (x8 : Int) (hp : 0 <= x8 /\ x8 < n6 /\ n6 <= 9223372036854775807 /\ SzOk n6 (elV tyC f6)) : evR (Ev (st73 n0 f0 n2 f2 n4 f4 n6 f6 x8)) (m73 n0 f0 n2 f2 n4 f4 n6 f6 x8) (.int .i64 (F73 n6 (elV tyC f6) x8)) := ev73_0 n0 f0 n2 f2 n4 f4 n6 f6 x8 hp
def C73 : PCon := mkC [.agg [.sl tyR, .sl tyT, .sl tyF, .sl tyC], .int .i64] (fun
  | [.agg [.sl n0 f0, .sl n2 f2, .sl n4 f4, .sl n6 f6], .int _ x8] => 0 <= x8 /\ x8 < n6 /\ n6 <= 9223372036854775807 /\ SzOk n6 f6
  | _ => False) fun
  | [.agg [.sl n0 f0, .sl n2 f2, .sl n4 f4, .sl n6 f6], .int _ x8] => .int .i64 (F73 n6 f6 x8)
  | _ => .any
theorem ok73 : (vP C73).Ok Tryz.prog 73 := mkC_ev (J := Nat × Nat) (un := u0) tabB9 hE hI Tryz.func73 (by kernel_rfl) (by kernel_rfl) (by kernel_rfl) rfl (fun w0 ds hp => run73 w0 _ _ _ _ _ _ _ _ _ (ev73 _ _ _ _ _ _ _ _ _ hp))
end Go.Dx
namespace Go.Dx
open Go.IntKind (i64 u64 u8)
open Go.Sx Go.Proofs
set_option maxRecDepth 100000
set_option linter.unusedVariables false
set_option linter.unusedSimpArgs false
def ctB10 : CTab := (117, .inl s117 u0) :: (116, .inl s116 u0) :: (115, .con C115) :: (114, .con C114) :: (73, .con C73) :: ctB9
theorem tabB10 : TabOk Tryz.prog eqs its ctB10 := .inl Tryz.func117 (by kernel_rfl) (by kernel_rfl) (by kernel_rfl) (.inl Tryz.func116 (by kernel_rfl) (by kernel_rfl) (by kernel_rfl) (.con ok115 (.con ok114 (.con ok73 (tabB9)))))
inductive S63 where
  | L0 (i_100 : Int) (f_101 : Nat -> List V)
  | L1 (i_200 : Int) (f_201 : Nat -> List V)
  | L2 (i_300 : Int) (f_301 : Nat -> List V)
  | L3 (i_400 : Int) (f_401 : Nat -> List V)
  | L4 (i_500 : Int) (n_501 n_502 : Nat) (i_503 i_504 i_505 : Int) (n_506 : Nat) (i_507 i_508 i_509 i_510 : Int) (f_511 : Nat -> List V)
  | L5 (i_600 : Int) (n_601 n_602 : Nat) (i_603 i_604 i_605 : Int) (n_606 : Nat) (i_607 i_608 i_609 i_610 : Int) (f_611 : Nat -> List V)
  | L6 (i_700 : Int) (n_701 n_702 : Nat) (i_703 i_704 i_705 : Int) (n_706 : Nat) (i_707 i_708 i_709 i_710 : Int) (f_711 : Nat -> List V)
  | L7 (i_800 : Int) (n_801 n_802 : Nat) (i_803 i_804 i_805 : Int) (n_806 : Nat) (i_807 i_808 i_809 i_810 : Int) (f_811 : Nat -> List V)
def inv63 (n0 : Nat) (f0 : FnV) (s2 : ByteArray) (x3 : Int) (n4 : Nat) (f4 : FnV) (x6 : Int) : S63 -> Env × List O × Option Ex
  | .L0 i_100 f_101 => ([(3, V.int i64 i_100), (8, V.kb false), (7, V.int i64 (↑n4 : Int)), (6, V.gs 2 n4), (2, V.ns), (0, V.gs 2 n4)], [O.cells [V.str s2, V.int i64 x3, V.sl n4 (elV [Ty.int i64, Ty.int i64] f4), V.int i64 x6] 54, O.hid, O.gl 2 n4 (elV [Ty.int i64, Ty.int i64] f_101) 72], none)
  | .L1 i_200 f_201 => ([(3, V.int i64 i_200), (8, V.kb false), (7, V.int i64 (↑n4 : Int)), (6, V.gs 2 n4), (2, V.ns), (0, V.gs 2 n4)], [O.cells [V.str s2, V.int i64 x3, V.sl n4 (elV [Ty.int i64, Ty.int i64] f4), V.int i64 x6] 54, O.hid, O.gl 2 n4 (elV [Ty.int i64, Ty.int i64] f_201) 72], none)
  | .L2 i_300 f_301 => ([(3, V.int i64 i_300), (8, V.kb false), (7, V.int i64 (↑n4 : Int)), (6, V.gs 2 n4), (2, V.ns), (0, V.gs 2 n4)], [O.cells [V.str s2, V.int i64 x3, V.sl n4 (elV [Ty.int i64, Ty.int i64] f4), V.int i64 x6] 54, O.hid, O.gl 2 n4 (elV [Ty.int i64, Ty.int i64] f_301) 72], none)
  | .L3 i_400 f_401 => ([(3, V.int i64 i_400), (8, V.kb false), (7, V.int i64 (↑n4 : Int)), (6, V.gs 2 n4), (2, V.ns), (0, V.gs 2 n4)], [O.cells [V.str s2, V.int i64 x3, V.sl n4 (elV [Ty.int i64, Ty.int i64] f4), V.int i64 x6] 54, O.hid, O.gl 2 n4 (elV [Ty.int i64, Ty.int i64] f_401) 72], none)
  | .L4 i_500 n_501 n_502 i_503 i_504 i_505 n_506 i_507 i_508 i_509 i_510 f_511 => ([(5, V.int i64 i_500), (4, V.go 2 n_501 n_502), (28, V.go 2 n_501 n_502), (27, V.int i64 i_503), (26, V.gs 2 n4), (25, V.kb true), (24, V.agg [V.int i64 i_504, V.int i64 i_505]), (23, V.pe 2 n_506 0), (22, V.int i64 i_507), (21, V.int i64 i_503), (20, V.gs 2 n4), (19, V.agg [V.int i64 i_508, V.int i64 i_509]), (18, V.pe 2 n_501 0), (17, V.int i64 i_503), (16, V.gs 2 n4), (13, V.kb true), (12, V.int i64 (↑n4 : Int)), (11, V.gs 2 n4), (10, V.int i64 i_503), (3, V.int i64 i_510), (8, V.kb false), (7, V.int i64 (↑n4 : Int)), (6, V.gs 2 n4), (2, V.ns), (0, V.gs 2 n4)], [O.cells [V.str s2, V.int i64 x3, V.sl n4 (elV [Ty.int i64, Ty.int i64] f4), V.int i64 x6] 54, O.hid, O.gl 2 n4 (elV [Ty.int i64, Ty.int i64] f_511) 72], none)
  | .L5 i_600 n_601 n_602 i_603 i_604 i_605 n_606 i_607 i_608 i_609 i_610 f_611 => ([(5, V.int i64 i_600), (4, V.go 2 n_601 n_602), (28, V.go 2 n_601 n_602), (27, V.int i64 i_603), (26, V.gs 2 n4), (25, V.kb true), (24, V.agg [V.int i64 i_604, V.int i64 i_605]), (23, V.pe 2 n_606 0), (22, V.int i64 i_607), (21, V.int i64 i_603), (20, V.gs 2 n4), (19, V.agg [V.int i64 i_608, V.int i64 i_609]), (18, V.pe 2 n_601 0), (17, V.int i64 i_603), (16, V.gs 2 n4), (13, V.kb true), (12, V.int i64 (↑n4 : Int)), (11, V.gs 2 n4), (10, V.int i64 i_603), (3, V.int i64 i_610), (8, V.kb false), (7, V.int i64 (↑n4 : Int)), (6, V.gs 2 n4), (2, V.ns), (0, V.gs 2 n4)], [O.cells [V.str s2, V.int i64 x3, V.sl n4 (elV [Ty.int i64, Ty.int i64] f4), V.int i64 x6] 54, O.hid, O.gl 2 n4 (elV [Ty.int i64, Ty.int i64] f_611) 72], none)
  | .L6 i_700 n_701 n_702 i_703 i_704 i_705 n_706 i_707 i_708 i_709 i_710 f_711 => ([(5, V.int i64 i_700), (4, V.go 2 n_701 n_702), (28, V.go 2 n_701 n_702), (27, V.int i64 i_703), (26, V.gs 2 n4), (25, V.kb true), (24, V.agg [V.int i64 i_704, V.int i64 i_705]), (23, V.pe 2 n_706 0), (22, V.int i64 i_707), (21, V.int i64 i_703), (20, V.gs 2 n4), (19, V.agg [V.int i64 i_708, V.int i64 i_709]), (18, V.pe 2 n_701 0), (17, V.int i64 i_703), (16, V.gs 2 n4), (13, V.kb true), (12, V.int i64 (↑n4 : Int)), (11, V.gs 2 n4), (10, V.int i64 i_703), (3, V.int i64 i_710), (8, V.kb false), (7, V.int i64 (↑n4 : Int)), (6, V.gs 2 n4), (2, V.ns), (0, V.gs 2 n4)], [O.cells [V.str s2, V.int i64 x3, V.sl n4 (elV [Ty.int i64, Ty.int i64] f4), V.int i64 x6] 54, O.hid, O.gl 2 n4 (elV [Ty.int i64, Ty.int i64] f_711) 72], none)
  | .L7 i_800 n_801 n_802 i_803 i_804 i_805 n_806 i_807 i_808 i_809 i_810 f_811 => ([(5, V.int i64 i_800), (4, V.go 2 n_801 n_802), (28, V.go 2 n_801 n_802), (27, V.int i64 i_803), (26, V.gs 2 n4), (25, V.kb true), (24, V.agg [V.int i64 i_804, V.int i64 i_805]), (23, V.pe 2 n_806 0), (22, V.int i64 i_807), (21, V.int i64 i_803), (20, V.gs 2 n4), (19, V.agg [V.int i64 i_808, V.int i64 i_809]), (18, V.pe 2 n_801 0), (17, V.int i64 i_803), (16, V.gs 2 n4), (13, V.kb true), (12, V.int i64 (↑n4 : Int)), (11, V.gs 2 n4), (10, V.int i64 i_803), (3, V.int i64 i_810), (8, V.kb false), (7, V.int i64 (↑n4 : Int)), (6, V.gs 2 n4), (2, V.ns), (0, V.gs 2 n4)], [O.cells [V.str s2, V.int i64 x3, V.sl n4 (elV [Ty.int i64, Ty.int i64] f4), V.int i64 x6] 54, O.hid, O.gl 2 n4 (elV [Ty.int i64, Ty.int i64] f_811) 72], none)
def id63 : S63 -> Nat × Nat
  | .L0 i_100 f_101 => (0, 0)
  | .L1 i_200 f_201 => (1, 0)
  | .L2 i_300 f_301 => (2, 0)
  | .L3 i_400 f_401 => (3, 0)
  | .L4 i_500 n_501 n_502 i_503 i_504 i_505 n_506 i_507 i_508 i_509 i_510 f_511 => (4, 0)
  | .L5 i_600 n_601 n_602 i_603 i_604 i_605 n_606 i_607 i_608 i_609 i_610 f_611 => (5, 0)
  | .L6 i_700 n_701 n_702 i_703 i_704 i_705 n_706 i_707 i_708 i_709 i_710 f_711 => (6, 0)
  | .L7 i_800 n_801 n_802 i_803 i_804 i_805 n_806 i_807 i_808 i_809 i_810 f_811 => (7, 0)
def rl63 (n0 : Nat) (f0 : FnV) (s2 : ByteArray) (x3 : Int) (n4 : Nat) (f4 : FnV) (x6 : Int) : T (Leaf (Nat × Nat)) := runL (Nat × Nat) ctB10 u0 s63 [V.sl n0 (elV tyR f0), V.agg [V.str s2, V.int i64 x3, V.sl n4 (elV [Ty.int i64, Ty.int i64] f4), V.int i64 x6]]
def lp63_0 (n0 : Nat) (f0 : FnV) (s2 : ByteArray) (x3 : Int) (n4 : Nat) (f4 : FnV) (x6 : Int) (cx : Nat) : Lp (Nat × Nat) := lpT (atT (rl63 n0 f0 s2 x3 n4 f4 x6) [false, false, false, false, false, true, false, true, true, false, true, false])
def lp63_1 (n0 : Nat) (f0 : FnV) (s2 : ByteArray) (x3 : Int) (n4 : Nat) (f4 : FnV) (x6 : Int) (cx : Nat) : Lp (Nat × Nat) := lpT (atT (rl63 n0 f0 s2 x3 n4 f4 x6) [false, false, false, false, false, true, false, true, true, false, false, false])
def lp63_2 (n0 : Nat) (f0 : FnV) (s2 : ByteArray) (x3 : Int) (n4 : Nat) (f4 : FnV) (x6 : Int) (cx : Nat) : Lp (Nat × Nat) := lpT (atT (rl63 n0 f0 s2 x3 n4 f4 x6) [false, false, false, false, false, true, false, true, false, false, false])
def lp63_3 (n0 : Nat) (f0 : FnV) (s2 : ByteArray) (x3 : Int) (n4 : Nat) (f4 : FnV) (x6 : Int) (cx : Nat) : Lp (Nat × Nat) := lpT (atT (rl63 n0 f0 s2 x3 n4 f4 x6) [false, false, false, false, false, true, false, false, false, false])
def lp63_4 (n0 : Nat) (f0 : FnV) (s2 : ByteArray) (x3 : Int) (n4 : Nat) (f4 : FnV) (x6 : Int) (cx : Nat) : Lp (Nat × Nat) := lpT (atT (rdT ctB10 u0 (0, cx) (lp63_0 n0 f0 s2 x3 n4 f4 x6 cx) (inv63 n0 f0 s2 x3 n4 f4 x6 (.L0 (0 : Int) (fun _ => []))).1 (inv63 n0 f0 s2 x3 n4 f4 x6 (.L0 (0 : Int) (fun _ => []))).2.1 (inv63 n0 f0 s2 x3 n4 f4 x6 (.L0 (0 : Int) (fun _ => []))).2.2) [true, true])
def lp63_5 (n0 : Nat) (f0 : FnV) (s2 : ByteArray) (x3 : Int) (n4 : Nat) (f4 : FnV) (x6 : Int) (cx : Nat) : Lp (Nat × Nat) := lpT (atT (rdT ctB10 u0 (1, cx) (lp63_1 n0 f0 s2 x3 n4 f4 x6 cx) (inv63 n0 f0 s2 x3 n4 f4 x6 (.L1 (0 : Int) (fun _ => []))).1 (inv63 n0 f0 s2 x3 n4 f4 x6 (.L1 (0 : Int) (fun _ => []))).2.1 (inv63 n0 f0 s2 x3 n4 f4 x6 (.L1 (0 : Int) (fun _ => []))).2.2) [true, true])
def lp63_6 (n0 : Nat) (f0 : FnV) (s2 : ByteArray) (x3 : Int) (n4 : Nat) (f4 : FnV) (x6 : Int) (cx : Nat) : Lp (Nat × Nat) := lpT (atT (rdT ctB10 u0 (2, cx) (lp63_2 n0 f0 s2 x3 n4 f4 x6 cx) (inv63 n0 f0 s2 x3 n4 f4 x6 (.L2 (0 : Int) (fun _ => []))).1 (inv63 n0 f0 s2 x3 n4 f4 x6 (.L2 (0 : Int) (fun _ => []))).2.1 (inv63 n0 f0 s2 x3 n4 f4 x6 (.L2 (0 : Int) (fun _ => []))).2.2) [true, true])
def lp63_7 (n0 : Nat) (f0 : FnV) (s2 : ByteArray) (x3 : Int) (n4 : Nat) (f4 : FnV) (x6 : Int) (cx : Nat) : Lp (Nat × Nat) := lpT (atT (rdT ctB10 u0 (3, cx) (lp63_3 n0 f0 s2 x3 n4 f4 x6 cx) (inv63 n0 f0 s2 x3 n4 f4 x6 (.L3 (0 : Int) (fun _ => []))).1 (inv63 n0 f0 s2 x3 n4 f4 x6 (.L3 (0 : Int) (fun _ => []))).2.1 (inv63 n0 f0 s2 x3 n4 f4 x6 (.L3 (0 : Int) (fun _ => []))).2.2) [true, true])
def lp63 (n0 : Nat) (f0 : FnV) (s2 : ByteArray) (x3 : Int) (n4 : Nat) (f4 : FnV) (x6 : Int) : Nat × Nat -> Lp (Nat × Nat)
  | (0, cx) => lp63_0 n0 f0 s2 x3 n4 f4 x6 cx
  | (1, cx) => lp63_1 n0 f0 s2 x3 n4 f4 x6 cx
  | (2, cx) => lp63_2 n0 f0 s2 x3 n4 f4 x6 cx
  | (3, cx) => lp63_3 n0 f0 s2 x3 n4 f4 x6 cx
  | (4, cx) => lp63_4 n0 f0 s2 x3 n4 f4 x6 cx
  | (5, cx) => lp63_5 n0 f0 s2 x3 n4 f4 x6 cx
  | (6, cx) => lp63_6 n0 f0 s2 x3 n4 f4 x6 cx
  | (7, cx) => lp63_7 n0 f0 s2 x3 n4 f4 x6 cx
  | (_, cx) => lp63_0 n0 f0 s2 x3 n4 f4 x6 cx
def D63 (n0 : Nat) (f0 : FnV) (s2 : ByteArray) (x3 : Int) (n4 : Nat) (f4 : FnV) (x6 : Int) : LD (Nat × Nat) S63 := ⟨id63, lp63 n0 f0 s2 x3 n4 f4 x6, inv63 n0 f0 s2 x3 n4 f4 x6⟩
def st63 (n0 : Nat) (f0 : FnV) (s2 : ByteArray) (x3 : Int) (n4 : Nat) (f4 : FnV) (x6 : Int) : S63 -> RT S63
  | .L0 i_100 f_101 => .br (decide (i_100 < (↑n4 : Int))) (.ob (decide (0 <= i_100 /\ i_100 < (↑n4 : Int) /\ n4 <= n4)) (.ob (decide (i_100.toNat < n4)) (.ob (decide (0 <= i64.wrap (i_100 - 1) /\ i64.wrap (i_100 - 1) < (↑n4 : Int) /\ n4 <= n4)) (.ob (decide ((i64.wrap (i_100 - 1)).toNat < n4)) (.br (iv (hdV (f_101 i_100.toNat)) == iv (hdV (f_101 (i64.wrap (i_100 - 1)).toNat)) && (iv (hdV (tlV (f_101 i_100.toNat))) == iv (hdV (tlV (f_101 (i64.wrap (i_100 - 1)).toNat))) && true)) (.ob (decide (0 <= i_100 /\ i_100 <= (↑n4 : Int))) (.enter [some (some 0), some (some 1), some (some 2)] (S63.L4 (1) (i_100.toNat) (n4 - i_100.toNat) (i_100) (iv (hdV (f_101 (i64.wrap (i_100 - 1)).toNat))) (iv (hdV (tlV (f_101 (i64.wrap (i_100 - 1)).toNat)))) ((i64.wrap (i_100 - 1)).toNat) (i64.wrap (i_100 - 1)) (iv (hdV (f_101 i_100.toNat))) (iv (hdV (tlV (f_101 i_100.toNat)))) (i_100) (elV [Ty.int i64, Ty.int i64] f_101)) [⟨2, [Ty.int i64, Ty.int i64], n4, elV [Ty.int i64, Ty.int i64] f_101, vf_view rfl _ _⟩])) (.next [some (some 0), some (some 1), some (some 2)] (S63.L0 (i64.wrap (i_100 + 1)) (elV [Ty.int i64, Ty.int i64] f_101)) [⟨2, [Ty.int i64, Ty.int i64], n4, elV [Ty.int i64, Ty.int i64] f_101, vf_view rfl _ _⟩])))))) (.asm (true = true -> n4 <= 9223372036854775807) (.br (decide ((↑n4 : Int) < (↑n4 : Int))) (.ret (V.int i64 2)) (.obi (.obi (.asm ((x3 == 3) = true -> n4 <= 9223372036854775807) (.obi (.obi (.br (bif x3 == 3 then decide (2 < (↑n4 : Int)) else false) (.ret (V.int i64 2)) (.ret (V.int i64 0))))))))))
  | .L1 i_200 f_201 => .br (decide (i_200 < (↑n4 : Int))) (.ob (decide (0 <= i_200 /\ i_200 < (↑n4 : Int) /\ n4 <= n4)) (.ob (decide (i_200.toNat < n4)) (.ob (decide (0 <= i64.wrap (i_200 - 1) /\ i64.wrap (i_200 - 1) < (↑n4 : Int) /\ n4 <= n4)) (.ob (decide ((i64.wrap (i_200 - 1)).toNat < n4)) (.br (iv (hdV (f_201 i_200.toNat)) == iv (hdV (f_201 (i64.wrap (i_200 - 1)).toNat)) && (iv (hdV (tlV (f_201 i_200.toNat))) == iv (hdV (tlV (f_201 (i64.wrap (i_200 - 1)).toNat))) && true)) (.ob (decide (0 <= i_200 /\ i_200 <= (↑n4 : Int))) (.enter [some (some 0), some (some 1), some (some 2)] (S63.L5 (1) (i_200.toNat) (n4 - i_200.toNat) (i_200) (iv (hdV (f_201 (i64.wrap (i_200 - 1)).toNat))) (iv (hdV (tlV (f_201 (i64.wrap (i_200 - 1)).toNat)))) ((i64.wrap (i_200 - 1)).toNat) (i64.wrap (i_200 - 1)) (iv (hdV (f_201 i_200.toNat))) (iv (hdV (tlV (f_201 i_200.toNat)))) (i_200) (elV [Ty.int i64, Ty.int i64] f_201)) [⟨2, [Ty.int i64, Ty.int i64], n4, elV [Ty.int i64, Ty.int i64] f_201, vf_view rfl _ _⟩])) (.next [some (some 0), some (some 1), some (some 2)] (S63.L1 (i64.wrap (i_200 + 1)) (elV [Ty.int i64, Ty.int i64] f_201)) [⟨2, [Ty.int i64, Ty.int i64], n4, elV [Ty.int i64, Ty.int i64] f_201, vf_view rfl _ _⟩])))))) (.br (decide ((↑n4 : Int) < (↑n4 : Int))) (.ret (V.int i64 2)) (.obi (.obi (.asm ((x3 == 3) = true -> n4 <= 9223372036854775807) (.obi (.obi (.br (bif x3 == 3 then decide (2 < (↑n4 : Int)) else false) (.ret (V.int i64 2)) (.ret (V.int i64 0)))))))))
  | .L2 i_300 f_301 => .br (decide (i_300 < (↑n4 : Int))) (.ob (decide (0 <= i_300 /\ i_300 < (↑n4 : Int) /\ n4 <= n4)) (.ob (decide (i_300.toNat < n4)) (.ob (decide (0 <= i64.wrap (i_300 - 1) /\ i64.wrap (i_300 - 1) < (↑n4 : Int) /\ n4 <= n4)) (.ob (decide ((i64.wrap (i_300 - 1)).toNat < n4)) (.br (iv (hdV (f_301 i_300.toNat)) == iv (hdV (f_301 (i64.wrap (i_300 - 1)).toNat)) && (iv (hdV (tlV (f_301 i_300.toNat))) == iv (hdV (tlV (f_301 (i64.wrap (i_300 - 1)).toNat))) && true)) (.ob (decide (0 <= i_300 /\ i_300 <= (↑n4 : Int))) (.enter [some (some 0), some (some 1), some (some 2)] (S63.L6 (1) (i_300.toNat) (n4 - i_300.toNat) (i_300) (iv (hdV (f_301 (i64.wrap (i_300 - 1)).toNat))) (iv (hdV (tlV (f_301 (i64.wrap (i_300 - 1)).toNat)))) ((i64.wrap (i_300 - 1)).toNat) (i64.wrap (i_300 - 1)) (iv (hdV (f_301 i_300.toNat))) (iv (hdV (tlV (f_301 i_300.toNat)))) (i_300) (elV [Ty.int i64, Ty.int i64] f_301)) [⟨2, [Ty.int i64, Ty.int i64], n4, elV [Ty.int i64, Ty.int i64] f_301, vf_view rfl _ _⟩])) (.next [some (some 0), some (some 1), some (some 2)] (S63.L2 (i64.wrap (i_300 + 1)) (elV [Ty.int i64, Ty.int i64] f_301)) [⟨2, [Ty.int i64, Ty.int i64], n4, elV [Ty.int i64, Ty.int i64] f_301, vf_view rfl _ _⟩])))))) (.br (decide ((↑n4 : Int) < (↑n4 : Int))) (.ret (V.int i64 2)) (.obi (.obi (.asm ((x3 == 3) = true -> n4 <= 9223372036854775807) (.obi (.obi (.br (bif x3 == 3 then decide (2 < (↑n4 : Int)) else false) (.ret (V.int i64 2)) (.ret (V.int i64 0)))))))))
  | .L3 i_400 f_401 => .br (decide (i_400 < (↑n4 : Int))) (.ob (decide (0 <= i_400 /\ i_400 < (↑n4 : Int) /\ n4 <= n4)) (.ob (decide (i_400.toNat < n4)) (.ob (decide (0 <= i64.wrap (i_400 - 1) /\ i64.wrap (i_400 - 1) < (↑n4 : Int) /\ n4 <= n4)) (.ob (decide ((i64.wrap (i_400 - 1)).toNat < n4)) (.br (iv (hdV (f_401 i_400.toNat)) == iv (hdV (f_401 (i64.wrap (i_400 - 1)).toNat)) && (iv (hdV (tlV (f_401 i_400.toNat))) == iv (hdV (tlV (f_401 (i64.wrap (i_400 - 1)).toNat))) && true)) (.ob (decide (0 <= i_400 /\ i_400 <= (↑n4 : Int))) (.enter [some (some 0), some (some 1), some (some 2)] (S63.L7 (1) (i_400.toNat) (n4 - i_400.toNat) (i_400) (iv (hdV (f_401 (i64.wrap (i_400 - 1)).toNat))) (iv (hdV (tlV (f_401 (i64.wrap (i_400 - 1)).toNat)))) ((i64.wrap (i_400 - 1)).toNat) (i64.wrap (i_400 - 1)) (iv (hdV (f_401 i_400.toNat))) (iv (hdV (tlV (f_401 i_400.toNat)))) (i_400) (elV [Ty.int i64, Ty.int i64] f_401)) [⟨2, [Ty.int i64, Ty.int i64], n4, elV [Ty.int i64, Ty.int i64] f_401, vf_view rfl _ _⟩])) (.next [some (some 0), some (some 1), some (some 2)] (S63.L3 (i64.wrap (i_400 + 1)) (elV [Ty.int i64, Ty.int i64] f_401)) [⟨2, [Ty.int i64, Ty.int i64], n4, elV [Ty.int i64, Ty.int i64] f_401, vf_view rfl _ _⟩])))))) (.br (decide ((↑n4 : Int) < (↑n4 : Int))) (.ret (V.int i64 2)) (.obi (.obi (.asm ((x3 == 3) = true -> n4 <= 9223372036854775807) (.obi (.obi (.br (bif x3 == 3 then decide (2 < (↑n4 : Int)) else false) (.ret (V.int i64 2)) (.ret (V.int i64 0)))))))))
  | .L4 i_500 n_501 n_502 i_503 i_504 i_505 n_506 i_507 i_508 i_509 i_510 f_511 => .br (decide (i_500 < (↑n_502 : Int))) (.ob (decide (0 <= i_500 /\ i_500 < (↑n_502 : Int) /\ n_501 + n_502 <= n4)) (.ob (decide (n_501 + i_500.toNat < n4)) (.ob (decide (0 <= i64.wrap (i_500 - 1) /\ i64.wrap (i_500 - 1) < (↑n_502 : Int) /\ n_501 + n_502 <= n4)) (.ob (decide (n_501 + (i64.wrap (i_500 - 1)).toNat < n4)) (.br (!(iv (hdV (f_511 (n_501 + i_500.toNat))) == iv (hdV (f_511 (n_501 + (i64.wrap (i_500 - 1)).toNat))) && (iv (hdV (tlV (f_511 (n_501 + i_500.toNat)))) == iv (hdV (tlV (f_511 (n_501 + (i64.wrap (i_500 - 1)).toNat)))) && true))) (.ob (decide (0 <= i_500 /\ i_500 < (↑n_502 : Int) /\ n_501 + n_502 <= n4)) (.ob (decide (n_501 + i_500.toNat < n4)) (.ob (decide (0 <= i_510 /\ i_510 < (↑n4 : Int) /\ n4 <= n4)) (.ob (decide (i_510.toNat < n4)) (.next [some (some 0), some (some 1), some (some 2)] (S63.L4 (i64.wrap (i_500 + 1)) (n_501) (n_502) (i_503) (i_504) (i_505) (n_506) (i_507) (i_508) (i_509) (i64.wrap (i_510 + 1)) (fun i' => bif i'.beq i_510.toNat then [V.int i64 (iv (hdV (f_511 (n_501 + i_500.toNat)))), V.int i64 (iv (hdV (tlV (f_511 (n_501 + i_500.toNat)))))] else elV [Ty.int i64, Ty.int i64] f_511 i')) [⟨2, [Ty.int i64, Ty.int i64], n4, fun i' => bif i'.beq i_510.toNat then [V.int i64 (iv (hdV (f_511 (n_501 + i_500.toNat)))), V.int i64 (iv (hdV (tlV (f_511 (n_501 + i_500.toNat)))))] else elV [Ty.int i64, Ty.int i64] f_511 i', vf_set rfl (vf_view rfl _ _) rfl⟩]))))) (.next [some (some 0), some (some 1), some (some 2)] (S63.L4 (i64.wrap (i_500 + 1)) (n_501) (n_502) (i_503) (i_504) (i_505) (n_506) (i_507) (i_508) (i_509) (i_510) (elV [Ty.int i64, Ty.int i64] f_511)) [⟨2, [Ty.int i64, Ty.int i64], n4, elV [Ty.int i64, Ty.int i64] f_511, vf_view rfl _ _⟩])))))) (.ob (decide (0 <= i_510 /\ i_510 <= (↑n4 : Int))) (.ob (decide (0 < n4 - i_510.toNat /\ i_510.toNat + (n4 - i_510.toNat) <= n4)) (.ob (decide (0 <= i_510 /\ i_510 <= (↑n4 : Int))) (.asm (true = true -> n4 <= 9223372036854775807) (.br (decide ((↑i_510.toNat : Int) < (↑n4 : Int))) (.ret (V.int i64 2)) (.obi (.obi (.asm ((x3 == 3) = true -> n4 <= 9223372036854775807) (.obi (.obi (.br (bif x3 == 3 then decide (2 < (↑n4 : Int)) else false) (.ret (V.int i64 2)) (.ret (V.int i64 0)))))))))))))
  | .L5 i_600 n_601 n_602 i_603 i_604 i_605 n_606 i_607 i_608 i_609 i_610 f_611 => .br (decide (i_600 < (↑n_602 : Int))) (.ob (decide (0 <= i_600 /\ i_600 < (↑n_602 : Int) /\ n_601 + n_602 <= n4)) (.ob (decide (n_601 + i_600.toNat < n4)) (.ob (decide (0 <= i64.wrap (i_600 - 1) /\ i64.wrap (i_600 - 1) < (↑n_602 : Int) /\ n_601 + n_602 <= n4)) (.ob (decide (n_601 + (i64.wrap (i_600 - 1)).toNat < n4)) (.br (!(iv (hdV (f_611 (n_601 + i_600.toNat))) == iv (hdV (f_611 (n_601 + (i64.wrap (i_600 - 1)).toNat))) && (iv (hdV (tlV (f_611 (n_601 + i_600.toNat)))) == iv (hdV (tlV (f_611 (n_601 + (i64.wrap (i_600 - 1)).toNat)))) && true))) (.ob (decide (0 <= i_600 /\ i_600 < (↑n_602 : Int) /\ n_601 + n_602 <= n4)) (.ob (decide (n_601 + i_600.toNat < n4)) (.ob (decide (0 <= i_610 /\ i_610 < (↑n4 : Int) /\ n4 <= n4)) (.ob (decide (i_610.toNat < n4)) (.next [some (some 0), some (some 1), some (some 2)] (S63.L5 (i64.wrap (i_600 + 1)) (n_601) (n_602) (i_603) (i_604) (i_605) (n_606) (i_607) (i_608) (i_609) (i64.wrap (i_610 + 1)) (fun i' => bif i'.beq i_610.toNat then [V.int i64 (iv (hdV (f_611 (n_601 + i_600.toNat)))), V.int i64 (iv (hdV (tlV (f_611 (n_601 + i_600.toNat)))))] else elV [Ty.int i64, Ty.int i64] f_611 i')) [⟨2, [Ty.int i64, Ty.int i64], n4, fun i' => bif i'.beq i_610.toNat then [V.int i64 (iv (hdV (f_611 (n_601 + i_600.toNat)))), V.int i64 (iv (hdV (tlV (f_611 (n_601 + i_600.toNat)))))] else elV [Ty.int i64, Ty.int i64] f_611 i', vf_set rfl (vf_view rfl _ _) rfl⟩]))))) (.next [some (some 0), some (some 1), some (some 2)] (S63.L5 (i64.wrap (i_600 + 1)) (n_601) (n_602) (i_603) (i_604) (i_605) (n_606) (i_607) (i_608) (i_609) (i_610) (elV [Ty.int i64, Ty.int i64] f_611)) [⟨2, [Ty.int i64, Ty.int i64], n4, elV [Ty.int i64, Ty.int i64] f_611, vf_view rfl _ _⟩])))))) (.ob (decide (0 <= i_610 /\ i_610 <= (↑n4 : Int))) (.ob (decide (0 < n4 - i_610.toNat /\ i_610.toNat + (n4 - i_610.toNat) <= n4)) (.ob (decide (0 <= i_610 /\ i_610 <= (↑n4 : Int))) (.br (decide ((↑i_610.toNat : Int) < (↑n4 : Int))) (.ret (V.int i64 2)) (.obi (.obi (.asm ((x3 == 3) = true -> n4 <= 9223372036854775807) (.obi (.obi (.br (bif x3 == 3 then decide (2 < (↑n4 : Int)) else false) (.ret (V.int i64 2)) (.ret (V.int i64 0))))))))))))
  | .L6 i_700 n_701 n_702 i_703 i_704 i_705 n_706 i_707 i_708 i_709 i_710 f_711 => .br (decide (i_700 < (↑n_702 : Int))) (.ob (decide (0 <= i_700 /\ i_700 < (↑n_702 : Int) /\ n_701 + n_702 <= n4)) (.ob (decide (n_701 + i_700.toNat < n4)) (.ob (decide (0 <= i64.wrap (i_700 - 1) /\ i64.wrap (i_700 - 1) < (↑n_702 : Int) /\ n_701 + n_702 <= n4)) (.ob (decide (n_701 + (i64.wrap (i_700 - 1)).toNat < n4)) (.br (!(iv (hdV (f_711 (n_701 + i_700.toNat))) == iv (hdV (f_711 (n_701 + (i64.wrap (i_700 - 1)).toNat))) && (iv (hdV (tlV (f_711 (n_701 + i_700.toNat)))) == iv (hdV (tlV (f_711 (n_701 + (i64.wrap (i_700 - 1)).toNat)))) && true))) (.ob (decide (0 <= i_700 /\ i_700 < (↑n_702 : Int) /\ n_701 + n_702 <= n4)) (.ob (decide (n_701 + i_700.toNat < n4)) (.ob (decide (0 <= i_710 /\ i_710 < (↑n4 : Int) /\ n4 <= n4)) (.ob (decide (i_710.toNat < n4)) (.next [some (some 0), some (some 1), some (some 2)] (S63.L6 (i64.wrap (i_700 + 1)) (n_701) (n_702) (i_703) (i_704) (i_705) (n_706) (i_707) (i_708) (i_709) (i64.wrap (i_710 + 1)) (fun i' => bif i'.beq i_710.toNat then [V.int i64 (iv (hdV (f_711 (n_701 + i_700.toNat)))), V.int i64 (iv (hdV (tlV (f_711 (n_701 + i_700.toNat)))))] else elV [Ty.int i64, Ty.int i64] f_711 i')) [⟨2, [Ty.int i64, Ty.int i64], n4, fun i' => bif i'.beq i_710.toNat then [V.int i64 (iv (hdV (f_711 (n_701 + i_700.toNat)))), V.int i64 (iv (hdV (tlV (f_711 (n_701 + i_700.toNat)))))] else elV [Ty.int i64, Ty.int i64] f_711 i', vf_set rfl (vf_view rfl _ _) rfl⟩]))))) (.next [some (some 0), some (some 1), some (some 2)] (S63.L6 (i64.wrap (i_700 + 1)) (n_701) (n_702) (i_703) (i_704) (i_705) (n_706) (i_707) (i_708) (i_709) (i_710) (elV [Ty.int i64, Ty.int i64] f_711)) [⟨2, [Ty.int i64, Ty.int i64], n4, elV [Ty.int i64, Ty.int i64] f_711, vf_view rfl _ _⟩])))))) (.ob (decide (0 <= i_710 /\ i_710 <= (↑n4 : Int))) (.ob (decide (0 < n4 - i_710.toNat /\ i_710.toNat + (n4 - i_710.toNat) <= n4)) (.ob (decide (0 <= i_710 /\ i_710 <= (↑n4 : Int))) (.br (decide ((↑i_710.toNat : Int) < (↑n4 : Int))) (.ret (V.int i64 2)) (.obi (.obi (.asm ((x3 == 3) = true -> n4 <= 9223372036854775807) (.obi (.obi (.br (bif x3 == 3 then decide (2 < (↑n4 : Int)) else false) (.ret (V.int i64 2)) (.ret (V.int i64 0))))))))))))
  | .L7 i_800 n_801 n_802 i_803 i_804 i_805 n_806 i_807 i_808 i_809 i_810 f_811 => .br (decide (i_800 < (↑n_802 : Int))) (.ob (decide (0 <= i_800 /\ i_800 < (↑n_802 : Int) /\ n_801 + n_802 <= n4)) (.ob (decide (n_801 + i_800.toNat < n4)) (.ob (decide (0 <= i64.wrap (i_800 - 1) /\ i64.wrap (i_800 - 1) < (↑n_802 : Int) /\ n_801 + n_802 <= n4)) (.ob (decide (n_801 + (i64.wrap (i_800 - 1)).toNat < n4)) (.br (!(iv (hdV (f_811 (n_801 + i_800.toNat))) == iv (hdV (f_811 (n_801 + (i64.wrap (i_800 - 1)).toNat))) && (iv (hdV (tlV (f_811 (n_801 + i_800.toNat)))) == iv (hdV (tlV (f_811 (n_801 + (i64.wrap (i_800 - 1)).toNat)))) && true))) (.ob (decide (0 <= i_800 /\ i_800 < (↑n_802 : Int) /\ n_801 + n_802 <= n4)) (.ob (decide (n_801 + i_800.toNat < n4)) (.ob (decide (0 <= i_810 /\ i_810 < (↑n4 : Int) /\ n4 <= n4)) (.ob (decide (i_810.toNat < n4)) (.next [some (some 0), some (some 1), some (some 2)] (S63.L7 (i64.wrap (i_800 + 1)) (n_801) (n_802) (i_803) (i_804) (i_805) (n_806) (i_807) (i_808) (i_809) (i64.wrap (i_810 + 1)) (fun i' => bif i'.beq i_810.toNat then [V.int i64 (iv (hdV (f_811 (n_801 + i_800.toNat)))), V.int i64 (iv (hdV (tlV (f_811 (n_801 + i_800.toNat)))))] else elV [Ty.int i64, Ty.int i64] f_811 i')) [⟨2, [Ty.int i64, Ty.int i64], n4, fun i' => bif i'.beq i_810.toNat then [V.int i64 (iv (hdV (f_811 (n_801 + i_800.toNat)))), V.int i64 (iv (hdV (tlV (f_811 (n_801 + i_800.toNat)))))] else elV [Ty.int i64, Ty.int i64] f_811 i', vf_set rfl (vf_view rfl _ _) rfl⟩]))))) (.next [some (some 0), some (some 1), some (some 2)] (S63.L7 (i64.wrap (i_800 + 1)) (n_801) (n_802) (i_803) (i_804) (i_805) (n_806) (i_807) (i_808) (i_809) (i_810) (elV [Ty.int i64, Ty.int i64] f_811)) [⟨2, [Ty.int i64, Ty.int i64], n4, elV [Ty.int i64, Ty.int i64] f_811, vf_view rfl _ _⟩])))))) (.ob (decide (0 <= i_810 /\ i_810 <= (↑n4 : Int))) (.ob (decide (0 < n4 - i_810.toNat /\ i_810.toNat + (n4 - i_810.toNat) <= n4)) (.ob (decide (0 <= i_810 /\ i_810 <= (↑n4 : Int))) (.br (decide ((↑i_810.toNat : Int) < (↑n4 : Int))) (.ret (V.int i64 2)) (.obi (.obi (.asm ((x3 == 3) = true -> n4 <= 9223372036854775807) (.obi (.obi (.br (bif x3 == 3 then decide (2 < (↑n4 : Int)) else false) (.ret (V.int i64 2)) (.ret (V.int i64 0))))))))))))
def m63 (n0 : Nat) (f0 : FnV) (s2 : ByteArray) (x3 : Int) (n4 : Nat) (f4 : FnV) (x6 : Int) : RT S63 := .obp (s2.size <= (9223372036854775807 : Nat)) (.obt (.br (!F114_0 s2) (.ret (V.int i64 6)) (.obc (.obt (.br (F90_0 n0 (elV tyR f0) s2) (.ret (V.int i64 5)) (.obc (.obt (.br (F86_0 x3 0 3) (.ret (V.int i64 2)) (.asm (true = true -> n4 <= 9223372036854775807) (.br (decide ((↑n4 : Int) < 2)) (.ret (V.int i64 4)) (.asm (true = true -> n4 <= 9223372036854775807) (.br (decide (8 < (↑n4 : Int))) (.ret (V.int i64 3)) (.obc (.obt (.obi (.br (!F115_0 n4 (elV [Ty.int i64, Ty.int i64] f4)) (.ob (!F115_0 n4 (elV [Ty.int i64, Ty.int i64] f4)) (.obc (.obt (.br (F86_0 x6 100 30000) (.ret (V.int i64 7)) (.und (.und (.und (.asm (n4 = 0) (.und (.brt (.asm (true = true -> n4 <= 9223372036854775807) (.br (decide (0 < (↑n4 : Int))) (.ret (V.int i64 2)) (.obi (.obi (.asm ((x3 == 3) = true -> n4 <= 9223372036854775807) (.obi (.obi (.br (bif x3 == 3 then decide (2 < (↑n4 : Int)) else false) (.ret (V.int i64 2)) (.ret (V.int i64 0))))))))))) (.asm (true = true -> n4 <= 9223372036854775807) (.brt (.br (decide (0 < (↑n4 : Int))) (.ret (V.int i64 2)) (.obi (.obi (.asm ((x3 == 3) = true -> n4 <= 9223372036854775807) (.obi (.obi (.br (bif x3 == 3 then decide (2 < (↑n4 : Int)) else false) (.ret (V.int i64 2)) (.ret (V.int i64 0))))))))))))) (.obv (allB n4 fun i => okE 2 (elV [Ty.int i64, Ty.int i64] f4 i)) (allB_el rfl _ _) (.ob (decide (n4 * 16 <= 140737488355328) && !Nat.beq 16 0) (.und (.br (decide ((↑n4 : Int) < 2)) (.asm (true = true -> n4 <= 9223372036854775807) (.br (decide ((↑n4 : Int) < (↑n4 : Int))) (.ret (V.int i64 2)) (.obi (.obi (.asm ((x3 == 3) = true -> n4 <= 9223372036854775807) (.obi (.obi (.br (bif x3 == 3 then decide (2 < (↑n4 : Int)) else false) (.ret (V.int i64 2)) (.ret (V.int i64 0)))))))))) (.enter [some (some 0), some (some 1), some (some 2)] (S63.L0 (1) (elV [Ty.int i64, Ty.int i64] f4)) [⟨2, [Ty.int i64, Ty.int i64], n4, elV [Ty.int i64, Ty.int i64] f4, vf_view rfl _ _⟩])) (.asm (true = true -> n4 <= 9223372036854775807) (.br (decide ((↑n4 : Int) < 2)) (.br (decide ((↑n4 : Int) < (↑n4 : Int))) (.ret (V.int i64 2)) (.obi (.obi (.asm ((x3 == 3) = true -> n4 <= 9223372036854775807) (.obi (.obi (.br (bif x3 == 3 then decide (2 < (↑n4 : Int)) else false) (.ret (V.int i64 2)) (.ret (V.int i64 0))))))))) (.enter [some (some 0), some (some 1), some (some 2)] (S63.L1 (1) (elV [Ty.int i64, Ty.int i64] f4)) [⟨2, [Ty.int i64, Ty.int i64], n4, elV [Ty.int i64, Ty.int i64] f4, vf_view rfl _ _⟩]))))))) (.asm (true = true -> n4 <= 9223372036854775807) (.und (.asm (n4 = 0) (.brt (.br (decide (0 < (↑n4 : Int))) (.ret (V.int i64 2)) (.obi (.obi (.asm ((x3 == 3) = true -> n4 <= 9223372036854775807) (.obi (.obi (.br (bif x3 == 3 then decide (2 < (↑n4 : Int)) else false) (.ret (V.int i64 2)) (.ret (V.int i64 0))))))))))) (.obv (allB n4 fun i => okE 2 (elV [Ty.int i64, Ty.int i64] f4 i)) (allB_el rfl _ _) (.ob (decide (n4 * 16 <= 140737488355328) && !Nat.beq 16 0) (.br (decide ((↑n4 : Int) < 2)) (.br (decide ((↑n4 : Int) < (↑n4 : Int))) (.ret (V.int i64 2)) (.obi (.obi (.asm ((x3 == 3) = true -> n4 <= 9223372036854775807) (.obi (.obi (.br (bif x3 == 3 then decide (2 < (↑n4 : Int)) else false) (.ret (V.int i64 2)) (.ret (V.int i64 0))))))))) (.enter [some (some 0), some (some 1), some (some 2)] (S63.L2 (1) (elV [Ty.int i64, Ty.int i64] f4)) [⟨2, [Ty.int i64, Ty.int i64], n4, elV [Ty.int i64, Ty.int i64] f4, vf_view rfl _ _⟩]))))))) (.asm (true = true -> n4 <= 9223372036854775807) (.und (.asm (n4 = 0) (.brt (.br (decide (0 < (↑n4 : Int))) (.ret (V.int i64 2)) (.obi (.obi (.asm ((x3 == 3) = true -> n4 <= 9223372036854775807) (.obi (.obi (.br (bif x3 == 3 then decide (2 < (↑n4 : Int)) else false) (.ret (V.int i64 2)) (.ret (V.int i64 0))))))))))) (.obv (allB n4 fun i => okE 2 (elV [Ty.int i64, Ty.int i64] f4 i)) (allB_el rfl _ _) (.ob (decide (n4 * 16 <= 140737488355328) && !Nat.beq 16 0) (.br (decide ((↑n4 : Int) < 2)) (.br (decide ((↑n4 : Int) < (↑n4 : Int))) (.ret (V.int i64 2)) (.obi (.obi (.asm ((x3 == 3) = true -> n4 <= 9223372036854775807) (.obi (.obi (.br (bif x3 == 3 then decide (2 < (↑n4 : Int)) else false) (.ret (V.int i64 2)) (.ret (V.int i64 0))))))))) (.enter [some (some 0), some (some 1), some (some 2)] (S63.L3 (1) (elV [Ty.int i64, Ty.int i64] f4)) [⟨2, [Ty.int i64, Ty.int i64], n4, elV [Ty.int i64, Ty.int i64] f4, vf_view rfl _ _⟩]))))))))))) (.ret (V.int i64 7))))))))))))))))))
theorem f63m (n0 : Nat) (f0 : FnV) (s2 : ByteArray) (x3 : Int) (n4 : Nat) (f4 : FnV) (x6 : Int) : fitT (D63 n0 f0 s2 x3 n4 f4 x6) (rl63 n0 f0 s2 x3 n4 f4 x6) (m63 n0 f0 s2 x3 n4 f4 x6) = toF (D63 n0 f0 s2 x3 n4 f4 x6) (m63 n0 f0 s2 x3 n4 f4 x6) := by kernel_rfl
theorem q63m (n0 : Nat) (f0 : FnV) (s2 : ByteArray) (x3 : Int) (n4 : Nat) (f4 : FnV) (x6 : Int) : sameT (rl63 n0 f0 s2 x3 n4 f4 x6) (m63 n0 f0 s2 x3 n4 f4 x6) = (rl63 n0 f0 s2 x3 n4 f4 x6) := by kernel_rfl
theorem f63_0 (n0 : Nat) (f0 : FnV) (s2 : ByteArray) (x3 : Int) (n4 : Nat) (f4 : FnV) (x6 i_100 : Int) (f_101 : Nat -> List V) : fitT (D63 n0 f0 s2 x3 n4 f4 x6) (rdS ctB10 u0 (D63 n0 f0 s2 x3 n4 f4 x6) (S63.L0 i_100 f_101)) (st63 n0 f0 s2 x3 n4 f4 x6 (S63.L0 i_100 f_101)) = toF (D63 n0 f0 s2 x3 n4 f4 x6) (st63 n0 f0 s2 x3 n4 f4 x6 (S63.L0 i_100 f_101)) := by kernel_rfl
theorem q63_0 (n0 : Nat) (f0 : FnV) (s2 : ByteArray) (x3 : Int) (n4 : Nat) (f4 : FnV) (x6 i_100 : Int) (f_101 : Nat -> List V) : sameT (rdS ctB10 u0 (D63 n0 f0 s2 x3 n4 f4 x6) (S63.L0 i_100 f_101)) (st63 n0 f0 s2 x3 n4 f4 x6 (S63.L0 i_100 f_101)) = rdS ctB10 u0 (D63 n0 f0 s2 x3 n4 f4 x6) (S63.L0 i_100 f_101) := by kernel_rfl
theorem f63_1 (n0 : Nat) (f0 : FnV) (s2 : ByteArray) (x3 : Int) (n4 : Nat) (f4 : FnV) (x6 i_200 : Int) (f_201 : Nat -> List V) : fitT (D63 n0 f0 s2 x3 n4 f4 x6) (rdS ctB10 u0 (D63 n0 f0 s2 x3 n4 f4 x6) (S63.L1 i_200 f_201)) (st63 n0 f0 s2 x3 n4 f4 x6 (S63.L1 i_200 f_201)) = toF (D63 n0 f0 s2 x3 n4 f4 x6) (st63 n0 f0 s2 x3 n4 f4 x6 (S63.L1 i_200 f_201)) := by kernel_rfl
theorem q63_1 (n0 : Nat) (f0 : FnV) (s2 : ByteArray) (x3 : Int) (n4 : Nat) (f4 : FnV) (x6 i_200 : Int) (f_201 : Nat -> List V) : sameT (rdS ctB10 u0 (D63 n0 f0 s2 x3 n4 f4 x6) (S63.L1 i_200 f_201)) (st63 n0 f0 s2 x3 n4 f4 x6 (S63.L1 i_200 f_201)) = rdS ctB10 u0 (D63 n0 f0 s2 x3 n4 f4 x6) (S63.L1 i_200 f_201) := by kernel_rfl
theorem f63_2 (n0 : Nat) (f0 : FnV) (s2 : ByteArray) (x3 : Int) (n4 : Nat) (f4 : FnV) (x6 i_300 : Int) (f_301 : Nat -> List V) : fitT (D63 n0 f0 s2 x3 n4 f4 x6) (rdS ctB10 u0 (D63 n0 f0 s2 x3 n4 f4 x6) (S63.L2 i_300 f_301)) (st63 n0 f0 s2 x3 n4 f4 x6 (S63.L2 i_300 f_301)) = toF (D63 n0 f0 s2 x3 n4 f4 x6) (st63 n0 f0 s2 x3 n4 f4 x6 (S63.L2 i_300 f_301)) := by kernel_rfl
theorem q63_2 (n0 : Nat) (f0 : FnV) (s2 : ByteArray) (x3 : Int) (n4 : Nat) (f4 : FnV) (x6 i_300 : Int) (f_301 : Nat -> List V) : sameT (rdS ctB10 u0 (D63 n0 f0 s2 x3 n4 f4 x6) (S63.L2 i_300 f_301)) (st63 n0 f0 s2 x3 n4 f4 x6 (S63.L2 i_300 f_301)) = rdS ctB10 u0 (D63 n0 f0 s2 x3 n4 f4 x6) (S63.L2 i_300 f_301) := by kernel_rfl
theorem f63_3 (n0 : Nat) (f0 : FnV) (s2 : ByteArray) (x3 : Int) (n4 : Nat) (f4 : FnV) (x6 i_400 : Int) (f_401 : Nat -> List V) : fitT (D63 n0 f0 s2 x3 n4 f4 x6) (rdS ctB10 u0 (D63 n0 f0 s2 x3 n4 f4 x6) (S63.L3 i_400 f_401)) (st63 n0 f0 s2 x3 n4 f4 x6 (S63.L3 i_400 f_401)) = toF (D63 n0 f0 s2 x3 n4 f4 x6) (st63 n0 f0 s2 x3 n4 f4 x6 (S63.L3 i_400 f_401)) := by kernel_rfl
theorem q63_3 (n0 : Nat) (f0 : FnV) (s2 : ByteArray) (x3 : Int) (n4 : Nat) (f4 : FnV) (x6 i_400 : Int) (f_401 : Nat -> List V) : sameT (rdS ctB10 u0 (D63 n0 f0 s2 x3 n4 f4 x6) (S63.L3 i_400 f_401)) (st63 n0 f0 s2 x3 n4 f4 x6 (S63.L3 i_400 f_401)) = rdS ctB10 u0 (D63 n0 f0 s2 x3 n4 f4 x6) (S63.L3 i_400 f_401) := by kernel_rfl
theorem f63_4 (n0 : Nat) (f0 : FnV) (s2 : ByteArray) (x3 : Int) (n4 : Nat) (f4 : FnV) (x6 i_500 : Int) (n_501 n_502 : Nat) (i_503 i_504 i_505 : Int) (n_506 : Nat) (i_507 i_508 i_509 i_510 : Int) (f_511 : Nat -> List V) : fitT (D63 n0 f0 s2 x3 n4 f4 x6) (rdS ctB10 u0 (D63 n0 f0 s2 x3 n4 f4 x6) (S63.L4 i_500 n_501 n_502 i_503 i_504 i_505 n_506 i_507 i_508 i_509 i_510 f_511)) (st63 n0 f0 s2 x3 n4 f4 x6 (S63.L4 i_500 n_501 n_502 i_503 i_504 i_505 n_506 i_507 i_508 i_509 i_510 f_511)) = toF (D63 n0 f0 s2 x3 n4 f4 x6) (st63 n0 f0 s2 x3 n4 f4 x6 (S63.L4 i_500 n_501 n_502 i_503 i_504 i_505 n_506 i_507 i_508 i_509 i_510 f_511)) := by kernel_rfl
theorem q63_4 (n0 : Nat) (f0 : FnV) (s2 : ByteArray) (x3 : Int) (n4 : Nat) (f4 : FnV) (x6 i_500 : Int) (n_501 n_502 : Nat) (i_503 i_504 i_505 : Int) (n_506 : Nat) (i_507 i_508 i_509 i_510 : Int) (f_511 : Nat -> List V) : sameT (rdS ctB10 u0 (D63 n0 f0 s2 x3 n4 f4 x6) (S63.L4 i_500 n_501 n_502 i_503 i_504 i_505 n_506 i_507 i_508 i_509 i_510 f_511)) (st63 n0 f0 s2 x3 n4 f4 x6 (S63.L4 i_500 n_501 n_502 i_503 i_504 i_505 n_506 i_507 i_508 i_509 i_510 f_511)) = rdS ctB10 u0 (D63 n0 f0 s2 x3 n4 f4 x6) (S63.L4 i_500 n_501 n_502 i_503 i_504 i_505 n_506 i_507 i_508 i_509 i_510 f_511) := by kernel_rfl
theorem f63_5 (n0 : Nat) (f0 : FnV) (s2 : ByteArray) (x3 : Int) (n4 : Nat) (f4 : FnV) (x6 i_600 : Int) (n_601 n_602 : Nat) (i_603 i_604 i_605 : Int) (n_606 : Nat) (i_607 i_608 i_609 i_610 : Int) (f_611 : Nat -> List V) : fitT (D63 n0 f0 s2 x3 n4 f4 x6) (rdS ctB10 u0 (D63 n0 f0 s2 x3 n4 f4 x6) (S63.L5 i_600 n_601 n_602 i_603 i_604 i_605 n_606 i_607 i_608 i_609 i_610 f_611)) (st63 n0 f0 s2 x3 n4 f4 x6 (S63.L5 i_600 n_601 n_602 i_603 i_604 i_605 n_606 i_607 i_608 i_609 i_610 f_611)) = toF (D63 n0 f0 s2 x3 n4 f4 x6) (st63 n0 f0 s2 x3 n4 f4 x6 (S63.L5 i_600 n_601 n_602 i_603 i_604 i_605 n_606 i_607 i_608 i_609 i_610 f_611)) := by kernel_rfl
theorem q63_5 (n0 : Nat) (f0 : FnV) (s2 : ByteArray) (x3 : Int) (n4 : Nat) (f4 : FnV) (x6 i_600 : Int) (n_601 n_602 : Nat) (i_603 i_604 i_605 : Int) (n_606 : Nat) (i_607 i_608 i_609 i_610 : Int) (f_611 : Nat -> List V) : sameT (rdS ctB10 u0 (D63 n0 f0 s2 x3 n4 f4 x6) (S63.L5 i_600 n_601 n_602 i_603 i_604 i_605 n_606 i_607 i_608 i_609 i_610 f_611)) (st63 n0 f0 s2 x3 n4 f4 x6 (S63.L5 i_600 n_601 n_602 i_603 i_604 i_605 n_606 i_607 i_608 i_609 i_610 f_611)) = rdS ctB10 u0 (D63 n0 f0 s2 x3 n4 f4 x6) (S63.L5 i_600 n_601 n_602 i_603 i_604 i_605 n_606 i_607 i_608 i_609 i_610 f_611) := by kernel_rfl
theorem f63_6 (n0 : Nat) (f0 : FnV) (s2 : ByteArray) (x3 : Int) (n4 : Nat) (f4 : FnV) (x6 i_700 : Int) (n_701 n_702 : Nat) (i_703 i_704 i_705 : Int) (n_706 : Nat) (i_707 i_708 i_709 i_710 : Int) (f_711 : Nat -> List V) : fitT (D63 n0 f0 s2 x3 n4 f4 x6) (rdS ctB10 u0 (D63 n0 f0 s2 x3 n4 f4 x6) (S63.L6 i_700 n_701 n_702 i_703 i_704 i_705 n_706 i_707 i_708 i_709 i_710 f_711)) (st63 n0 f0 s2 x3 n4 f4 x6 (S63.L6 i_700 n_701 n_702 i_703 i_704 i_705 n_706 i_707 i_708 i_709 i_710 f_711)) = toF (D63 n0 f0 s2 x3 n4 f4 x6) (st63 n0 f0 s2 x3 n4 f4 x6 (S63.L6 i_700 n_701 n_702 i_703 i_704 i_705 n_706 i_707 i_708 i_709 i_710 f_711)) := by kernel_rfl
theorem q63_6 (n0 : Nat) (f0 : FnV) (s2 : ByteArray) (x3 : Int) (n4 : Nat) (f4 : FnV) (x6 i_700 : Int) (n_701 n_702 : Nat) (i_703 i_704 i_705 : Int) (n_706 : Nat) (i_707 i_708 i_709 i_710 : Int) (f_711 : Nat -> List V) : sameT (rdS ctB10 u0 (D63 n0 f0 s2 x3 n4 f4 x6) (S63.L6 i_700 n_701 n_702 i_703 i_704 i_705 n_706 i_707 i_708 i_709 i_710 f_711)) (st63 n0 f0 s2 x3 n4 f4 x6 (S63.L6 i_700 n_701 n_702 i_703 i_704 i_705 n_706 i_707 i_708 i_709 i_710 f_711)) = rdS ctB10 u0 (D63 n0 f0 s2 x3 n4 f4 x6) (S63.L6 i_700 n_701 n_702 i_703 i_704 i_705 n_706 i_707 i_708 i_709 i_710 f_711) := by kernel_rfl
theorem f63_7 (n0 : Nat) (f0 : FnV) (s2 : ByteArray) (x3 : Int) (n4 : Nat) (f4 : FnV) (x6 i_800 : Int) (n_801 n_802 : Nat) (i_803 i_804 i_805 : Int) (n_806 : Nat) (i_807 i_808 i_809 i_810 : Int) (f_811 : Nat -> List V) : fitT (D63 n0 f0 s2 x3 n4 f4 x6) (rdS ctB10 u0 (D63 n0 f0 s2 x3 n4 f4 x6) (S63.L7 i_800 n_801 n_802 i_803 i_804 i_805 n_806 i_807 i_808 i_809 i_810 f_811)) (st63 n0 f0 s2 x3 n4 f4 x6 (S63.L7 i_800 n_801 n_802 i_803 i_804 i_805 n_806 i_807 i_808 i_809 i_810 f_811)) = toF (D63 n0 f0 s2 x3 n4 f4 x6) (st63 n0 f0 s2 x3 n4 f4 x6 (S63.L7 i_800 n_801 n_802 i_803 i_804 i_805 n_806 i_807 i_808 i_809 i_810 f_811)) := by kernel_rfl
theorem q63_7 (n0 : Nat) (f0 : FnV) (s2 : ByteArray) (x3 : Int) (n4 : Nat) (f4 : FnV) (x6 i_800 : Int) (n_801 n_802 : Nat) (i_803 i_804 i_805 : Int) (n_806 : Nat) (i_807 i_808 i_809 i_810 : Int) (f_811 : Nat -> List V) : sameT (rdS ctB10 u0 (D63 n0 f0 s2 x3 n4 f4 x6) (S63.L7 i_800 n_801 n_802 i_803 i_804 i_805 n_806 i_807 i_808 i_809 i_810 f_811)) (st63 n0 f0 s2 x3 n4 f4 x6 (S63.L7 i_800 n_801 n_802 i_803 i_804 i_805 n_806 i_807 i_808 i_809 i_810 f_811)) = rdS ctB10 u0 (D63 n0 f0 s2 x3 n4 f4 x6) (S63.L7 i_800 n_801 n_802 i_803 i_804 i_805 n_806 i_807 i_808 i_809 i_810 f_811) := by kernel_rfl
theorem run63 (w0 : World) (n0 : Nat) (f0 : FnV) (s2 : ByteArray) (x3 : Int) (n4 : Nat) (f4 : FnV) (x6 : Int) {r : V} (h : evR (Ev (st63 n0 f0 s2 x3 n4 f4 x6)) (m63 n0 f0 s2 x3 n4 f4 x6) r) : sat (LPof w0 (SV ctB10)) (runL (Nat × Nat) ctB10 u0 s63 [V.sl n0 (elV tyR f0), V.agg [V.str s2, V.int i64 x3, V.sl n4 (elV [Ty.int i64, Ty.int i64] f4), V.int i64 x6]]) (topQ r) := run_ev (by kernel_rfl) (D63 n0 f0 s2 x3 n4 f4 x6) (st63 n0 f0 s2 x3 n4 f4 x6) _ (f63m n0 f0 s2 x3 n4 f4 x6) (q63m n0 f0 s2 x3 n4 f4 x6) (fun s => match s with | .L0 i_100 f_101 => f63_0 n0 f0 s2 x3 n4 f4 x6 i_100 f_101 | .L1 i_200 f_201 => f63_1 n0 f0 s2 x3 n4 f4 x6 i_200 f_201 | .L2 i_300 f_301 => f63_2 n0 f0 s2 x3 n4 f4 x6 i_300 f_301 | .L3 i_400 f_401 => f63_3 n0 f0 s2 x3 n4 f4 x6 i_400 f_401 | .L4 i_500 n_501 n_502 i_503 i_504 i_505 n_506 i_507 i_508 i_509 i_510 f_511 => f63_4 n0 f0 s2 x3 n4 f4 x6 i_500 n_501 n_502 i_503 i_504 i_505 n_506 i_507 i_508 i_509 i_510 f_511 | .L5 i_600 n_601 n_602 i_603 i_604 i_605 n_606 i_607 i_608 i_609 i_610 f_611 => f63_5 n0 f0 s2 x3 n4 f4 x6 i_600 n_601 n_602 i_603 i_604 i_605 n_606 i_607 i_608 i_609 i_610 f_611 | .L6 i_700 n_701 n_702 i_703 i_704 i_705 n_706 i_707 i_708 i_709 i_710 f_711 => f63_6 n0 f0 s2 x3 n4 f4 x6 i_700 n_701 n_702 i_703 i_704 i_705 n_706 i_707 i_708 i_709 i_710 f_711 | .L7 i_800 n_801 n_802 i_803 i_804 i_805 n_806 i_807 i_808 i_809 i_810 f_811 => f63_7 n0 f0 s2 x3 n4 f4 x6 i_800 n_801 n_802 i_803 i_804 i_805 n_806 i_807 i_808 i_809 i_810 f_811) (fun s => match s with | .L0 i_100 f_101 => q63_0 n0 f0 s2 x3 n4 f4 x6 i_100 f_101 | .L1 i_200 f_201 => q63_1 n0 f0 s2 x3 n4 f4 x6 i_200 f_201 | .L2 i_300 f_301 => q63_2 n0 f0 s2 x3 n4 f4 x6 i_300 f_301 | .L3 i_400 f_401 => q63_3 n0 f0 s2 x3 n4 f4 x6 i_400 f_401 | .L4 i_500 n_501 n_502 i_503 i_504 i_505 n_506 i_507 i_508 i_509 i_510 f_511 => q63_4 n0 f0 s2 x3 n4 f4 x6 i_500 n_501 n_502 i_503 i_504 i_505 n_506 i_507 i_508 i_509 i_510 f_511 | .L5 i_600 n_601 n_602 i_603 i_604 i_605 n_606 i_607 i_608 i_609 i_610 f_611 => q63_5 n0 f0 s2 x3 n4 f4 x6 i_600 n_601 n_602 i_603 i_604 i_605 n_606 i_607 i_608 i_609 i_610 f_611 | .L6 i_700 n_701 n_702 i_703 i_704 i_705 n_706 i_707 i_708 i_709 i_710 f_711 => q63_6 n0 f0 s2 x3 n4 f4 x6 i_700 n_701 n_702 i_703 i_704 i_705 n_706 i_707 i_708 i_709 i_710 f_711 | .L7 i_800 n_801 n_802 i_803 i_804 i_805 n_806 i_807 i_808 i_809 i_810 f_811 => q63_7 n0 f0 s2 x3 n4 f4 x6 i_800 n_801 n_802 i_803 i_804 i_805 n_806 i_807 i_808 i_809 i_810 f_811) h
def eqP (f : Nat -> List V) (i j : Nat) : Bool := iv (hdV (f i)) == iv (hdV (f j)) && (iv (hdV (tlV (f i))) == iv (hdV (tlV (f j))) && true)
def adjP (n : Nat) (f : Nat -> List V) : Bool := exB n fun i => decide (0 < i) && eqP f i (i - 1)
def tail63 (x3 : Int) (n4 : Nat) : Int := bif bif x3 == 3 then decide (2 < (n4 : Int)) else false then 2 else 0
def F63 (n0 : Nat) (f0 : FnV) (s2 : ByteArray) (x3 : Int) (n4 : Nat) (f4 : FnV) (x6 : Int) : Int := bif !F114_0 s2 then 6 else bif F90_0 n0 f0 s2 then 5 else bif F86_0 x3 0 3 then 2 else bif decide ((n4 : Int) < 2) then 4 else bif decide (8 < (n4 : Int)) then 3 else bif !!F115_0 n4 f4 then 7 else bif F86_0 x6 100 30000 then 7 else bif adjP n4 f4 then 2 else tail63 x3 n4
theorem tail63_ev {S : Type} {Nx : S -> V -> Prop} {x3 : Int} {n4 : Nat} {q : Prop} : evR Nx (.obi (.obi (.asm q (.obi (.obi (.br (bif x3 == 3 then decide (2 < (n4 : Int)) else false) (.ret (.int .i64 2)) (.ret (.int .i64 0)))))))) (.int .i64 (tail63 x3 n4)) := by
  refine evObi (evObi (evAsm fun _ => evObi (evObi (evBr (fun h => evRet ?_) (fun h => evRet ?_))))) <;> (unfold tail63; rw [h]; rfl)
theorem c63_4 (n0 : Nat) (f0 : FnV) (s2 : ByteArray) (x3 : Int) (n4 : Nat) (f4 : FnV) (x6 : Int) (h8 : n4 <= 8) (k0 : Nat) (hk : 1 <= k0) (hk' : k0 < n4) (t1 t2 t3 : Int) (t4 : Nat) (t5 t6 t7 : Int) : ∀ k2 : Nat, k2 <= n4 - k0 -> 1 <= k2 -> ∀ (k : Nat) (f : Nat -> List V), k + 1 <= k0 + k2 -> Ev (st63 n0 f0 s2 x3 n4 f4 x6) (.L4 k2 k0 (n4 - k0) t1 t2 t3 t4 t5 t6 t7 k f) (.int .i64 2) := by
  refine up_ind fun k2 hk2 ih h1 k f hkk => Ev.of rfl ?_
  have w1 : i64.wrap ((k2 : Int) - 1) = ((k2 - 1 : Nat) : Int) := by rw [wrapI (by omega) (by omega)]; omega
  have w2 : i64.wrap ((k2 : Int) + 1) = ((k2 + 1 : Nat) : Int) := by rw [wrapI (by omega) (by omega)]; omega
  have w3 : i64.wrap ((k : Int) + 1) = ((k + 1 : Nat) : Int) := by rw [wrapI (by omega) (by omega)]; omega
  refine evBr (fun h => ?_) (fun h => ?_)
  · have hlt : k2 < n4 - k0 := by have := of_decide_eq_true h; omega
    refine evOb (decide_eq_true (by omega)) (evOb (decide_eq_true (by omega)) (evOb (decide_eq_true (by rw [w1]; omega)) (evOb (decide_eq_true (by rw [w1]; omega)) (evBr (fun _ => ?_) (fun _ => ?_)))))
    · refine evOb (decide_eq_true (by omega)) (evOb (decide_eq_true (by omega)) (evOb (decide_eq_true (by omega)) (evOb (decide_eq_true (by omega)) (evNext ?_))))
      rw [w2, w3]
      exact ih hlt (by omega) (k + 1) _ (by omega)
    · refine evNext ?_
      rw [w2]
      exact ih hlt (by omega) k _ (by omega)
  · have hge : ¬ k2 < n4 - k0 := by have := of_decide_eq_false h; omega
    refine evOb (decide_eq_true (by omega)) (evOb (decide_eq_true (by omega)) (evOb (decide_eq_true (by omega)) ?_))
    try refine evAsm fun _ => ?_
    exact evBrT (decide_eq_true (by omega)) (evRet rfl)
theorem c63_0 (n0 : Nat) (f0 : FnV) (s2 : ByteArray) (x3 : Int) (n4 : Nat) (f4 : FnV) (x6 : Int) (h8 : n4 <= 8) (h2 : 2 <= n4) : ∀ i : Nat, i <= n4 -> 1 <= i -> (∀ j, j < i -> (decide (0 < j) && eqP f4 j (j - 1)) = false) -> ∀ f : Nat -> List V, (∀ i j, eqP f i j = eqP f4 i j) -> Ev (st63 n0 f0 s2 x3 n4 f4 x6) (.L0 i f) (.int .i64 (bif adjP n4 f4 then 2 else tail63 x3 n4)) := by
  refine up_ind fun i hi ih h1 hj f hf => Ev.of rfl ?_
  have w1 : i64.wrap ((i : Int) - 1) = ((i - 1 : Nat) : Int) := by rw [wrapI (by omega) (by omega)]; omega
  have w2 : i64.wrap ((i : Int) + 1) = ((i + 1 : Nat) : Int) := by rw [wrapI (by omega) (by omega)]; omega
  refine evBr (fun h => ?_) (fun h => ?_)
  · have hlt : i < n4 := by have := of_decide_eq_true h; omega
    refine evOb (decide_eq_true (by omega)) (evOb (decide_eq_true (by omega)) (evOb (decide_eq_true (by rw [w1]; omega)) (evOb (decide_eq_true (by rw [w1]; omega)) (evBr (fun hb => ?_) (fun hb => ?_)))))
    · have hb' : eqP f4 i (i - 1) = true := by
        rw [← hf]; rw [w1] at hb; simpa only [Int.toNat_natCast, eqP] using hb
      rw [show adjP n4 f4 = true from exB_true i hlt (by rw [hb']; simp; omega), cond_true]
      refine evOb (decide_eq_true (by omega)) (evEnter ?_)
      have := c63_4 n0 f0 s2 x3 n4 f4 x6 h8 i h1 hlt
      simp only [Int.toNat_natCast]
      exact this _ _ _ _ _ _ _ 1 (by omega) (by omega) i _ (by omega)
    · have hb' : eqP f4 i (i - 1) = false := by
        rw [← hf]; rw [w1] at hb; simpa only [Int.toNat_natCast, eqP] using hb
      refine evNext ?_
      rw [w2]
      refine ih hlt (by omega) (fun j h3 => ?_) _ (fun a b => hf a b)
      by_cases e : j = i
      · subst e; rw [hb', Bool.and_false]
      · exact hj j (by omega)
  · have : i = n4 := by have := of_decide_eq_false h; omega
    subst this
    rw [show adjP i f4 = false from exB_false hj, cond_false]
    try refine evAsm fun _ => ?_
    exact evBrGe tail63_ev
theorem c63_0' (n0 : Nat) (f0 : FnV) (s2 : ByteArray) (x3 : Int) (n4 : Nat) (f4 : FnV) (x6 : Int) (h8 : n4 <= 8) (h2 : 2 <= n4) (f : Nat -> List V) (hf : ∀ i j, eqP f i j = eqP f4 i j) : Ev (st63 n0 f0 s2 x3 n4 f4 x6) (.L0 1 f) (.int .i64 (bif adjP n4 f4 then 2 else tail63 x3 n4)) := c63_0 n0 f0 s2 x3 n4 f4 x6 h8 h2 1 (by omega) (Nat.le_refl _) (fun j hj => by
  have : j = 0 := by omega
  subst this; rfl) f hf
theorem c63_5 (n0 : Nat) (f0 : FnV) (s2 : ByteArray) (x3 : Int) (n4 : Nat) (f4 : FnV) (x6 : Int) (h8 : n4 <= 8) (k0 : Nat) (hk : 1 <= k0) (hk' : k0 < n4) (t1 t2 t3 : Int) (t4 : Nat) (t5 t6 t7 : Int) : ∀ k2 : Nat, k2 <= n4 - k0 -> 1 <= k2 -> ∀ (k : Nat) (f : Nat -> List V), k + 1 <= k0 + k2 -> Ev (st63 n0 f0 s2 x3 n4 f4 x6) (.L5 k2 k0 (n4 - k0) t1 t2 t3 t4 t5 t6 t7 k f) (.int .i64 2) := by
  refine up_ind fun k2 hk2 ih h1 k f hkk => Ev.of rfl ?_
  have w1 : i64.wrap ((k2 : Int) - 1) = ((k2 - 1 : Nat) : Int) := by rw [wrapI (by omega) (by omega)]; omega
  have w2 : i64.wrap ((k2 : Int) + 1) = ((k2 + 1 : Nat) : Int) := by rw [wrapI (by omega) (by omega)]; omega
  have w3 : i64.wrap ((k : Int) + 1) = ((k + 1 : Nat) : Int) := by rw [wrapI (by omega) (by omega)]; omega
  refine evBr (fun h => ?_) (fun h => ?_)
  · have hlt : k2 < n4 - k0 := by have := of_decide_eq_true h; omega
    refine evOb (decide_eq_true (by omega)) (evOb (decide_eq_true (by omega)) (evOb (decide_eq_true (by rw [w1]; omega)) (evOb (decide_eq_true (by rw [w1]; omega)) (evBr (fun _ => ?_) (fun _ => ?_)))))
    · refine evOb (decide_eq_true (by omega)) (evOb (decide_eq_true (by omega)) (evOb (decide_eq_true (by omega)) (evOb (decide_eq_true (by omega)) (evNext ?_))))
      rw [w2, w3]
      exact ih hlt (by omega) (k + 1) _ (by omega)
    · refine evNext ?_
      rw [w2]
      exact ih hlt (by omega) k _ (by omega)
  · have hge : ¬ k2 < n4 - k0 := by have := of_decide_eq_false h; omega
    refine evOb (decide_eq_true (by omega)) (evOb (decide_eq_true (by omega)) (evOb (decide_eq_true (by omega)) ?_))
    try refine evAsm fun _ => ?_
    exact evBrT (decide_eq_true (by omega)) (evRet rfl)
theorem c63_1 (n0 : Nat) (f0 : FnV) (s2 : ByteArray) (x3 : Int) (n4 : Nat) (f4 : FnV) (x6 : Int) (h8 : n4 <= 8) (h2 : 2 <= n4) : ∀ i : Nat, i <= n4 -> 1 <= i -> (∀ j, j < i -> (decide (0 < j) && eqP f4 j (j - 1)) = false) -> ∀ f : Nat -> List V, (∀ i j, eqP f i j = eqP f4 i j) -> Ev (st63 n0 f0 s2 x3 n4 f4 x6) (.L1 i f) (.int .i64 (bif adjP n4 f4 then 2 else tail63 x3 n4)) := by
  refine up_ind fun i hi ih h1 hj f hf => Ev.of rfl ?_
  have w1 : i64.wrap ((i : Int) - 1) = ((i - 1 : Nat) : Int) := by rw [wrapI (by omega) (by omega)]; omega
  have w2 : i64.wrap ((i : Int) + 1) = ((i + 1 : Nat) : Int) := by rw [wrapI (by omega) (by omega)]; omega
  refine evBr (fun h => ?_) (fun h => ?_)
  · have hlt : i < n4 := by have := of_decide_eq_true h; omega
    refine evOb (decide_eq_true (by omega)) (evOb (decide_eq_true (by omega)) (evOb (decide_eq_true (by rw [w1]; omega)) (evOb (decide_eq_true (by rw [w1]; omega)) (evBr (fun hb => ?_) (fun hb => ?_)))))
    · have hb' : eqP f4 i (i - 1) = true := by
        rw [← hf]; rw [w1] at hb; simpa only [Int.toNat_natCast, eqP] using hb
      rw [show adjP n4 f4 = true from exB_true i hlt (by rw [hb']; simp; omega), cond_true]
      refine evOb (decide_eq_true (by omega)) (evEnter ?_)
      have := c63_5 n0 f0 s2 x3 n4 f4 x6 h8 i h1 hlt
      simp only [Int.toNat_natCast]
      exact this _ _ _ _ _ _ _ 1 (by omega) (by omega) i _ (by omega)
    · have hb' : eqP f4 i (i - 1) = false := by
        rw [← hf]; rw [w1] at hb; simpa only [Int.toNat_natCast, eqP] using hb
      refine evNext ?_
      rw [w2]
      refine ih hlt (by omega) (fun j h3 => ?_) _ (fun a b => hf a b)
      by_cases e : j = i
      · subst e; rw [hb', Bool.and_false]
      · exact hj j (by omega)
  · have : i = n4 := by have := of_decide_eq_false h; omega
    subst this
    rw [show adjP i f4 = false from exB_false hj, cond_false]
    try refine evAsm fun _ => ?_
    exact evBrGe tail63_ev
theorem c63_1' (n0 : Nat) (f0 : FnV) (s2 : ByteArray) (x3 : Int) (n4 : Nat) (f4 : FnV) (x6 : Int) (h8 : n4 <= 8) (h2 : 2 <= n4) (f : Nat -> List V) (hf : ∀ i j, eqP f i j = eqP f4 i j) : Ev (st63 n0 f0 s2 x3 n4 f4 x6) (.L1 1 f) (.int .i64 (bif adjP n4 f4 then 2 else tail63 x3 n4)) := c63_1 n0 f0 s2 x3 n4 f4 x6 h8 h2 1 (by omega) (Nat.le_refl _) (fun j hj => by
  have : j = 0 := by omega
  subst this; rfl) f hf
theorem c63_6 (n0 : Nat) (f0 : FnV) (s2 : ByteArray) (x3 : Int) (n4 : Nat) (f4 : FnV) (x6 : Int) (h8 : n4 <= 8) (k0 : Nat) (hk : 1 <= k0) (hk' : k0 < n4) (t1 t2 t3 : Int) (t4 : Nat) (t5 t6 t7 : Int) : ∀ k2 : Nat, k2 <= n4 - k0 -> 1 <= k2 -> ∀ (k : Nat) (f : Nat -> List V), k + 1 <= k0 + k2 -> Ev (st63 n0 f0 s2 x3 n4 f4 x6) (.L6 k2 k0 (n4 - k0) t1 t2 t3 t4 t5 t6 t7 k f) (.int .i64 2) := by
  refine up_ind fun k2 hk2 ih h1 k f hkk => Ev.of rfl ?_
  have w1 : i64.wrap ((k2 : Int) - 1) = ((k2 - 1 : Nat) : Int) := by rw [wrapI (by omega) (by omega)]; omega
  have w2 : i64.wrap ((k2 : Int) + 1) = ((k2 + 1 : Nat) : Int) := by rw [wrapI (by omega) (by omega)]; omega
  have w3 : i64.wrap ((k : Int) + 1) = ((k + 1 : Nat) : Int) := by rw [wrapI (by omega) (by omega)]; omega
  refine evBr (fun h => ?_) (fun h => ?_)
  · have hlt : k2 < n4 - k0 := by have := of_decide_eq_true h; omega
    refine evOb (decide_eq_true (by omega)) (evOb (decide_eq_true (by omega)) (evOb (decide_eq_true (by rw [w1]; omega)) (evOb (decide_eq_true (by rw [w1]; omega)) (evBr (fun _ => ?_) (fun _ => ?_)))))
    · refine evOb (decide_eq_true (by omega)) (evOb (decide_eq_true (by omega)) (evOb (decide_eq_true (by omega)) (evOb (decide_eq_true (by omega)) (evNext ?_))))
      rw [w2, w3]
      exact ih hlt (by omega) (k + 1) _ (by omega)
    · refine evNext ?_
      rw [w2]
      exact ih hlt (by omega) k _ (by omega)
  · have hge : ¬ k2 < n4 - k0 := by have := of_decide_eq_false h; omega
    refine evOb (decide_eq_true (by omega)) (evOb (decide_eq_true (by omega)) (evOb (decide_eq_true (by omega)) ?_))
    try refine evAsm fun _ => ?_
    exact evBrT (decide_eq_true (by omega)) (evRet rfl)
theorem c63_2 (n0 : Nat) (f0 : FnV) (s2 : ByteArray) (x3 : Int) (n4 : Nat) (f4 : FnV) (x6 : Int) (h8 : n4 <= 8) (h2 : 2 <= n4) : ∀ i : Nat, i <= n4 -> 1 <= i -> (∀ j, j < i -> (decide (0 < j) && eqP f4 j (j - 1)) = false) -> ∀ f : Nat -> List V, (∀ i j, eqP f i j = eqP f4 i j) -> Ev (st63 n0 f0 s2 x3 n4 f4 x6) (.L2 i f) (.int .i64 (bif adjP n4 f4 then 2 else tail63 x3 n4)) := by
  refine up_ind fun i hi ih h1 hj f hf => Ev.of rfl ?_
  have w1 : i64.wrap ((i : Int) - 1) = ((i - 1 : Nat) : Int) := by rw [wrapI (by omega) (by omega)]; omega
  have w2 : i64.wrap ((i : Int) + 1) = ((i + 1 : Nat) : Int) := by rw [wrapI (by omega) (by omega)]; omega
  refine evBr (fun h => ?_) (fun h => ?_)
  · have hlt : i < n4 := by have := of_decide_eq_true h; omega
    refine evOb (decide_eq_true (by omega)) (evOb (decide_eq_true (by omega)) (evOb (decide_eq_true (by rw [w1]; omega)) (evOb (decide_eq_true (by rw [w1]; omega)) (evBr (fun hb => ?_) (fun hb => ?_)))))
    · have hb' : eqP f4 i (i - 1) = true := by
        rw [← hf]; rw [w1] at hb; simpa only [Int.toNat_natCast, eqP] using hb
      rw [show adjP n4 f4 = true from exB_true i hlt (by rw [hb']; simp; omega), cond_true]
      refine evOb (decide_eq_true (by omega)) (evEnter ?_)
      have := c63_6 n0 f0 s2 x3 n4 f4 x6 h8 i h1 hlt
      simp only [Int.toNat_natCast]
      exact this _ _ _ _ _ _ _ 1 (by omega) (by omega) i _ (by omega)
    · have hb' : eqP f4 i (i - 1) = false := by
        rw [← hf]; rw [w1] at hb; simpa only [Int.toNat_natCast, eqP] using hb
      refine evNext ?_
      rw [w2]
      refine ih hlt (by omega) (fun j h3 => ?_) _ (fun a b => hf a b)
      by_cases e : j = i
      · subst e; rw [hb', Bool.and_false]
      · exact hj j (by omega)
  · have : i = n4 := by have := of_decide_eq_false h; omega
    subst this
    rw [show adjP i f4 = false from exB_false hj, cond_false]
    try refine evAsm fun _ => ?_
    exact evBrGe tail63_ev
theorem c63_2' (n0 : Nat) (f0 : FnV) (s2 : ByteArray) (x3 : Int) (n4 : Nat) (f4 : FnV) (x6 : Int) (h8 : n4 <= 8) (h2 : 2 <= n4) (f : Nat -> List V) (hf : ∀ i j, eqP f i j = eqP f4 i j) : Ev (st63 n0 f0 s2 x3 n4 f4 x6) (.L2 1 f) (.int .i64 (bif adjP n4 f4 then 2 else tail63 x3 n4)) := c63_2 n0 f0 s2 x3 n4 f4 x6 h8 h2 1 (by omega) (Nat.le_refl _) (fun j hj => by
  have : j = 0 := by omega
  subst this; rfl) f hf
theorem c63_7 (n0 : Nat) (f0 : FnV) (s2 : ByteArray) (x3 : Int) (n4 : Nat) (f4 : FnV) (x6 : Int) (h8 : n4 <= 8) (k0 : Nat) (hk : 1 <= k0) (hk' : k0 < n4) (t1 t2 t3 : Int) (t4 : Nat) (t5 t6 t7 : Int) : ∀ k2 : Nat, k2 <= n4 - k0 -> 1 <= k2 -> ∀ (k : Nat) (f : Nat -> List V), k + 1 <= k0 + k2 -> Ev (st63 n0 f0 s2 x3 n4 f4 x6) (.L7 k2 k0 (n4 - k0) t1 t2 t3 t4 t5 t6 t7 k f) (.int .i64 2) := by
  refine up_ind fun k2 hk2 ih h1 k f hkk => Ev.of rfl ?_
  have w1 : i64.wrap ((k2 : Int) - 1) = ((k2 - 1 : Nat) : Int) := by rw [wrapI (by omega) (by omega)]; omega
  have w2 : i64.wrap ((k2 : Int) + 1) = ((k2 + 1 : Nat) : Int) := by rw [wrapI (by omega) (by omega)]; omega
  have w3 : i64.wrap ((k : Int) + 1) = ((k + 1 : Nat) : Int) := by rw [wrapI (by omega) (by omega)]; omega
  refine evBr (fun h => ?_) (fun h => ?_)
  · have hlt : k2 < n4 - k0 := by have := of_decide_eq_true h; omega
    refine evOb (decide_eq_true (by omega)) (evOb (decide_eq_true (by omega)) (evOb (decide_eq_true (by rw [w1]; omega)) (evOb (decide_eq_true (by rw [w1]; omega)) (evBr (fun _ => ?_) (fun _ => ?_)))))
    · refine evOb (decide_eq_true (by omega)) (evOb (decide_eq_true (by omega)) (evOb (decide_eq_true (by omega)) (evOb (decide_eq_true (by omega)) (evNext ?_))))
      rw [w2, w3]
      exact ih hlt (by omega) (k + 1) _ (by omega)
    · refine evNext ?_
      rw [w2]
      exact ih hlt (by omega) k _ (by omega)
  · have hge : ¬ k2 < n4 - k0 := by have := of_decide_eq_false h; omega
    refine evOb (decide_eq_true (by omega)) (evOb (decide_eq_true (by omega)) (evOb (decide_eq_true (by omega)) ?_))
    try refine evAsm fun _ => ?_
    exact evBrT (decide_eq_true (by omega)) (evRet rfl)
theorem c63_3 (n0 : Nat) (f0 : FnV) (s2 : ByteArray) (x3 : Int) (n4 : Nat) (f4 : FnV) (x6 : Int) (h8 : n4 <= 8) (h2 : 2 <= n4) : ∀ i : Nat, i <= n4 -> 1 <= i -> (∀ j, j < i -> (decide (0 < j) && eqP f4 j (j - 1)) = false) -> ∀ f : Nat -> List V, (∀ i j, eqP f i j = eqP f4 i j) -> Ev (st63 n0 f0 s2 x3 n4 f4 x6) (.L3 i f) (.int .i64 (bif adjP n4 f4 then 2 else tail63 x3 n4)) := by
  refine up_ind fun i hi ih h1 hj f hf => Ev.of rfl ?_
  have w1 : i64.wrap ((i : Int) - 1) = ((i - 1 : Nat) : Int) := by rw [wrapI (by omega) (by omega)]; omega
  have w2 : i64.wrap ((i : Int) + 1) = ((i + 1 : Nat) : Int) := by rw [wrapI (by omega) (by omega)]; omega
  refine evBr (fun h => ?_) (fun h => ?_)
  · have hlt : i < n4 := by have := of_decide_eq_true h; omega
    refine evOb (decide_eq_true (by omega)) (evOb (decide_eq_true (by omega)) (evOb (decide_eq_true (by rw [w1]; omega)) (evOb (decide_eq_true (by rw [w1]; omega)) (evBr (fun hb => ?_) (fun hb => ?_)))))
    · have hb' : eqP f4 i (i - 1) = true := by
        rw [← hf]; rw [w1] at hb; simpa only [Int.toNat_natCast, eqP] using hb
      rw [show adjP n4 f4 = true from exB_true i hlt (by rw [hb']; simp; omega), cond_true]
      refine evOb (decide_eq_true (by omega)) (evEnter ?_)
      have := c63_7 n0 f0 s2 x3 n4 f4 x6 h8 i h1 hlt
      simp only [Int.toNat_natCast]
      exact this _ _ _ _ _ _ _ 1 (by omega) (by omega) i _ (by omega)
    · have hb' : eqP f4 i (i - 1) = false := by
        rw [← hf]; rw [w1] at hb; simpa only [Int.toNat_natCast, eqP] using hb
      refine evNext ?_
      rw [w2]
      refine ih hlt (by omega) (fun j h3 => ?_) _ (fun a b => hf a b)
      by_cases e : j = i
      · subst e; rw [hb', Bool.and_false]
      · exact hj j (by omega)
  · have : i = n4 := by have := of_decide_eq_false h; omega
    subst this
    rw [show adjP i f4 = false from exB_false hj, cond_false]
    try refine evAsm fun _ => ?_
    exact evBrGe tail63_ev
theorem c63_3' (n0 : Nat) (f0 : FnV) (s2 : ByteArray) (x3 : Int) (n4 : Nat) (f4 : FnV) (x6 : Int) (h8 : n4 <= 8) (h2 : 2 <= n4) (f : Nat -> List V) (hf : ∀ i j, eqP f i j = eqP f4 i j) : Ev (st63 n0 f0 s2 x3 n4 f4 x6) (.L3 1 f) (.int .i64 (bif adjP n4 f4 then 2 else tail63 x3 n4)) := c63_3 n0 f0 s2 x3 n4 f4 x6 h8 h2 1 (by omega) (Nat.le_refl _) (fun j hj => by
  have : j = 0 := by omega
  subst this; rfl) f hf
theorem ev63_0 (n0 : Nat) (f0 : FnV) (s2 : ByteArray) (x3 : Int) (n4 : Nat) (f4 : FnV) (x6 : Int) (hp : s2.size <= 9223372036854775807) : evR (Ev (st63 n0 f0 s2 x3 n4 f4 x6)) (m63 n0 f0 s2 x3 n4 f4 x6) (.int .i64 (F63 n0 f0 s2 x3 n4 f4 x6)) := by
  unfold F63
  refine evObp hp (evObt ?_)
  refine evBr (fun h => evRet (by rw [h]; rfl)) (fun h => ?_)
  rw [h, cond_false]
  refine evObc (evObt (evBr (fun h => evRet (by rw [show F90_0 n0 f0 s2 = true from h]; rfl)) (fun h => ?_)))
  rw [show F90_0 n0 f0 s2 = false from h, cond_false]
  refine evObc (evObt (evBr (fun h => evRet (by rw [h]; rfl)) (fun h => ?_)))
  rw [h, cond_false]
  refine evAsm1 fun hn => evBr (fun h => evRet (by rw [h]; rfl)) (fun h2 => ?_)
  rw [h2, cond_false]
  refine evAsm1 fun hn => evBr (fun h => evRet (by rw [h]; rfl)) (fun h8 => ?_)
  rw [h8, cond_false]
  have h2 : 2 <= n4 := by have := of_decide_eq_false h2; omega
  have h8 : n4 <= 8 := by have := of_decide_eq_false h8; omega
  have e2 : decide ((n4 : Int) < 2) = false := decide_eq_false (by omega)
  refine evObc (evObt (evObi (evBr (fun h => ?_) (fun h => evRet (by rw [show (!!F115_0 n4 f4) = true from by rw [show (!F115_0 n4 f4) = false from h]; rfl]; rfl)))))
  rw [show (!!F115_0 n4 f4) = false from by rw [show (!F115_0 n4 f4) = true from h]; rfl, cond_false]
  refine evOb h (evObc (evObt (evBr (fun h => evRet (by rw [h]; rfl)) (fun h => ?_))))
  rw [h, cond_false]
  have h16 : (decide (n4 * 16 <= 140737488355328) && !Nat.beq 16 0) = true := by rw [decide_eq_true (show n4 * 16 <= 140737488355328 by omega)]; rfl
  have hne : n4 = 0 -> False := by omega
  have hi : ∀ i j, eqP (elV [.int .i64, .int .i64] f4) i j = eqP f4 i j := fun _ _ => rfl
  repeat' (first
    | exact evAsm (fun h0 => (hne h0).elim)
    | exact evEnter (c63_0' _ _ _ _ _ _ _ h8 h2 _ hi)
    | exact evEnter (c63_1' _ _ _ _ _ _ _ h8 h2 _ hi)
    | exact evEnter (c63_2' _ _ _ _ _ _ _ h8 h2 _ hi)
    | exact evEnter (c63_3' _ _ _ _ _ _ _ h8 h2 _ hi)
    | refine evUnd ?_ ?_
    | refine evAsm (fun _ => ?_)
    | refine evObv ?_
    | refine evOb h16 ?_
    | refine evBrF e2 ?_
    | refine evBrF rfl ?_
    | refine evBrT rfl ?_)
theorem ev63 (n0 : Nat) (f0 : FnV) (s2 : ByteArray) (x3 : Int) (n4 : Nat) (f4 : FnV) (x6 : Int) (hp : s2.size <= 9223372036854775807) : evR (Ev (st63 n0 f0 s2 x3 n4 f4 x6)) (m63 n0 f0 s2 x3 n4 f4 x6) (.int .i64 (F63 n0 (elV tyR f0) s2 x3 n4 (elV [.int .i64, .int .i64] f4) x6)) := ev63_0 n0 f0 s2 x3 n4 f4 x6 hp
def C63 : PCon := mkC [.sl tyR, .agg tyR] (fun
  | [.sl n0 f0, .agg [.str s2, .int _ x3, .sl n4 f4, .int _ x6]] => s2.size <= 9223372036854775807
  | _ => False) fun
  | [.sl n0 f0, .agg [.str s2, .int _ x3, .sl n4 f4, .int _ x6]] => .int .i64 (F63 n0 f0 s2 x3 n4 f4 x6)
  | _ => .any
theorem ok63 : (vP C63).Ok Tryz.prog 63 := mkC_ev (J := Nat × Nat) (un := u0) tabB10 hE hI Tryz.func63 (by kernel_rfl) (by kernel_rfl) (by kernel_rfl) rfl (fun w0 ds hp => run63 w0 _ _ _ _ _ _ _ (ev63 _ _ _ _ _ _ _ hp))
def m69 (n0 : Nat) (f0 : FnV) (s2 : ByteArray) (x3 x4 x5 x6 x7 : Int) : RT Empty := .obp (s2.size <= (9223372036854775807 : Nat)) (.obt (.br (!F114_0 s2) (.ret (V.int i64 6)) (.obc (.obt (.br (F121_0 n0 (elV tyC f0) s2) (.ret (V.int i64 5)) (.obc (.obt (.obi (.br (!F45_0 2 (elV [Ty.int i64] (secF [V.int i64 x3, V.int i64 x4] 0 ((1 + 1 - 0) / 2)))) (.ob (!F45_0 2 (elV [Ty.int i64] (secF [V.int i64 x3, V.int i64 x4] 0 ((1 + 1 - 0) / 2)))) (.obc (.obt (.obi (.br (!F86_0 x5 1 200) (.ob (!F86_0 x5 1 200) (.obc (.obt (.obi (.br (!F86_0 x6 (-1000) 1000) (.ob (!F86_0 x6 (-1000) 1000) (.obc (.obt (.br (F86_0 x7 (-1000) 1000) (.ret (V.int i64 7)) (.obi (.obi (.obi (.br (bif x6 == 0 then x7 == 0 else false) (.ret (V.int i64 2)) (.ret (V.int i64 0)))))))))) (.ret (V.int i64 7))))))) (.ret (V.int i64 7))))))) (.ret (V.int i64 7)))))))))))
def rl69 (n0 : Nat) (f0 : FnV) (s2 : ByteArray) (x3 x4 x5 x6 x7 : Int) : T (Leaf (Nat × Nat)) := runL (Nat × Nat) ctB10 u0 s69 [V.sl n0 (elV tyC f0), V.agg [V.str s2, V.int i64 x3, V.int i64 x4, V.int i64 x5, V.int i64 x6, V.int i64 x7]]
theorem f69m (n0 : Nat) (f0 : FnV) (s2 : ByteArray) (x3 x4 x5 x6 x7 : Int) : fitT noD (rl69 n0 f0 s2 x3 x4 x5 x6 x7) (m69 n0 f0 s2 x3 x4 x5 x6 x7) = toF noD (m69 n0 f0 s2 x3 x4 x5 x6 x7) := by kernel_rfl
theorem q69m (n0 : Nat) (f0 : FnV) (s2 : ByteArray) (x3 x4 x5 x6 x7 : Int) : sameT (rl69 n0 f0 s2 x3 x4 x5 x6 x7) (m69 n0 f0 s2 x3 x4 x5 x6 x7) = (rl69 n0 f0 s2 x3 x4 x5 x6 x7) := by kernel_rfl
theorem run69 (w0 : World) (n0 : Nat) (f0 : FnV) (s2 : ByteArray) (x3 x4 x5 x6 x7 : Int) {r : V} (h : evR noE (m69 n0 f0 s2 x3 x4 x5 x6 x7) r) : sat (LPof w0 (SV ctB10)) (runL (Nat × Nat) ctB10 u0 s69 [V.sl n0 (elV tyC f0), V.agg [V.str s2, V.int i64 x3, V.int i64 x4, V.int i64 x5, V.int i64 x6, V.int i64 x7]]) (topQ r) := run_ev0 (by kernel_rfl) _ (f69m n0 f0 s2 x3 x4 x5 x6 x7) (q69m n0 f0 s2 x3 x4 x5 x6 x7) h
def F69_0 (n0 : Nat) (f0 : FnV) (s2 : ByteArray) (x3 x4 x5 x6 x7 : Int) : Int := bif !F114_0 s2 then 6 else bif F121_0 n0 (elV tyC f0) s2 then 5 else bif !F45_0 2 (elV [Ty.int i64] (secF [V.int i64 x3, V.int i64 x4] 0 ((1 + 1 - 0) / 2))) then bif !F86_0 x5 1 200 then bif !F86_0 x6 (-1000) 1000 then bif F86_0 x7 (-1000) 1000 then 7 else bif bif x6 == 0 then x7 == 0 else false then 2 else 0 else 7 else 7 else 7
def R69 (n0 : Nat) (f0 : FnV) (s2 : ByteArray) (x3 x4 x5 x6 x7 : Int) : V := .int i64 (F69_0 n0 f0 s2 x3 x4 x5 x6 x7)
theorem ev69 (n0 : Nat) (f0 : FnV) (s2 : ByteArray) (x3 x4 x5 x6 x7 : Int) (hp : s2.size <= 9223372036854775807) : evR noE (m69 n0 f0 s2 x3 x4 x5 x6 x7) (R69 n0 f0 s2 x3 x4 x5 x6 x7) := evObp (by first | assumption | (exact hp)) (evObt (evBr (fun h0 => evRet (by unfold R69 F69_0; try rw [h0]; rfl)) (fun h0 => evObc (evObt (evBr (fun h1 => evRet (by unfold R69 F69_0; try rw [h0]; try rw [h1]; rfl)) (fun h1 => evObc (evObt (evObi (evBr (fun h2 => evOb (by first | assumption | (fail)) (evObc (evObt (evObi (evBr (fun h3 => evOb (by first | assumption | (fail)) (evObc (evObt (evObi (evBr (fun h4 => evOb (by first | assumption | (fail)) (evObc (evObt (evBr (fun h5 => evRet (by unfold R69 F69_0; try rw [h0]; try rw [h1]; try rw [h2]; try rw [h3]; try rw [h4]; try rw [h5]; rfl)) (fun h5 => evObi (evObi (evObi (evBr (fun h6 => evRet (by unfold R69 F69_0; try rw [h0]; try rw [h1]; try rw [h2]; try rw [h3]; try rw [h4]; try rw [h5]; try rw [h6]; rfl)) (fun h6 => evRet (by unfold R69 F69_0; try rw [h0]; try rw [h1]; try rw [h2]; try rw [h3]; try rw [h4]; try rw [h5]; try rw [h6]; rfl)))))))))) (fun h4 => evRet (by unfold R69 F69_0; try rw [h0]; try rw [h1]; try rw [h2]; try rw [h3]; try rw [h4]; rfl))))))) (fun h3 => evRet (by unfold R69 F69_0; try rw [h0]; try rw [h1]; try rw [h2]; try rw [h3]; rfl))))))) (fun h2 => evRet (by unfold R69 F69_0; try rw [h0]; try rw [h1]; try rw [h2]; rfl)))))))))))
def C69 : PCon := mkC [.sl tyC, .agg tyC] (fun
  | [.sl n0 f0, .agg [.str s2, .int _ x3, .int _ x4, .int _ x5, .int _ x6, .int _ x7]] => s2.size <= 9223372036854775807
  | _ => False) fun
  | [.sl n0 f0, .agg [.str s2, .int _ x3, .int _ x4, .int _ x5, .int _ x6, .int _ x7]] => R69 n0 f0 s2 x3 x4 x5 x6 x7
  | _ => .any
theorem ok69 : (vP C69).Ok Tryz.prog 69 := mkC_ev (J := Nat × Nat) (un := u0) tabB10 hE hI Tryz.func69 (by kernel_rfl) (by kernel_rfl) (by kernel_rfl) rfl (fun w0 ds hp => run69 w0 _ _ _ _ _ _ _ _ (ev69 _ _ _ _ _ _ _ _ hp))
end Go.Dx
namespace Go.Dx
open Go.IntKind (i64 u64 u8)
open Go.Sx Go.Proofs
set_option maxRecDepth 100000
set_option linter.unusedVariables false
set_option linter.unusedSimpArgs false
noncomputable section
def ctB11 : CTab := (63, .con C63) :: (69, .con C69) :: ctB10
theorem tabB11 : TabOk Tryz.prog eqs its ctB11 := .con ok63 (.con ok69 (tabB10))
inductive S70 where
  | L0 (i_100 : Int)
  | L1 (i_200 i_201 : Int)
  | L2 (i_300 i_301 i_302 : Int)
def inv70 (n0 : Nat) (f0 : FnV) (n2 : Nat) (f2 : FnV) (n4 : Nat) (f4 : FnV) (n6 : Nat) (f6 : FnV) (x8 : Int) : S70 -> Env × List O × Option Ex
  | .L0 i_100 => ([(6, V.int i64 i_100), (17, V.kb false), (16, V.bool (F122 (sv (hdV (f0 x8.toNat))))), (15, V.str (sv (hdV (f0 x8.toNat)))), (14, V.pl 0 0), (5, V.pl 0 0), (13, V.agg [V.str (sv (hdV (f0 x8.toNat))), V.int i64 (iv (hdV (tlV (f0 x8.toNat)))), V.sl (lenV (hdV (tlV (tlV (f0 x8.toNat))))) fun i => views [Ty.int i64, Ty.int i64] (atV (hdV (tlV (tlV (f0 x8.toNat)))) i), V.int i64 (iv (hdV (tlV (tlV (tlV (f0 x8.toNat))))))]), (12, V.pd [V.str (sv (hdV (f0 x8.toNat))), V.int i64 (iv (hdV (tlV (f0 x8.toNat)))), V.sl (lenV (hdV (tlV (tlV (f0 x8.toNat))))) fun i => views [Ty.int i64, Ty.int i64] (atV (hdV (tlV (tlV (f0 x8.toNat)))) i), V.int i64 (iv (hdV (tlV (tlV (tlV (f0 x8.toNat))))))]), (11, V.int i64 x8), (10, V.sl n0 (elV tyR f0)), (9, V.pl 1 0), (4, V.int i64 0), (2, V.pl 1 0), (0, scV n0 f0 n2 f2 n4 f4 n6 f6), (1, V.int i64 x8)], [O.cells [V.str (sv (hdV (f0 x8.toNat))), V.int i64 (iv (hdV (tlV (f0 x8.toNat)))), V.sl (lenV (hdV (tlV (tlV (f0 x8.toNat))))) fun i => views [Ty.int i64, Ty.int i64] (atV (hdV (tlV (tlV (f0 x8.toNat)))) i), V.int i64 (iv (hdV (tlV (tlV (tlV (f0 x8.toNat))))))] 54, O.cells [V.sl n0 (elV tyR f0), V.sl n2 (elV tyT f2), V.sl n4 (elV tyF f4), V.sl n6 (elV tyC f6)] 27], none)
  | .L1 i_200 i_201 => ([(7, V.int i64 i_200), (43, V.kb false), (42, V.int i64 (↑(lenV (hdV (tlV (tlV (f0 x8.toNat))))) : Int)), (41, V.sl (lenV (hdV (tlV (tlV (f0 x8.toNat))))) fun i => views [Ty.int i64, Ty.int i64] (atV (hdV (tlV (tlV (f0 x8.toNat)))) i)), (40, V.pl 0 2), (39, V.kb false), (38, V.int i64 (↑(lenV (hdV (tlV (tlV (f0 x8.toNat))))) : Int)), (37, V.sl (lenV (hdV (tlV (tlV (f0 x8.toNat))))) fun i => views [Ty.int i64, Ty.int i64] (atV (hdV (tlV (tlV (f0 x8.toNat)))) i)), (36, V.pl 0 2), (35, V.kb false), (34, V.bool (F71_0 (iv (hdV (tlV (f0 x8.toNat)))) 0 3)), (33, V.int i64 (iv (hdV (tlV (f0 x8.toNat))))), (32, V.pl 0 1), (20, V.kb false), (19, V.int i64 x8), (18, V.int i64 i_201), (6, V.int i64 i_201), (17, V.kb false), (16, V.bool (F122 (sv (hdV (f0 x8.toNat))))), (15, V.str (sv (hdV (f0 x8.toNat)))), (14, V.pl 0 0), (5, V.pl 0 0), (13, V.agg [V.str (sv (hdV (f0 x8.toNat))), V.int i64 (iv (hdV (tlV (f0 x8.toNat)))), V.sl (lenV (hdV (tlV (tlV (f0 x8.toNat))))) fun i => views [Ty.int i64, Ty.int i64] (atV (hdV (tlV (tlV (f0 x8.toNat)))) i), V.int i64 (iv (hdV (tlV (tlV (tlV (f0 x8.toNat))))))]), (12, V.pd [V.str (sv (hdV (f0 x8.toNat))), V.int i64 (iv (hdV (tlV (f0 x8.toNat)))), V.sl (lenV (hdV (tlV (tlV (f0 x8.toNat))))) fun i => views [Ty.int i64, Ty.int i64] (atV (hdV (tlV (tlV (f0 x8.toNat)))) i), V.int i64 (iv (hdV (tlV (tlV (tlV (f0 x8.toNat))))))]), (11, V.int i64 x8), (10, V.sl n0 (elV tyR f0)), (9, V.pl 1 0), (4, V.int i64 0), (2, V.pl 1 0), (0, scV n0 f0 n2 f2 n4 f4 n6 f6), (1, V.int i64 x8)], [O.cells [V.str (sv (hdV (f0 x8.toNat))), V.int i64 (iv (hdV (tlV (f0 x8.toNat)))), V.sl (lenV (hdV (tlV (tlV (f0 x8.toNat))))) fun i => views [Ty.int i64, Ty.int i64] (atV (hdV (tlV (tlV (f0 x8.toNat)))) i), V.int i64 (iv (hdV (tlV (tlV (tlV (f0 x8.toNat))))))] 54, O.cells [V.sl n0 (elV tyR f0), V.sl n2 (elV tyT f2), V.sl n4 (elV tyF f4), V.sl n6 (elV tyC f6)] 27], none)
  | .L2 i_300 i_301 i_302 => ([(8, V.int i64 i_300), (69, V.kb false), (68, V.bool (F71_0 (iv (hdV (tlV (tlV (tlV (f0 x8.toNat)))))) 100 30000)), (67, V.int i64 (iv (hdV (tlV (tlV (tlV (f0 x8.toNat))))))), (66, V.pl 0 3), (48, V.kb false), (47, V.int i64 (↑(lenV (hdV (tlV (tlV (f0 x8.toNat))))) : Int)), (46, V.sl (lenV (hdV (tlV (tlV (f0 x8.toNat))))) fun i => views [Ty.int i64, Ty.int i64] (atV (hdV (tlV (tlV (f0 x8.toNat)))) i)), (45, V.pl 0 2), (44, V.int i64 i_301), (7, V.int i64 i_301), (43, V.kb false), (42, V.int i64 (↑(lenV (hdV (tlV (tlV (f0 x8.toNat))))) : Int)), (41, V.sl (lenV (hdV (tlV (tlV (f0 x8.toNat))))) fun i => views [Ty.int i64, Ty.int i64] (atV (hdV (tlV (tlV (f0 x8.toNat)))) i)), (40, V.pl 0 2), (39, V.kb false), (38, V.int i64 (↑(lenV (hdV (tlV (tlV (f0 x8.toNat))))) : Int)), (37, V.sl (lenV (hdV (tlV (tlV (f0 x8.toNat))))) fun i => views [Ty.int i64, Ty.int i64] (atV (hdV (tlV (tlV (f0 x8.toNat)))) i)), (36, V.pl 0 2), (35, V.kb false), (34, V.bool (F71_0 (iv (hdV (tlV (f0 x8.toNat)))) 0 3)), (33, V.int i64 (iv (hdV (tlV (f0 x8.toNat))))), (32, V.pl 0 1), (20, V.kb false), (19, V.int i64 x8), (18, V.int i64 i_302), (6, V.int i64 i_302), (17, V.kb false), (16, V.bool (F122 (sv (hdV (f0 x8.toNat))))), (15, V.str (sv (hdV (f0 x8.toNat)))), (14, V.pl 0 0), (5, V.pl 0 0), (13, V.agg [V.str (sv (hdV (f0 x8.toNat))), V.int i64 (iv (hdV (tlV (f0 x8.toNat)))), V.sl (lenV (hdV (tlV (tlV (f0 x8.toNat))))) fun i => views [Ty.int i64, Ty.int i64] (atV (hdV (tlV (tlV (f0 x8.toNat)))) i), V.int i64 (iv (hdV (tlV (tlV (tlV (f0 x8.toNat))))))]), (12, V.pd [V.str (sv (hdV (f0 x8.toNat))), V.int i64 (iv (hdV (tlV (f0 x8.toNat)))), V.sl (lenV (hdV (tlV (tlV (f0 x8.toNat))))) fun i => views [Ty.int i64, Ty.int i64] (atV (hdV (tlV (tlV (f0 x8.toNat)))) i), V.int i64 (iv (hdV (tlV (tlV (tlV (f0 x8.toNat))))))]), (11, V.int i64 x8), (10, V.sl n0 (elV tyR f0)), (9, V.pl 1 0), (4, V.int i64 0), (2, V.pl 1 0), (0, scV n0 f0 n2 f2 n4 f4 n6 f6), (1, V.int i64 x8)], [O.cells [V.str (sv (hdV (f0 x8.toNat))), V.int i64 (iv (hdV (tlV (f0 x8.toNat)))), V.sl (lenV (hdV (tlV (tlV (f0 x8.toNat))))) fun i => views [Ty.int i64, Ty.int i64] (atV (hdV (tlV (tlV (f0 x8.toNat)))) i), V.int i64 (iv (hdV (tlV (tlV (tlV (f0 x8.toNat))))))] 54, O.cells [V.sl n0 (elV tyR f0), V.sl n2 (elV tyT f2), V.sl n4 (elV tyF f4), V.sl n6 (elV tyC f6)] 27], none)
def id70 : S70 -> Nat × Nat
  | .L0 i_100 => (0, 0)
  | .L1 i_200 i_201 => (1, 0)
  | .L2 i_300 i_301 i_302 => (2, 0)
def rl70 (n0 : Nat) (f0 : FnV) (n2 : Nat) (f2 : FnV) (n4 : Nat) (f4 : FnV) (n6 : Nat) (f6 : FnV) (x8 : Int) : T (Leaf (Nat × Nat)) := runL (Nat × Nat) ctB11 u0 s70 [scV n0 f0 n2 f2 n4 f4 n6 f6, V.int i64 x8]
def lp70_0 (n0 : Nat) (f0 : FnV) (n2 : Nat) (f2 : FnV) (n4 : Nat) (f4 : FnV) (n6 : Nat) (f6 : FnV) (x8 : Int) (cx : Nat) : Lp (Nat × Nat) := lpT (atT (rl70 n0 f0 n2 f2 n4 f4 n6 f6 x8) [false])
def lp70_1 (n0 : Nat) (f0 : FnV) (n2 : Nat) (f2 : FnV) (n4 : Nat) (f4 : FnV) (n6 : Nat) (f6 : FnV) (x8 : Int) (cx : Nat) : Lp (Nat × Nat) := lpT (atT (rdT ctB11 u0 (0, cx) (lp70_0 n0 f0 n2 f2 n4 f4 n6 f6 x8 cx) (inv70 n0 f0 n2 f2 n4 f4 n6 f6 x8 (.L0 (0 : Int))).1 (inv70 n0 f0 n2 f2 n4 f4 n6 f6 x8 (.L0 (0 : Int))).2.1 (inv70 n0 f0 n2 f2 n4 f4 n6 f6 x8 (.L0 (0 : Int))).2.2) [false, false, false, false])
def lp70_2 (n0 : Nat) (f0 : FnV) (n2 : Nat) (f2 : FnV) (n4 : Nat) (f4 : FnV) (n6 : Nat) (f6 : FnV) (x8 : Int) (cx : Nat) : Lp (Nat × Nat) := lpT (atT (rdT ctB11 u0 (1, cx) (lp70_1 n0 f0 n2 f2 n4 f4 n6 f6 x8 cx) (inv70 n0 f0 n2 f2 n4 f4 n6 f6 x8 (.L1 (0 : Int) (0 : Int))).1 (inv70 n0 f0 n2 f2 n4 f4 n6 f6 x8 (.L1 (0 : Int) (0 : Int))).2.1 (inv70 n0 f0 n2 f2 n4 f4 n6 f6 x8 (.L1 (0 : Int) (0 : Int))).2.2) [false, false])
def lp70 (n0 : Nat) (f0 : FnV) (n2 : Nat) (f2 : FnV) (n4 : Nat) (f4 : FnV) (n6 : Nat) (f6 : FnV) (x8 : Int) : Nat × Nat -> Lp (Nat × Nat)
  | (0, cx) => lp70_0 n0 f0 n2 f2 n4 f4 n6 f6 x8 cx
  | (1, cx) => lp70_1 n0 f0 n2 f2 n4 f4 n6 f6 x8 cx
  | (2, cx) => lp70_2 n0 f0 n2 f2 n4 f4 n6 f6 x8 cx
  | (_, cx) => lp70_0 n0 f0 n2 f2 n4 f4 n6 f6 x8 cx
def D70 (n0 : Nat) (f0 : FnV) (n2 : Nat) (f2 : FnV) (n4 : Nat) (f4 : FnV) (n6 : Nat) (f6 : FnV) (x8 : Int) : LD (Nat × Nat) S70 := ⟨id70, lp70 n0 f0 n2 f2 n4 f4 n6 f6 x8, inv70 n0 f0 n2 f2 n4 f4 n6 f6 x8⟩
def st70 (n0 : Nat) (f0 : FnV) (n2 : Nat) (f2 : FnV) (n4 : Nat) (f4 : FnV) (n6 : Nat) (f6 : FnV) (x8 : Int) : S70 -> RT S70
  | .L0 i_100 => .br (decide (i_100 < x8)) (.ob (decide (0 <= i_100 /\ i_100 < (↑n0 : Int))) (.br ((sv (hdV (f0 i_100.toNat))).toList == (sv (hdV (f0 x8.toNat))).toList) (.ret (V.int i64 5)) (.next [some (some 0), some (some 1)] (S70.L0 (i64.wrap (i_100 + 1))) []))) (.obc (.obt (.br (!F71_0 (iv (hdV (tlV (f0 x8.toNat)))) 0 3) (.ret (V.int i64 2)) (.asm (true = true -> lenV (hdV (tlV (tlV (f0 x8.toNat)))) <= 9223372036854775807) (.br (decide ((↑(lenV (hdV (tlV (tlV (f0 x8.toNat))))) : Int) < 2)) (.ret (V.int i64 4)) (.asm (true = true -> lenV (hdV (tlV (tlV (f0 x8.toNat)))) <= 9223372036854775807) (.br (decide (8 < (↑(lenV (hdV (tlV (tlV (f0 x8.toNat))))) : Int))) (.ret (V.int i64 3)) (.enter [some (some 0), some (some 1)] (S70.L1 (0) (i_100)) []))))))))
  | .L1 i_200 i_201 => .asm (true = true -> lenV (hdV (tlV (tlV (f0 x8.toNat)))) <= 9223372036854775807) (.br (decide (i_200 < (↑(lenV (hdV (tlV (tlV (f0 x8.toNat))))) : Int))) (.ob (decide (0 <= i_200 /\ i_200 < (↑(lenV (hdV (tlV (tlV (f0 x8.toNat))))) : Int))) (.obt (.ob (decide (0 <= i_200 /\ i_200 < (↑(lenV (hdV (tlV (tlV (f0 x8.toNat))))) : Int))) (.obt (.obc (.obt (.br (!F51 2 (elV [Ty.int i64] (secF [V.int i64 (iv (hdV (atV (hdV (tlV (tlV (f0 x8.toNat)))) i_200.toNat))), V.int i64 (iv (hdV (tlV (atV (hdV (tlV (tlV (f0 x8.toNat)))) i_200.toNat))))] 0 ((1 + 1 - 0) / 2)))) (.ret (V.int i64 7)) (.next [some (some 0), some (some 1)] (S70.L1 (i64.wrap (i_200 + 1)) (i_201)) [])))))))) (.obc (.obt (.br (!F71_0 (iv (hdV (tlV (tlV (tlV (f0 x8.toNat)))))) 100 30000) (.ret (V.int i64 7)) (.enter [some (some 0), some (some 1)] (S70.L2 (1) (i_200) (i_201)) [])))))
  | .L2 i_300 i_301 i_302 => .asm (true = true -> lenV (hdV (tlV (tlV (f0 x8.toNat)))) <= 9223372036854775807) (.br (decide (i_300 < (↑(lenV (hdV (tlV (tlV (f0 x8.toNat))))) : Int))) (.ob (decide (0 <= i_300 /\ i_300 < (↑(lenV (hdV (tlV (tlV (f0 x8.toNat))))) : Int))) (.ob (decide (0 <= i64.wrap (i_300 - 1) /\ i64.wrap (i_300 - 1) < (↑(lenV (hdV (tlV (tlV (f0 x8.toNat))))) : Int))) (.br (iv (hdV (atV (hdV (tlV (tlV (f0 x8.toNat)))) i_300.toNat)) == iv (hdV (atV (hdV (tlV (tlV (f0 x8.toNat)))) (i64.wrap (i_300 - 1)).toNat)) && (iv (hdV (tlV (atV (hdV (tlV (tlV (f0 x8.toNat)))) i_300.toNat))) == iv (hdV (tlV (atV (hdV (tlV (tlV (f0 x8.toNat)))) (i64.wrap (i_300 - 1)).toNat))) && true)) (.ret (V.int i64 2)) (.next [some (some 0), some (some 1)] (S70.L2 (i64.wrap (i_300 + 1)) (i_301) (i_302)) [])))) (.obi (.obi (.asm ((iv (hdV (tlV (f0 x8.toNat))) == 3) = true -> lenV (hdV (tlV (tlV (f0 x8.toNat)))) <= 9223372036854775807) (.obi (.obi (.br (bif iv (hdV (tlV (f0 x8.toNat))) == 3 then decide (2 < (↑(lenV (hdV (tlV (tlV (f0 x8.toNat))))) : Int)) else false) (.ret (V.int i64 2)) (.ret (V.int i64 0)))))))))
def m70 (n0 : Nat) (f0 : FnV) (n2 : Nat) (f2 : FnV) (n4 : Nat) (f4 : FnV) (n6 : Nat) (f6 : FnV) (x8 : Int) : RT S70 := .ob (decide (0 <= x8 /\ x8 < (↑n0 : Int))) (.obp ((sv (hdV (f0 x8.toNat))).size <= (9223372036854775807 : Nat)) (.obt (.br (!F122 (sv (hdV (f0 x8.toNat)))) (.ret (V.int i64 6)) (.enter [some (some 1), some (some 0)] (S70.L0 (0)) []))))
theorem f70m (n0 : Nat) (f0 : FnV) (n2 : Nat) (f2 : FnV) (n4 : Nat) (f4 : FnV) (n6 : Nat) (f6 : FnV) (x8 : Int) : fitT (D70 n0 f0 n2 f2 n4 f4 n6 f6 x8) (rl70 n0 f0 n2 f2 n4 f4 n6 f6 x8) (m70 n0 f0 n2 f2 n4 f4 n6 f6 x8) = toF (D70 n0 f0 n2 f2 n4 f4 n6 f6 x8) (m70 n0 f0 n2 f2 n4 f4 n6 f6 x8) := by kernel_rfl
theorem q70m (n0 : Nat) (f0 : FnV) (n2 : Nat) (f2 : FnV) (n4 : Nat) (f4 : FnV) (n6 : Nat) (f6 : FnV) (x8 : Int) : sameT (rl70 n0 f0 n2 f2 n4 f4 n6 f6 x8) (m70 n0 f0 n2 f2 n4 f4 n6 f6 x8) = (rl70 n0 f0 n2 f2 n4 f4 n6 f6 x8) := by kernel_rfl
theorem f70_0 (n0 : Nat) (f0 : FnV) (n2 : Nat) (f2 : FnV) (n4 : Nat) (f4 : FnV) (n6 : Nat) (f6 : FnV) (x8 i_100 : Int) : fitT (D70 n0 f0 n2 f2 n4 f4 n6 f6 x8) (rdS ctB11 u0 (D70 n0 f0 n2 f2 n4 f4 n6 f6 x8) (S70.L0 i_100)) (st70 n0 f0 n2 f2 n4 f4 n6 f6 x8 (S70.L0 i_100)) = toF (D70 n0 f0 n2 f2 n4 f4 n6 f6 x8) (st70 n0 f0 n2 f2 n4 f4 n6 f6 x8 (S70.L0 i_100)) := by kernel_rfl
theorem q70_0 (n0 : Nat) (f0 : FnV) (n2 : Nat) (f2 : FnV) (n4 : Nat) (f4 : FnV) (n6 : Nat) (f6 : FnV) (x8 i_100 : Int) : sameT (rdS ctB11 u0 (D70 n0 f0 n2 f2 n4 f4 n6 f6 x8) (S70.L0 i_100)) (st70 n0 f0 n2 f2 n4 f4 n6 f6 x8 (S70.L0 i_100)) = rdS ctB11 u0 (D70 n0 f0 n2 f2 n4 f4 n6 f6 x8) (S70.L0 i_100) := by kernel_rfl
theorem f70_1 (n0 : Nat) (f0 : FnV) (n2 : Nat) (f2 : FnV) (n4 : Nat) (f4 : FnV) (n6 : Nat) (f6 : FnV) (x8 i_200 i_201 : Int) : fitT (D70 n0 f0 n2 f2 n4 f4 n6 f6 x8) (rdS ctB11 u0 (D70 n0 f0 n2 f2 n4 f4 n6 f6 x8) (S70.L1 i_200 i_201)) (st70 n0 f0 n2 f2 n4 f4 n6 f6 x8 (S70.L1 i_200 i_201)) = toF (D70 n0 f0 n2 f2 n4 f4 n6 f6 x8) (st70 n0 f0 n2 f2 n4 f4 n6 f6 x8 (S70.L1 i_200 i_201)) := by kernel_rfl
theorem q70_1 (n0 : Nat) (f0 : FnV) (n2 : Nat) (f2 : FnV) (n4 : Nat) (f4 : FnV) (n6 : Nat) (f6 : FnV) (x8 i_200 i_201 : Int) : sameT (rdS ctB11 u0 (D70 n0 f0 n2 f2 n4 f4 n6 f6 x8) (S70.L1 i_200 i_201)) (st70 n0 f0 n2 f2 n4 f4 n6 f6 x8 (S70.L1 i_200 i_201)) = rdS ctB11 u0 (D70 n0 f0 n2 f2 n4 f4 n6 f6 x8) (S70.L1 i_200 i_201) := by kernel_rfl
theorem f70_2 (n0 : Nat) (f0 : FnV) (n2 : Nat) (f2 : FnV) (n4 : Nat) (f4 : FnV) (n6 : Nat) (f6 : FnV) (x8 i_300 i_301 i_302 : Int) : fitT (D70 n0 f0 n2 f2 n4 f4 n6 f6 x8) (rdS ctB11 u0 (D70 n0 f0 n2 f2 n4 f4 n6 f6 x8) (S70.L2 i_300 i_301 i_302)) (st70 n0 f0 n2 f2 n4 f4 n6 f6 x8 (S70.L2 i_300 i_301 i_302)) = toF (D70 n0 f0 n2 f2 n4 f4 n6 f6 x8) (st70 n0 f0 n2 f2 n4 f4 n6 f6 x8 (S70.L2 i_300 i_301 i_302)) := by kernel_rfl
theorem q70_2 (n0 : Nat) (f0 : FnV) (n2 : Nat) (f2 : FnV) (n4 : Nat) (f4 : FnV) (n6 : Nat) (f6 : FnV) (x8 i_300 i_301 i_302 : Int) : sameT (rdS ctB11 u0 (D70 n0 f0 n2 f2 n4 f4 n6 f6 x8) (S70.L2 i_300 i_301 i_302)) (st70 n0 f0 n2 f2 n4 f4 n6 f6 x8 (S70.L2 i_300 i_301 i_302)) = rdS ctB11 u0 (D70 n0 f0 n2 f2 n4 f4 n6 f6 x8) (S70.L2 i_300 i_301 i_302) := by kernel_rfl
theorem run70 (w0 : World) (n0 : Nat) (f0 : FnV) (n2 : Nat) (f2 : FnV) (n4 : Nat) (f4 : FnV) (n6 : Nat) (f6 : FnV) (x8 : Int) {r : V} (h : evR (Ev (st70 n0 f0 n2 f2 n4 f4 n6 f6 x8)) (m70 n0 f0 n2 f2 n4 f4 n6 f6 x8) r) : sat (LPof w0 (SV ctB11)) (runL (Nat × Nat) ctB11 u0 s70 [scV n0 f0 n2 f2 n4 f4 n6 f6, V.int i64 x8]) (topQ r) := run_ev (by kernel_rfl) (D70 n0 f0 n2 f2 n4 f4 n6 f6 x8) (st70 n0 f0 n2 f2 n4 f4 n6 f6 x8) _ (f70m n0 f0 n2 f2 n4 f4 n6 f6 x8) (q70m n0 f0 n2 f2 n4 f4 n6 f6 x8) (fun s => match s with | .L0 i_100 => f70_0 n0 f0 n2 f2 n4 f4 n6 f6 x8 i_100 | .L1 i_200 i_201 => f70_1 n0 f0 n2 f2 n4 f4 n6 f6 x8 i_200 i_201 | .L2 i_300 i_301 i_302 => f70_2 n0 f0 n2 f2 n4 f4 n6 f6 x8 i_300 i_301 i_302) (fun s => match s with | .L0 i_100 => q70_0 n0 f0 n2 f2 n4 f4 n6 f6 x8 i_100 | .L1 i_200 i_201 => q70_1 n0 f0 n2 f2 n4 f4 n6 f6 x8 i_200 i_201 | .L2 i_300 i_301 i_302 => q70_2 n0 f0 n2 f2 n4 f4 n6 f6 x8 i_300 i_301 i_302) h
def ptOk (x y : Int) : Bool := F51 2 (elV [.int .i64] (secF [V.int .i64 x, V.int .i64 y] 0 ((1 + 1 - 0) / 2)))
def roadE (k : Int) (n : Nat) (f : Nat -> List V) (h : Int) : Int := bif !F71_0 k 0 3 then 2 else bif decide ((n : Int) < 2) then 4 else bif decide (8 < (n : Int)) then 3 else bif exB n (fun i => !ptOk (iv (hdV (f i))) (iv (hdV (tlV (f i))))) then 7 else bif !F71_0 h 100 30000 then 7 else bif adjP n f then 2 else tail63 k n
def F70 (n0 : Nat) (f0 : FnV) (x8 : Int) : Int := bif !F122 (sv (hdV (f0 x8.toNat))) then 6 else bif exB x8.toNat (fun k => (sv (hdV (f0 k))).toList == (sv (hdV (f0 x8.toNat))).toList) then 5 else roadE (iv (hdV (tlV (f0 x8.toNat)))) (lenV (hdV (tlV (tlV (f0 x8.toNat))))) (atV (hdV (tlV (tlV (f0 x8.toNat))))) (iv (hdV (tlV (tlV (tlV (f0 x8.toNat))))))
theorem c70_2 (n0 : Nat) (f0 : FnV) (n2 : Nat) (f2 : FnV) (n4 : Nat) (f4 : FnV) (n6 : Nat) (f6 : FnV) (k : Nat) (h8 : (lenV (hdV (tlV (tlV (f0 k))))) <= 8) (h2 : 2 <= (lenV (hdV (tlV (tlV (f0 k)))))) (i1 i2 : Int) : ∀ i : Nat, i <= (lenV (hdV (tlV (tlV (f0 k))))) -> 1 <= i -> (∀ j, j < i -> (decide (0 < j) && eqP (atV (hdV (tlV (tlV (f0 k))))) j (j - 1)) = false) -> Ev (st70 n0 f0 n2 f2 n4 f4 n6 f6 (k : Int)) (.L2 i i1 i2) (.int .i64 (bif adjP (lenV (hdV (tlV (tlV (f0 k))))) (atV (hdV (tlV (tlV (f0 k))))) then 2 else tail63 (iv (hdV (tlV (f0 k)))) (lenV (hdV (tlV (tlV (f0 k))))))) := by
  refine up_ind fun i hi ih h1 hj => Ev.of rfl ?_
  have w1 : i64.wrap ((i : Int) - 1) = ((i - 1 : Nat) : Int) := by rw [wrapI (by omega) (by omega)]; omega
  have w2 : i64.wrap ((i : Int) + 1) = ((i + 1 : Nat) : Int) := by rw [wrapI (by omega) (by omega)]; omega
  refine evAsm fun _ => evBr (fun h => ?_) (fun h => ?_)
  · have hlt : i < (lenV (hdV (tlV (tlV (f0 k))))) := by have : (i : Int) < ((lenV (hdV (tlV (tlV (f0 k))))) : Int) := of_decide_eq_true h; omega
    refine evOb (decide_eq_true (show 0 <= (i : Int) /\ (i : Int) < ((lenV (hdV (tlV (tlV (f0 k))))) : Int) by omega)) (evOb (decide_eq_true (show 0 <= i64.wrap ((i : Int) - 1) /\ i64.wrap ((i : Int) - 1) < ((lenV (hdV (tlV (tlV (f0 k))))) : Int) by rw [w1]; omega)) (evBr (fun hb => ?_) (fun hb => ?_)))
    · have hb' : eqP (atV (hdV (tlV (tlV (f0 k))))) i (i - 1) = true := by
        rw [w1] at hb; simpa only [Int.toNat_natCast, eqP] using hb
      rw [show adjP (lenV (hdV (tlV (tlV (f0 k))))) (atV (hdV (tlV (tlV (f0 k))))) = true from exB_true i hlt (by rw [hb']; simp; omega), cond_true]
      exact evRet rfl
    · have hb' : eqP (atV (hdV (tlV (tlV (f0 k))))) i (i - 1) = false := by
        rw [w1] at hb; simpa only [Int.toNat_natCast, eqP] using hb
      refine evNext ?_
      rw [w2]
      refine ih hlt (by omega) (fun j h3 => ?_)
      by_cases e : j = i
      · subst e; rw [hb', Bool.and_false]
      · exact hj j (by omega)
  · have e : i = (lenV (hdV (tlV (tlV (f0 k))))) := by have : ¬ (i : Int) < ((lenV (hdV (tlV (tlV (f0 k))))) : Int) := of_decide_eq_false h; omega
    rw [show adjP (lenV (hdV (tlV (tlV (f0 k))))) (atV (hdV (tlV (tlV (f0 k))))) = false from exB_false fun j h => hj j (by omega), cond_false]
    exact tail63_ev
theorem c70_1 (n0 : Nat) (f0 : FnV) (n2 : Nat) (f2 : FnV) (n4 : Nat) (f4 : FnV) (n6 : Nat) (f6 : FnV) (k : Nat) (h8 : (lenV (hdV (tlV (tlV (f0 k))))) <= 8) (h2 : 2 <= (lenV (hdV (tlV (tlV (f0 k)))))) (i1 : Int) : ∀ i : Nat, i <= (lenV (hdV (tlV (tlV (f0 k))))) -> (∀ j, j < i -> (!ptOk (iv (hdV ((atV (hdV (tlV (tlV (f0 k))))) j))) (iv (hdV (tlV ((atV (hdV (tlV (tlV (f0 k))))) j))))) = false) -> Ev (st70 n0 f0 n2 f2 n4 f4 n6 f6 (k : Int)) (.L1 i i1) (.int .i64 (bif exB (lenV (hdV (tlV (tlV (f0 k))))) (fun i => !ptOk (iv (hdV ((atV (hdV (tlV (tlV (f0 k))))) i))) (iv (hdV (tlV ((atV (hdV (tlV (tlV (f0 k))))) i))))) then 7 else bif !F71_0 (iv (hdV (tlV (tlV (tlV (f0 k)))))) 100 30000 then 7 else bif adjP (lenV (hdV (tlV (tlV (f0 k))))) (atV (hdV (tlV (tlV (f0 k))))) then 2 else tail63 (iv (hdV (tlV (f0 k)))) (lenV (hdV (tlV (tlV (f0 k))))))) := by
  refine up_ind fun i hi ih hj => Ev.of rfl ?_
  have w2 : i64.wrap ((i : Int) + 1) = ((i + 1 : Nat) : Int) := by rw [wrapI (by omega) (by omega)]; omega
  refine evAsm fun _ => evBr (fun h => ?_) (fun h => ?_)
  · have hlt : i < (lenV (hdV (tlV (tlV (f0 k))))) := by have : (i : Int) < ((lenV (hdV (tlV (tlV (f0 k))))) : Int) := of_decide_eq_true h; omega
    refine evOb (decide_eq_true (show 0 <= (i : Int) /\ (i : Int) < ((lenV (hdV (tlV (tlV (f0 k))))) : Int) by omega)) (evObt (evOb (decide_eq_true (show 0 <= (i : Int) /\ (i : Int) < ((lenV (hdV (tlV (tlV (f0 k))))) : Int) by omega)) (evObt (evObc (evObt (evBr (fun hb => evRet ?_) (fun hb => evNext ?_)))))))
    · rw [exB_true (p := fun i => !ptOk (iv (hdV ((atV (hdV (tlV (tlV (f0 k))))) i))) (iv (hdV (tlV ((atV (hdV (tlV (tlV (f0 k))))) i))))) i hlt hb]; rfl
    · rw [w2]
      refine ih hlt (fun j h3 => ?_)
      by_cases e : j = i
      · subst e; exact hb
      · exact hj j (by omega)
  · have e : i = (lenV (hdV (tlV (tlV (f0 k))))) := by have : ¬ (i : Int) < ((lenV (hdV (tlV (tlV (f0 k))))) : Int) := of_decide_eq_false h; omega
    rw [show exB (lenV (hdV (tlV (tlV (f0 k))))) (fun i => !ptOk (iv (hdV ((atV (hdV (tlV (tlV (f0 k))))) i))) (iv (hdV (tlV ((atV (hdV (tlV (tlV (f0 k))))) i))))) = false from exB_false fun j h => hj j (by omega), cond_false]
    refine evObc (evObt (evBr (fun h => evRet (by rw [show (!F71_0 (iv (hdV (tlV (tlV (tlV (f0 k)))))) 100 30000) = true from h]; rfl)) (fun h => ?_)))
    rw [show (!F71_0 (iv (hdV (tlV (tlV (tlV (f0 k)))))) 100 30000) = false from h, cond_false]
    refine evEnter (c70_2 n0 f0 n2 f2 n4 f4 n6 f6 k h8 h2 _ _ 1 (by omega) (by omega) (fun j h => ?_))
    have : j = 0 := by omega
    subst this; rfl
theorem ev70_0 (n0 : Nat) (f0 : FnV) (n2 : Nat) (f2 : FnV) (n4 : Nat) (f4 : FnV) (n6 : Nat) (f6 : FnV) (x8 : Int) (hp : 0 <= x8 /\ x8 < n0 /\ n0 <= 9223372036854775807 /\ SzOk n0 f0) : evR (Ev (st70 n0 f0 n2 f2 n4 f4 n6 f6 x8)) (m70 n0 f0 n2 f2 n4 f4 n6 f6 x8) (.int .i64 (F70 n0 f0 x8)) := by
  obtain ⟨h0, h1, h2, h3⟩ := hp
  obtain ⟨k, rfl⟩ : ∃ k : Nat, x8 = (k : Int) := ⟨x8.toNat, by omega⟩
  have hk : k < n0 := by omega
  refine evObLt hk (evObp (h3 k hk) (evObt ?_))
  unfold F70
  simp only [Int.toNat_natCast]
  refine evBr (fun h => evRet (by rw [show (!F122 (sv (hdV (f0 k)))) = true from h]; rfl)) (fun h => ?_)
  rw [show (!F122 (sv (hdV (f0 k)))) = false from h, cond_false]
  refine evEnter (scan (n := k) (by omega) (fun i => (sv (hdV (f0 i))).toList == (sv (hdV (f0 k))).toList) (P := fun i => Ev (st70 n0 f0 n2 f2 n4 f4 n6 f6 (k : Int)) (.L0 i) _) (fun i hlt hj next => Ev.of rfl (evBrLt hlt (evObLt (by omega) (evBr (fun hb => evRet ?_) (fun hb => evNext (next hb))))))
    (fun hj => Ev.of rfl (evBrGe ?_)))
  · rw [exB_true i hlt hb]; rfl
  · rw [exB_false hj, cond_false]
    unfold roadE
    refine evObc (evObt (evBr (fun h => evRet (by rw [show (!F71_0 (iv (hdV (tlV (f0 k)))) 0 3) = true from h]; rfl)) (fun h => ?_)))
    rw [show (!F71_0 (iv (hdV (tlV (f0 k)))) 0 3) = false from h, cond_false]
    refine evAsm1 fun hn => evBr (fun h => evRet (by rw [show decide (((lenV (hdV (tlV (tlV (f0 k))))) : Int) < 2) = true from h]; rfl)) (fun h2 => ?_)
    rw [show decide (((lenV (hdV (tlV (tlV (f0 k))))) : Int) < 2) = false from h2, cond_false]
    refine evAsm1 fun hn => evBr (fun h => evRet (by rw [show decide (8 < ((lenV (hdV (tlV (tlV (f0 k))))) : Int)) = true from h]; rfl)) (fun h8 => ?_)
    rw [show decide (8 < ((lenV (hdV (tlV (tlV (f0 k))))) : Int)) = false from h8, cond_false]
    have h2 : 2 <= (lenV (hdV (tlV (tlV (f0 k))))) := by have : ¬ (((lenV (hdV (tlV (tlV (f0 k))))) : Int) < 2) := of_decide_eq_false h2; omega
    have h8 : (lenV (hdV (tlV (tlV (f0 k))))) <= 8 := by have : ¬ (8 < ((lenV (hdV (tlV (tlV (f0 k))))) : Int)) := of_decide_eq_false h8; omega
    exact evEnter (c70_1 n0 f0 n2 f2 n4 f4 n6 f6 k h8 h2 _ 0 (by omega) (fun j h => by omega))
theorem ev70 (n0 : Nat) (f0 : FnV) (n2 : Nat) (f2 : FnV) (n4 : Nat) (f4 : FnV) (n6 : Nat) (f6 : FnV) (x8 : Int) (hp : 0 <= x8 /\ x8 < n0 /\ n0 <= 9223372036854775807 /\ SzOk n0 (elV tyR f0)) : evR (Ev (st70 n0 f0 n2 f2 n4 f4 n6 f6 x8)) (m70 n0 f0 n2 f2 n4 f4 n6 f6 x8) (.int .i64 (F70 n0 (elV tyR f0) x8)) := ev70_0 n0 f0 n2 f2 n4 f4 n6 f6 x8 hp
def C70 : PCon := mkC [.agg [.sl tyR, .sl tyT, .sl tyF, .sl tyC], .int .i64] (fun
  | [.agg [.sl n0 f0, .sl n2 f2, .sl n4 f4, .sl n6 f6], .int _ x8] => 0 <= x8 /\ x8 < n0 /\ n0 <= 9223372036854775807 /\ SzOk n0 f0
  | _ => False) fun
  | [.agg [.sl n0 f0, .sl n2 f2, .sl n4 f4, .sl n6 f6], .int _ x8] => .int .i64 (F70 n0 f0 x8)
  | _ => .any
theorem ok70 : (vP C70).Ok Tryz.prog 70 := mkC_ev (J := Nat × Nat) (un := u0) tabB11 hE hI Tryz.func70 (by kernel_rfl) (by kernel_rfl) (by kernel_rfl) rfl (fun w0 ds hp => run70 w0 _ _ _ _ _ _ _ _ _ (ev70 _ _ _ _ _ _ _ _ _ hp))
inductive S62 where
  | L0 (i_100 : Int)
def inv62 (n0 : Nat) (f0 : FnV) : S62 -> Env × List O × Option Ex
  | .L0 i_100 => ([(11, V.int i64 i_100), (10, V.int i64 (↑n0 : Int)), (9, V.sl n0 (elV tyR f0)), (5, V.int i64 0), (4, V.int i64 0), (0, V.sl n0 (elV tyR f0)), (1, V.fn 63 [] [])], [], none)
def id62 : S62 -> Nat × Nat
  | .L0 i_100 => (0, 0)
def rl62 (n0 : Nat) (f0 : FnV) : T (Leaf (Nat × Nat)) := runL (Nat × Nat) ctB11 u0 s62 [V.sl n0 (elV tyR f0), V.fn 63 [] []]
def lp62_0 (n0 : Nat) (f0 : FnV) (cx : Nat) : Lp (Nat × Nat) := lpT (atT (rl62 n0 f0) [])
def lp62 (n0 : Nat) (f0 : FnV) : Nat × Nat -> Lp (Nat × Nat)
  | (0, cx) => lp62_0 n0 f0 cx
  | (_, cx) => lp62_0 n0 f0 cx
def D62 (n0 : Nat) (f0 : FnV) : LD (Nat × Nat) S62 := ⟨id62, lp62 n0 f0, inv62 n0 f0⟩
def st62 (n0 : Nat) (f0 : FnV) : S62 -> RT S62
  | .L0 i_100 => .br (decide (i_100 < (↑n0 : Int))) (.ob (decide (0 <= i_100 /\ i_100 < (↑n0 : Int))) (.ob (decide (0 <= i_100 /\ i_100 <= (↑n0 : Int))) (.obp ((sv (hdV (f0 i_100.toNat))).size <= (9223372036854775807 : Nat)) (.obt (.br (F63 (i_100.toNat - 0) (fun i => elV tyR f0 (0 + i)) (sv (hdV (f0 i_100.toNat))) (iv (hdV (tlV (f0 i_100.toNat)))) (lenV (hdV (tlV (tlV (f0 i_100.toNat))))) (fun i => views [Ty.int i64, Ty.int i64] (atV (hdV (tlV (tlV (f0 i_100.toNat)))) i)) (iv (hdV (tlV (tlV (tlV (f0 i_100.toNat)))))) != 0) (.ret (V.tup [V.int i64 i_100, V.int i64 (F63 (i_100.toNat - 0) (fun i => elV tyR f0 (0 + i)) (sv (hdV (f0 i_100.toNat))) (iv (hdV (tlV (f0 i_100.toNat)))) (lenV (hdV (tlV (tlV (f0 i_100.toNat))))) (fun i => views [Ty.int i64, Ty.int i64] (atV (hdV (tlV (tlV (f0 i_100.toNat)))) i)) (iv (hdV (tlV (tlV (tlV (f0 i_100.toNat)))))))])) (.next [] (S62.L0 (i64.wrap (i_100 + 1))) [])))))) (.ret (V.tup [V.int i64 0, V.int i64 0]))
def m62 (n0 : Nat) (f0 : FnV) : RT S62 := .asm (true = true -> n0 <= 9223372036854775807) (.enter [] (S62.L0 (0)) [])
theorem f62m (n0 : Nat) (f0 : FnV) : fitT (D62 n0 f0) (rl62 n0 f0) (m62 n0 f0) = toF (D62 n0 f0) (m62 n0 f0) := by kernel_rfl
theorem q62m (n0 : Nat) (f0 : FnV) : sameT (rl62 n0 f0) (m62 n0 f0) = (rl62 n0 f0) := by kernel_rfl
theorem f62_0 (n0 : Nat) (f0 : FnV) (i_100 : Int) : fitT (D62 n0 f0) (rdS ctB11 u0 (D62 n0 f0) (S62.L0 i_100)) (st62 n0 f0 (S62.L0 i_100)) = toF (D62 n0 f0) (st62 n0 f0 (S62.L0 i_100)) := by kernel_rfl
theorem q62_0 (n0 : Nat) (f0 : FnV) (i_100 : Int) : sameT (rdS ctB11 u0 (D62 n0 f0) (S62.L0 i_100)) (st62 n0 f0 (S62.L0 i_100)) = rdS ctB11 u0 (D62 n0 f0) (S62.L0 i_100) := by kernel_rfl
theorem run62 (w0 : World) (n0 : Nat) (f0 : FnV) {r : V} (h : evR (Ev (st62 n0 f0)) (m62 n0 f0) r) : sat (LPof w0 (SV ctB11)) (runL (Nat × Nat) ctB11 u0 s62 [V.sl n0 (elV tyR f0), V.fn 63 [] []]) (topQ r) := run_ev (by kernel_rfl) (D62 n0 f0) (st62 n0 f0) _ (f62m n0 f0) (q62m n0 f0) (fun s => match s with | .L0 i_100 => f62_0 n0 f0 i_100) (fun s => match s with | .L0 i_100 => q62_0 n0 f0 i_100) h
def c62 (n0 : Nat) (f0 : FnV) (ii : Nat) : Int := (F63 (ii - 0) (fun i => elV tyR f0 (0 + i)) (sv (hdV (f0 ii))) (iv (hdV (tlV (f0 ii)))) (lenV (hdV (tlV (tlV (f0 ii))))) (fun i => views [Ty.int i64, Ty.int i64] (atV (hdV (tlV (tlV (f0 ii)))) i)) (iv (hdV (tlV (tlV (tlV (f0 ii)))))))
def F62_0 (n0 : Nat) (f0 : FnV) : Int := firstI n0 (c62 n0 f0)
def F62_1 (n0 : Nat) (f0 : FnV) : Int := firstE n0 (c62 n0 f0)
theorem ev62_0 (n0 : Nat) (f0 : FnV) (hp : SzOk n0 f0) : evR (Ev (st62 n0 f0)) (m62 n0 f0) (.tup [.int .i64 (F62_0 n0 f0), .int .i64 (F62_1 n0 f0)]) := evAsm1 fun hn => evEnter (first_ev (Q := fun i => (sv (hdV (f0 i))).size <= 9223372036854775807) (fun i x => .obp ((sv (hdV (f0 i))).size <= 9223372036854775807) (.obt x)) (fun i x r h hx => evObp h (evObt hx)) (fun _ _ => rfl) hn hp fun i => rfl)
theorem ev62 (n0 : Nat) (f0 : FnV) (hp : SzOk n0 (elV tyR f0)) : evR (Ev (st62 n0 f0)) (m62 n0 f0) (.tup [.int .i64 (F62_0 n0 (elV tyR f0)), .int .i64 (F62_1 n0 (elV tyR f0))]) := ev62_0 n0 f0 hp
def C62 : PCon := mkC [.sl tyR, .fn 63 [] []] (fun
  | [.sl n0 f0, .fn _ [] []] => SzOk n0 f0
  | _ => False) fun
  | [.sl n0 f0, .fn _ [] []] => .tup [.int .i64 (F62_0 n0 f0), .int .i64 (F62_1 n0 f0)]
  | _ => .any
theorem ok62 : (vP C62).Ok Tryz.prog 62 := mkC_ev (J := Nat × Nat) (un := u0) tabB11 hE hI Tryz.func62 (by kernel_rfl) (by kernel_rfl) (by kernel_rfl) rfl (fun w0 ds hp => run62 w0 _ _ (ev62 _ _ hp))
inductive S68 where
  | L0 (i_100 : Int)
def inv68 (n0 : Nat) (f0 : FnV) : S68 -> Env × List O × Option Ex
  | .L0 i_100 => ([(11, V.int i64 i_100), (10, V.int i64 (↑n0 : Int)), (9, V.sl n0 (elV tyC f0)), (5, V.int i64 0), (4, V.int i64 0), (0, V.sl n0 (elV tyC f0)), (1, V.fn 69 [] [])], [], none)
def id68 : S68 -> Nat × Nat
  | .L0 i_100 => (0, 0)
def rl68 (n0 : Nat) (f0 : FnV) : T (Leaf (Nat × Nat)) := runL (Nat × Nat) ctB11 u0 s68 [V.sl n0 (elV tyC f0), V.fn 69 [] []]
def lp68_0 (n0 : Nat) (f0 : FnV) (cx : Nat) : Lp (Nat × Nat) := lpT (atT (rl68 n0 f0) [])
def lp68 (n0 : Nat) (f0 : FnV) : Nat × Nat -> Lp (Nat × Nat)
  | (0, cx) => lp68_0 n0 f0 cx
  | (_, cx) => lp68_0 n0 f0 cx
def D68 (n0 : Nat) (f0 : FnV) : LD (Nat × Nat) S68 := ⟨id68, lp68 n0 f0, inv68 n0 f0⟩
def st68 (n0 : Nat) (f0 : FnV) : S68 -> RT S68
  | .L0 i_100 => .br (decide (i_100 < (↑n0 : Int))) (.ob (decide (0 <= i_100 /\ i_100 < (↑n0 : Int))) (.ob (decide (0 <= i_100 /\ i_100 <= (↑n0 : Int))) (.obp ((sv (hdV (f0 i_100.toNat))).size <= (9223372036854775807 : Nat)) (.obt (.br (F69_0 (i_100.toNat - 0) (fun i => elV tyC f0 (0 + i)) (sv (hdV (f0 i_100.toNat))) (iv (hdV (tlV (f0 i_100.toNat)))) (iv (hdV (tlV (tlV (f0 i_100.toNat))))) (iv (hdV (tlV (tlV (tlV (f0 i_100.toNat)))))) (iv (hdV (tlV (tlV (tlV (tlV (f0 i_100.toNat))))))) (iv (hdV (tlV (tlV (tlV (tlV (tlV (f0 i_100.toNat)))))))) != 0) (.ret (V.tup [V.int i64 i_100, V.int i64 (F69_0 (i_100.toNat - 0) (fun i => elV tyC f0 (0 + i)) (sv (hdV (f0 i_100.toNat))) (iv (hdV (tlV (f0 i_100.toNat)))) (iv (hdV (tlV (tlV (f0 i_100.toNat))))) (iv (hdV (tlV (tlV (tlV (f0 i_100.toNat)))))) (iv (hdV (tlV (tlV (tlV (tlV (f0 i_100.toNat))))))) (iv (hdV (tlV (tlV (tlV (tlV (tlV (f0 i_100.toNat)))))))))])) (.next [] (S68.L0 (i64.wrap (i_100 + 1))) [])))))) (.ret (V.tup [V.int i64 0, V.int i64 0]))
def m68 (n0 : Nat) (f0 : FnV) : RT S68 := .asm (true = true -> n0 <= 9223372036854775807) (.enter [] (S68.L0 (0)) [])
theorem f68m (n0 : Nat) (f0 : FnV) : fitT (D68 n0 f0) (rl68 n0 f0) (m68 n0 f0) = toF (D68 n0 f0) (m68 n0 f0) := by kernel_rfl
theorem q68m (n0 : Nat) (f0 : FnV) : sameT (rl68 n0 f0) (m68 n0 f0) = (rl68 n0 f0) := by kernel_rfl
theorem f68_0 (n0 : Nat) (f0 : FnV) (i_100 : Int) : fitT (D68 n0 f0) (rdS ctB11 u0 (D68 n0 f0) (S68.L0 i_100)) (st68 n0 f0 (S68.L0 i_100)) = toF (D68 n0 f0) (st68 n0 f0 (S68.L0 i_100)) := by kernel_rfl
theorem q68_0 (n0 : Nat) (f0 : FnV) (i_100 : Int) : sameT (rdS ctB11 u0 (D68 n0 f0) (S68.L0 i_100)) (st68 n0 f0 (S68.L0 i_100)) = rdS ctB11 u0 (D68 n0 f0) (S68.L0 i_100) := by kernel_rfl
theorem run68 (w0 : World) (n0 : Nat) (f0 : FnV) {r : V} (h : evR (Ev (st68 n0 f0)) (m68 n0 f0) r) : sat (LPof w0 (SV ctB11)) (runL (Nat × Nat) ctB11 u0 s68 [V.sl n0 (elV tyC f0), V.fn 69 [] []]) (topQ r) := run_ev (by kernel_rfl) (D68 n0 f0) (st68 n0 f0) _ (f68m n0 f0) (q68m n0 f0) (fun s => match s with | .L0 i_100 => f68_0 n0 f0 i_100) (fun s => match s with | .L0 i_100 => q68_0 n0 f0 i_100) h
def c68 (n0 : Nat) (f0 : FnV) (ii : Nat) : Int := (F69_0 (ii - 0) (fun i => elV tyC f0 (0 + i)) (sv (hdV (f0 ii))) (iv (hdV (tlV (f0 ii)))) (iv (hdV (tlV (tlV (f0 ii))))) (iv (hdV (tlV (tlV (tlV (f0 ii)))))) (iv (hdV (tlV (tlV (tlV (tlV (f0 ii))))))) (iv (hdV (tlV (tlV (tlV (tlV (tlV (f0 ii)))))))))
def F68_0 (n0 : Nat) (f0 : FnV) : Int := firstI n0 (c68 n0 f0)
def F68_1 (n0 : Nat) (f0 : FnV) : Int := firstE n0 (c68 n0 f0)
theorem ev68_0 (n0 : Nat) (f0 : FnV) (hp : SzOk n0 f0) : evR (Ev (st68 n0 f0)) (m68 n0 f0) (.tup [.int .i64 (F68_0 n0 f0), .int .i64 (F68_1 n0 f0)]) := evAsm1 fun hn => evEnter (first_ev (Q := fun i => (sv (hdV (f0 i))).size <= 9223372036854775807) (fun i x => .obp ((sv (hdV (f0 i))).size <= 9223372036854775807) (.obt x)) (fun i x r h hx => evObp h (evObt hx)) (fun _ _ => rfl) hn hp fun i => rfl)
theorem ev68 (n0 : Nat) (f0 : FnV) (hp : SzOk n0 (elV tyC f0)) : evR (Ev (st68 n0 f0)) (m68 n0 f0) (.tup [.int .i64 (F68_0 n0 (elV tyC f0)), .int .i64 (F68_1 n0 (elV tyC f0))]) := ev68_0 n0 f0 hp
def C68 : PCon := mkC [.sl tyC, .fn 69 [] []] (fun
  | [.sl n0 f0, .fn _ [] []] => SzOk n0 f0
  | _ => False) fun
  | [.sl n0 f0, .fn _ [] []] => .tup [.int .i64 (F68_0 n0 f0), .int .i64 (F68_1 n0 f0)]
  | _ => .any
theorem ok68 : (vP C68).Ok Tryz.prog 68 := mkC_ev (J := Nat × Nat) (un := u0) tabB11 hE hI Tryz.func68 (by kernel_rfl) (by kernel_rfl) (by kernel_rfl) rfl (fun w0 ds hp => run68 w0 _ _ (ev68 _ _ hp))
end
end Go.Dx
namespace Go.Dx
open Go.IntKind (i64 u64 u8)
open Go.Sx Go.Proofs
set_option maxRecDepth 100000
set_option linter.unusedVariables false
set_option linter.unusedSimpArgs false
noncomputable section
def ctB12 : CTab := (70, .con C70) :: (62, .con C62) :: (68, .con C68) :: ctB11
theorem tabB12 : TabOk Tryz.prog eqs its ctB12 := .con ok70 (.con ok62 (.con ok68 (tabB11)))
inductive S24 where
  | L0 (i_100 : Int)
  | L1 (i_200 i_201 : Int)
  | L2 (i_300 i_301 i_302 : Int)
  | L3 (i_400 i_401 i_402 i_403 : Int)
def inv24 (n0 : Nat) (f0 : FnV) (n2 : Nat) (f2 : FnV) (n4 : Nat) (f4 : FnV) (n6 : Nat) (f6 : FnV) : S24 -> Env × List O × Option Ex
  | .L0 i_100 => ([(5, V.int i64 i_100), (34, V.kb false), (29, V.bool (bif bif decide (8 < (↑n0 : Int)) then true else decide (12 < (↑n2 : Int)) then true else decide (8 < (↑n4 : Int)))), (28, V.bool (bif bif decide (8 < (↑n0 : Int)) then true else decide (12 < (↑n2 : Int)) then true else decide (8 < (↑n4 : Int)))), (23, V.bool (bif decide (8 < (↑n0 : Int)) then true else decide (12 < (↑n2 : Int)))), (22, V.bool (bif decide (8 < (↑n0 : Int)) then true else decide (12 < (↑n2 : Int)))), (17, V.bool (decide (8 < (↑n0 : Int)))), (16, V.bool (decide (8 < (↑n0 : Int)))), (15, V.int i64 (↑n0 : Int)), (14, V.sl n0 (elV tyR f0)), (13, V.pl 0 0), (4, V.int i64 0), (3, V.int i64 0), (2, V.int i64 0), (1, V.pl 0 0), (0, scV n0 f0 n2 f2 n4 f4 n6 f6)], [O.cells [V.sl n0 (elV tyR f0), V.sl n2 (elV tyT f2), V.sl n4 (elV tyF f4), V.sl n6 (elV tyC f6)] 27], none)
  | .L1 i_200 i_201 => ([(7, V.int i64 i_200), (39, V.kb false), (38, V.int i64 (↑n0 : Int)), (37, V.sl n0 (elV tyR f0)), (36, V.pl 0 0), (35, V.int i64 i_201), (5, V.int i64 i_201), (34, V.kb false), (29, V.bool (bif bif decide (8 < (↑n0 : Int)) then true else decide (12 < (↑n2 : Int)) then true else decide (8 < (↑n4 : Int)))), (28, V.bool (bif bif decide (8 < (↑n0 : Int)) then true else decide (12 < (↑n2 : Int)) then true else decide (8 < (↑n4 : Int)))), (23, V.bool (bif decide (8 < (↑n0 : Int)) then true else decide (12 < (↑n2 : Int)))), (22, V.bool (bif decide (8 < (↑n0 : Int)) then true else decide (12 < (↑n2 : Int)))), (17, V.bool (decide (8 < (↑n0 : Int)))), (16, V.bool (decide (8 < (↑n0 : Int)))), (15, V.int i64 (↑n0 : Int)), (14, V.sl n0 (elV tyR f0)), (13, V.pl 0 0), (4, V.int i64 0), (3, V.int i64 0), (2, V.int i64 0), (1, V.pl 0 0), (0, scV n0 f0 n2 f2 n4 f4 n6 f6)], [O.cells [V.sl n0 (elV tyR f0), V.sl n2 (elV tyT f2), V.sl n4 (elV tyF f4), V.sl n6 (elV tyC f6)] 27], none)
  | .L2 i_300 i_301 i_302 => ([(9, V.int i64 i_300), (53, V.kb false), (52, V.int i64 (↑n2 : Int)), (51, V.sl n2 (elV tyT f2)), (50, V.pl 0 1), (49, V.int i64 i_301), (7, V.int i64 i_301), (39, V.kb false), (38, V.int i64 (↑n0 : Int)), (37, V.sl n0 (elV tyR f0)), (36, V.pl 0 0), (35, V.int i64 i_302), (5, V.int i64 i_302), (34, V.kb false), (29, V.bool (bif bif decide (8 < (↑n0 : Int)) then true else decide (12 < (↑n2 : Int)) then true else decide (8 < (↑n4 : Int)))), (28, V.bool (bif bif decide (8 < (↑n0 : Int)) then true else decide (12 < (↑n2 : Int)) then true else decide (8 < (↑n4 : Int)))), (23, V.bool (bif decide (8 < (↑n0 : Int)) then true else decide (12 < (↑n2 : Int)))), (22, V.bool (bif decide (8 < (↑n0 : Int)) then true else decide (12 < (↑n2 : Int)))), (17, V.bool (decide (8 < (↑n0 : Int)))), (16, V.bool (decide (8 < (↑n0 : Int)))), (15, V.int i64 (↑n0 : Int)), (14, V.sl n0 (elV tyR f0)), (13, V.pl 0 0), (4, V.int i64 0), (3, V.int i64 0), (2, V.int i64 0), (1, V.pl 0 0), (0, scV n0 f0 n2 f2 n4 f4 n6 f6)], [O.cells [V.sl n0 (elV tyR f0), V.sl n2 (elV tyT f2), V.sl n4 (elV tyF f4), V.sl n6 (elV tyC f6)] 27], none)
  | .L3 i_400 i_401 i_402 i_403 => ([(11, V.int i64 i_400), (96, V.kb false), (95, V.int i64 (↑n4 : Int)), (94, V.sl n4 (elV tyF f4)), (93, V.pl 0 2), (92, V.int i64 i_401), (9, V.int i64 i_401), (53, V.kb false), (52, V.int i64 (↑n2 : Int)), (51, V.sl n2 (elV tyT f2)), (50, V.pl 0 1), (49, V.int i64 i_402), (7, V.int i64 i_402), (39, V.kb false), (38, V.int i64 (↑n0 : Int)), (37, V.sl n0 (elV tyR f0)), (36, V.pl 0 0), (35, V.int i64 i_403), (5, V.int i64 i_403), (34, V.kb false), (29, V.bool (bif bif decide (8 < (↑n0 : Int)) then true else decide (12 < (↑n2 : Int)) then true else decide (8 < (↑n4 : Int)))), (28, V.bool (bif bif decide (8 < (↑n0 : Int)) then true else decide (12 < (↑n2 : Int)) then true else decide (8 < (↑n4 : Int)))), (23, V.bool (bif decide (8 < (↑n0 : Int)) then true else decide (12 < (↑n2 : Int)))), (22, V.bool (bif decide (8 < (↑n0 : Int)) then true else decide (12 < (↑n2 : Int)))), (17, V.bool (decide (8 < (↑n0 : Int)))), (16, V.bool (decide (8 < (↑n0 : Int)))), (15, V.int i64 (↑n0 : Int)), (14, V.sl n0 (elV tyR f0)), (13, V.pl 0 0), (4, V.int i64 0), (3, V.int i64 0), (2, V.int i64 0), (1, V.pl 0 0), (0, scV n0 f0 n2 f2 n4 f4 n6 f6)], [O.cells [V.sl n0 (elV tyR f0), V.sl n2 (elV tyT f2), V.sl n4 (elV tyF f4), V.sl n6 (elV tyC f6)] 27], none)
def id24 : S24 -> Nat × Nat
  | .L0 i_100 => (0, 0)
  | .L1 i_200 i_201 => (1, 0)
  | .L2 i_300 i_301 i_302 => (2, 0)
  | .L3 i_400 i_401 i_402 i_403 => (3, 0)
def rl24 (n0 : Nat) (f0 : FnV) (n2 : Nat) (f2 : FnV) (n4 : Nat) (f4 : FnV) (n6 : Nat) (f6 : FnV) : T (Leaf (Nat × Nat)) := runL (Nat × Nat) ctB12 u0 s24 [scV n0 f0 n2 f2 n4 f4 n6 f6]
def lp24_0 (n0 : Nat) (f0 : FnV) (n2 : Nat) (f2 : FnV) (n4 : Nat) (f4 : FnV) (n6 : Nat) (f6 : FnV) (cx : Nat) : Lp (Nat × Nat) := lpT (atT (rl24 n0 f0 n2 f2 n4 f4 n6 f6) [false])
def lp24_1 (n0 : Nat) (f0 : FnV) (n2 : Nat) (f2 : FnV) (n4 : Nat) (f4 : FnV) (n6 : Nat) (f6 : FnV) (cx : Nat) : Lp (Nat × Nat) := lpT (atT (rdT ctB12 u0 (0, cx) (lp24_0 n0 f0 n2 f2 n4 f4 n6 f6 cx) (inv24 n0 f0 n2 f2 n4 f4 n6 f6 (.L0 (0 : Int))).1 (inv24 n0 f0 n2 f2 n4 f4 n6 f6 (.L0 (0 : Int))).2.1 (inv24 n0 f0 n2 f2 n4 f4 n6 f6 (.L0 (0 : Int))).2.2) [false])
def lp24_2 (n0 : Nat) (f0 : FnV) (n2 : Nat) (f2 : FnV) (n4 : Nat) (f4 : FnV) (n6 : Nat) (f6 : FnV) (cx : Nat) : Lp (Nat × Nat) := lpT (atT (rdT ctB12 u0 (1, cx) (lp24_1 n0 f0 n2 f2 n4 f4 n6 f6 cx) (inv24 n0 f0 n2 f2 n4 f4 n6 f6 (.L1 (0 : Int) (0 : Int))).1 (inv24 n0 f0 n2 f2 n4 f4 n6 f6 (.L1 (0 : Int) (0 : Int))).2.1 (inv24 n0 f0 n2 f2 n4 f4 n6 f6 (.L1 (0 : Int) (0 : Int))).2.2) [false])
def lp24_3 (n0 : Nat) (f0 : FnV) (n2 : Nat) (f2 : FnV) (n4 : Nat) (f4 : FnV) (n6 : Nat) (f6 : FnV) (cx : Nat) : Lp (Nat × Nat) := lpT (atT (rdT ctB12 u0 (2, cx) (lp24_2 n0 f0 n2 f2 n4 f4 n6 f6 cx) (inv24 n0 f0 n2 f2 n4 f4 n6 f6 (.L2 (0 : Int) (0 : Int) (0 : Int))).1 (inv24 n0 f0 n2 f2 n4 f4 n6 f6 (.L2 (0 : Int) (0 : Int) (0 : Int))).2.1 (inv24 n0 f0 n2 f2 n4 f4 n6 f6 (.L2 (0 : Int) (0 : Int) (0 : Int))).2.2) [false])
def lp24 (n0 : Nat) (f0 : FnV) (n2 : Nat) (f2 : FnV) (n4 : Nat) (f4 : FnV) (n6 : Nat) (f6 : FnV) : Nat × Nat -> Lp (Nat × Nat)
  | (0, cx) => lp24_0 n0 f0 n2 f2 n4 f4 n6 f6 cx
  | (1, cx) => lp24_1 n0 f0 n2 f2 n4 f4 n6 f6 cx
  | (2, cx) => lp24_2 n0 f0 n2 f2 n4 f4 n6 f6 cx
  | (3, cx) => lp24_3 n0 f0 n2 f2 n4 f4 n6 f6 cx
  | (_, cx) => lp24_0 n0 f0 n2 f2 n4 f4 n6 f6 cx
def D24 (n0 : Nat) (f0 : FnV) (n2 : Nat) (f2 : FnV) (n4 : Nat) (f4 : FnV) (n6 : Nat) (f6 : FnV) : LD (Nat × Nat) S24 := ⟨id24, lp24 n0 f0 n2 f2 n4 f4 n6 f6, inv24 n0 f0 n2 f2 n4 f4 n6 f6⟩
def st24 (n0 : Nat) (f0 : FnV) (n2 : Nat) (f2 : FnV) (n4 : Nat) (f4 : FnV) (n6 : Nat) (f6 : FnV) : S24 -> RT S24
  | .L0 i_100 => .asm (true = true -> n0 <= 9223372036854775807) (.br (decide (i_100 < (↑n0 : Int))) (.obp ((0 : Int) <= i_100 /\ i_100 < (↑n0 : Int) /\ n0 <= (9223372036854775807 : Nat) /\ ∀ (i : Nat), i < n0 -> (sv (hdV (f0 i))).size <= (9223372036854775807 : Nat)) (.obt (.br (F70 n0 (elV tyR f0) i_100 != 0) (.ret (V.tup [V.int i64 1, V.int i64 i_100, V.int i64 (F70 n0 (elV tyR f0) i_100)])) (.next [some (some 0)] (S24.L0 (i64.wrap (i_100 + 1))) [])))) (.enter [some (some 0)] (S24.L1 (0) (i_100)) []))
  | .L1 i_200 i_201 => .asm (true = true -> n2 <= 9223372036854775807) (.br (decide (i_200 < (↑n2 : Int))) (.ob (decide (0 <= i_200 /\ i_200 < (↑n2 : Int))) (.obc (.obt (.obi (.br (!!F51 2 (elV [Ty.int i64] (secF [V.int i64 (iv (hdV (f2 i_200.toNat))), V.int i64 (iv (hdV (tlV (f2 i_200.toNat))))] 0 ((1 + 1 - 0) / 2)))) (.ob (!!F51 2 (elV [Ty.int i64] (secF [V.int i64 (iv (hdV (f2 i_200.toNat))), V.int i64 (iv (hdV (tlV (f2 i_200.toNat))))] 0 ((1 + 1 - 0) / 2)))) (.obc (.obt (.obi (.obi (.obi (.obi (.obi (.obi (.obi (.obi (.obi (.obi (.obi (.br (bif bif bif !F71_0 (iv (hdV (tlV (tlV (f2 i_200.toNat))))) 1 20000 then true else decide (iv (hdV (tlV (tlV (tlV (f2 i_200.toNat))))) < 0) then true else decide (iv (hdV (tlV (tlV (tlV (tlV (f2 i_200.toNat)))))) <= iv (hdV (tlV (tlV (tlV (f2 i_200.toNat)))))) then true else decide (1000 < iv (hdV (tlV (tlV (tlV (tlV (f2 i_200.toNat)))))))) (.ret (V.tup [V.int i64 2, V.int i64 i_200, V.int i64 7])) (.next [some (some 0)] (S24.L1 (i64.wrap (i_200 + 1)) (i_201)) [])))))))))))))))) (.ret (V.tup [V.int i64 2, V.int i64 i_200, V.int i64 7]))))))) (.enter [some (some 0)] (S24.L2 (0) (i_200) (i_201)) []))
  | .L2 i_300 i_301 i_302 => .asm (true = true -> n4 <= 9223372036854775807) (.br (decide (i_300 < (↑n4 : Int))) (.ob (decide (0 <= i_300 /\ i_300 < (↑n4 : Int))) (.obc (.obt (.br ((F72 (iv (hdV (f4 i_300.toNat))) (iv (hdV (tlV (f4 i_300.toNat)))) (iv (hdV (tlV (tlV (f4 i_300.toNat))))) (iv (hdV (tlV (tlV (tlV (f4 i_300.toNat)))))) (lenV (hdV (tlV (tlV (tlV (tlV (f4 i_300.toNat))))))) fun i => views [Ty.int i64, Ty.int i64, Ty.int i64, Ty.int i64] (atV (hdV (tlV (tlV (tlV (tlV (f4 i_300.toNat)))))) i)) != 0) (.ret (V.tup [V.int i64 3, V.int i64 i_300, V.int i64 (F72 (iv (hdV (f4 i_300.toNat))) (iv (hdV (tlV (f4 i_300.toNat)))) (iv (hdV (tlV (tlV (f4 i_300.toNat))))) (iv (hdV (tlV (tlV (tlV (f4 i_300.toNat)))))) (lenV (hdV (tlV (tlV (tlV (tlV (f4 i_300.toNat))))))) fun i => views [Ty.int i64, Ty.int i64, Ty.int i64, Ty.int i64] (atV (hdV (tlV (tlV (tlV (tlV (f4 i_300.toNat)))))) i))])) (.next [some (some 0)] (S24.L2 (i64.wrap (i_300 + 1)) (i_301) (i_302)) []))))) (.enter [some (some 0)] (S24.L3 (0) (i_300) (i_301) (i_302)) []))
  | .L3 i_400 i_401 i_402 i_403 => .asm (true = true -> n6 <= 9223372036854775807) (.br (decide (i_400 < (↑n6 : Int))) (.obp ((0 : Int) <= i_400 /\ i_400 < (↑n6 : Int) /\ n6 <= (9223372036854775807 : Nat) /\ ∀ (i : Nat), i < n6 -> (sv (hdV (f6 i))).size <= (9223372036854775807 : Nat)) (.obt (.br (F73 n6 (elV tyC f6) i_400 != 0) (.ret (V.tup [V.int i64 4, V.int i64 i_400, V.int i64 (F73 n6 (elV tyC f6) i_400)])) (.next [some (some 0)] (S24.L3 (i64.wrap (i_400 + 1)) (i_401) (i_402) (i_403)) [])))) (.ret (V.tup [V.int i64 0, V.int i64 0, V.int i64 0])))
def m24 (n0 : Nat) (f0 : FnV) (n2 : Nat) (f2 : FnV) (n4 : Nat) (f4 : FnV) (n6 : Nat) (f6 : FnV) : RT S24 := .asm (true = true -> n0 <= 9223372036854775807) (.obi (.obi (.asm ((!decide (8 < (↑n0 : Int))) = true -> n2 <= 9223372036854775807) (.obi (.obi (.obi (.obi (.asm ((!bif decide (8 < (↑n0 : Int)) then true else decide (12 < (↑n2 : Int))) = true -> n4 <= 9223372036854775807) (.obi (.obi (.obi (.obi (.asm ((!bif bif decide (8 < (↑n0 : Int)) then true else decide (12 < (↑n2 : Int)) then true else decide (8 < (↑n4 : Int))) = true -> n6 <= 9223372036854775807) (.obi (.obi (.br (bif bif bif decide (8 < (↑n0 : Int)) then true else decide (12 < (↑n2 : Int)) then true else decide (8 < (↑n4 : Int)) then true else decide (24 < (↑n6 : Int))) (.ret (V.tup [V.int i64 0, V.int i64 0, V.int i64 3])) (.enter [some (some 0)] (S24.L0 (0)) [])))))))))))))))))
theorem f24m (n0 : Nat) (f0 : FnV) (n2 : Nat) (f2 : FnV) (n4 : Nat) (f4 : FnV) (n6 : Nat) (f6 : FnV) : fitT (D24 n0 f0 n2 f2 n4 f4 n6 f6) (rl24 n0 f0 n2 f2 n4 f4 n6 f6) (m24 n0 f0 n2 f2 n4 f4 n6 f6) = toF (D24 n0 f0 n2 f2 n4 f4 n6 f6) (m24 n0 f0 n2 f2 n4 f4 n6 f6) := by kernel_rfl
theorem q24m (n0 : Nat) (f0 : FnV) (n2 : Nat) (f2 : FnV) (n4 : Nat) (f4 : FnV) (n6 : Nat) (f6 : FnV) : sameT (rl24 n0 f0 n2 f2 n4 f4 n6 f6) (m24 n0 f0 n2 f2 n4 f4 n6 f6) = (rl24 n0 f0 n2 f2 n4 f4 n6 f6) := by kernel_rfl
theorem f24_0 (n0 : Nat) (f0 : FnV) (n2 : Nat) (f2 : FnV) (n4 : Nat) (f4 : FnV) (n6 : Nat) (f6 : FnV) (i_100 : Int) : fitT (D24 n0 f0 n2 f2 n4 f4 n6 f6) (rdS ctB12 u0 (D24 n0 f0 n2 f2 n4 f4 n6 f6) (S24.L0 i_100)) (st24 n0 f0 n2 f2 n4 f4 n6 f6 (S24.L0 i_100)) = toF (D24 n0 f0 n2 f2 n4 f4 n6 f6) (st24 n0 f0 n2 f2 n4 f4 n6 f6 (S24.L0 i_100)) := by kernel_rfl
theorem q24_0 (n0 : Nat) (f0 : FnV) (n2 : Nat) (f2 : FnV) (n4 : Nat) (f4 : FnV) (n6 : Nat) (f6 : FnV) (i_100 : Int) : sameT (rdS ctB12 u0 (D24 n0 f0 n2 f2 n4 f4 n6 f6) (S24.L0 i_100)) (st24 n0 f0 n2 f2 n4 f4 n6 f6 (S24.L0 i_100)) = rdS ctB12 u0 (D24 n0 f0 n2 f2 n4 f4 n6 f6) (S24.L0 i_100) := by kernel_rfl
theorem f24_1 (n0 : Nat) (f0 : FnV) (n2 : Nat) (f2 : FnV) (n4 : Nat) (f4 : FnV) (n6 : Nat) (f6 : FnV) (i_200 i_201 : Int) : fitT (D24 n0 f0 n2 f2 n4 f4 n6 f6) (rdS ctB12 u0 (D24 n0 f0 n2 f2 n4 f4 n6 f6) (S24.L1 i_200 i_201)) (st24 n0 f0 n2 f2 n4 f4 n6 f6 (S24.L1 i_200 i_201)) = toF (D24 n0 f0 n2 f2 n4 f4 n6 f6) (st24 n0 f0 n2 f2 n4 f4 n6 f6 (S24.L1 i_200 i_201)) := by kernel_rfl
theorem q24_1 (n0 : Nat) (f0 : FnV) (n2 : Nat) (f2 : FnV) (n4 : Nat) (f4 : FnV) (n6 : Nat) (f6 : FnV) (i_200 i_201 : Int) : sameT (rdS ctB12 u0 (D24 n0 f0 n2 f2 n4 f4 n6 f6) (S24.L1 i_200 i_201)) (st24 n0 f0 n2 f2 n4 f4 n6 f6 (S24.L1 i_200 i_201)) = rdS ctB12 u0 (D24 n0 f0 n2 f2 n4 f4 n6 f6) (S24.L1 i_200 i_201) := by kernel_rfl
theorem f24_2 (n0 : Nat) (f0 : FnV) (n2 : Nat) (f2 : FnV) (n4 : Nat) (f4 : FnV) (n6 : Nat) (f6 : FnV) (i_300 i_301 i_302 : Int) : fitT (D24 n0 f0 n2 f2 n4 f4 n6 f6) (rdS ctB12 u0 (D24 n0 f0 n2 f2 n4 f4 n6 f6) (S24.L2 i_300 i_301 i_302)) (st24 n0 f0 n2 f2 n4 f4 n6 f6 (S24.L2 i_300 i_301 i_302)) = toF (D24 n0 f0 n2 f2 n4 f4 n6 f6) (st24 n0 f0 n2 f2 n4 f4 n6 f6 (S24.L2 i_300 i_301 i_302)) := by kernel_rfl
theorem q24_2 (n0 : Nat) (f0 : FnV) (n2 : Nat) (f2 : FnV) (n4 : Nat) (f4 : FnV) (n6 : Nat) (f6 : FnV) (i_300 i_301 i_302 : Int) : sameT (rdS ctB12 u0 (D24 n0 f0 n2 f2 n4 f4 n6 f6) (S24.L2 i_300 i_301 i_302)) (st24 n0 f0 n2 f2 n4 f4 n6 f6 (S24.L2 i_300 i_301 i_302)) = rdS ctB12 u0 (D24 n0 f0 n2 f2 n4 f4 n6 f6) (S24.L2 i_300 i_301 i_302) := by kernel_rfl
theorem f24_3 (n0 : Nat) (f0 : FnV) (n2 : Nat) (f2 : FnV) (n4 : Nat) (f4 : FnV) (n6 : Nat) (f6 : FnV) (i_400 i_401 i_402 i_403 : Int) : fitT (D24 n0 f0 n2 f2 n4 f4 n6 f6) (rdS ctB12 u0 (D24 n0 f0 n2 f2 n4 f4 n6 f6) (S24.L3 i_400 i_401 i_402 i_403)) (st24 n0 f0 n2 f2 n4 f4 n6 f6 (S24.L3 i_400 i_401 i_402 i_403)) = toF (D24 n0 f0 n2 f2 n4 f4 n6 f6) (st24 n0 f0 n2 f2 n4 f4 n6 f6 (S24.L3 i_400 i_401 i_402 i_403)) := by kernel_rfl
theorem q24_3 (n0 : Nat) (f0 : FnV) (n2 : Nat) (f2 : FnV) (n4 : Nat) (f4 : FnV) (n6 : Nat) (f6 : FnV) (i_400 i_401 i_402 i_403 : Int) : sameT (rdS ctB12 u0 (D24 n0 f0 n2 f2 n4 f4 n6 f6) (S24.L3 i_400 i_401 i_402 i_403)) (st24 n0 f0 n2 f2 n4 f4 n6 f6 (S24.L3 i_400 i_401 i_402 i_403)) = rdS ctB12 u0 (D24 n0 f0 n2 f2 n4 f4 n6 f6) (S24.L3 i_400 i_401 i_402 i_403) := by kernel_rfl
theorem run24 (w0 : World) (n0 : Nat) (f0 : FnV) (n2 : Nat) (f2 : FnV) (n4 : Nat) (f4 : FnV) (n6 : Nat) (f6 : FnV) {r : V} (h : evR (Ev (st24 n0 f0 n2 f2 n4 f4 n6 f6)) (m24 n0 f0 n2 f2 n4 f4 n6 f6) r) : sat (LPof w0 (SV ctB12)) (runL (Nat × Nat) ctB12 u0 s24 [scV n0 f0 n2 f2 n4 f4 n6 f6]) (topQ r) := run_ev (by kernel_rfl) (D24 n0 f0 n2 f2 n4 f4 n6 f6) (st24 n0 f0 n2 f2 n4 f4 n6 f6) _ (f24m n0 f0 n2 f2 n4 f4 n6 f6) (q24m n0 f0 n2 f2 n4 f4 n6 f6) (fun s => match s with | .L0 i_100 => f24_0 n0 f0 n2 f2 n4 f4 n6 f6 i_100 | .L1 i_200 i_201 => f24_1 n0 f0 n2 f2 n4 f4 n6 f6 i_200 i_201 | .L2 i_300 i_301 i_302 => f24_2 n0 f0 n2 f2 n4 f4 n6 f6 i_300 i_301 i_302 | .L3 i_400 i_401 i_402 i_403 => f24_3 n0 f0 n2 f2 n4 f4 n6 f6 i_400 i_401 i_402 i_403) (fun s => match s with | .L0 i_100 => q24_0 n0 f0 n2 f2 n4 f4 n6 f6 i_100 | .L1 i_200 i_201 => q24_1 n0 f0 n2 f2 n4 f4 n6 f6 i_200 i_201 | .L2 i_300 i_301 i_302 => q24_2 n0 f0 n2 f2 n4 f4 n6 f6 i_300 i_301 i_302 | .L3 i_400 i_401 i_402 i_403 => q24_3 n0 f0 n2 f2 n4 f4 n6 f6 i_400 i_401 i_402 i_403) h
def tri (t : Int × Int × Int) : V := .tup [.int .i64 t.1, .int .i64 t.2.1, .int .i64 t.2.2]
def treeE (x y a z w : Int) : Int := bif !!ptOk x y then (bif (bif bif bif !F71_0 a 1 20000 then true else decide (z < 0) then true else decide (w <= z) then true else decide (1000 < w)) then 7 else 0) else 7
def r24 (n : Nat) (c : Nat -> Int) (k : Int) (z : Int × Int × Int) : Int × Int × Int := bif firstE n c != 0 then (k, firstI n c, firstE n c) else z
def cR (n0 : Nat) (f0 : FnV) (i : Nat) : Int := F70 n0 (elV tyR f0) (i : Int)
def cT (f2 : FnV) (i : Nat) : Int := treeE (iv (hdV (f2 i))) (iv (hdV (tlV (f2 i)))) (iv (hdV (tlV (tlV (f2 i))))) (iv (hdV (tlV (tlV (tlV (f2 i)))))) (iv (hdV (tlV (tlV (tlV (tlV (f2 i)))))))
def cF (f4 : FnV) (i : Nat) : Int := F72 (iv (hdV (f4 i))) (iv (hdV (tlV (f4 i)))) (iv (hdV (tlV (tlV (f4 i))))) (iv (hdV (tlV (tlV (tlV (f4 i)))))) (lenV (hdV (tlV (tlV (tlV (tlV (f4 i))))))) fun j => views [Ty.int i64, Ty.int i64, Ty.int i64, Ty.int i64] (atV (hdV (tlV (tlV (tlV (tlV (f4 i)))))) j)
def cC (n6 : Nat) (f6 : FnV) (i : Nat) : Int := F73 n6 (elV tyC f6) (i : Int)
def z3 (n6 : Nat) (f6 : FnV) : Int × Int × Int := r24 n6 (cC n6 f6) 4 (0, 0, 0)
def z2 (n4 : Nat) (f4 : FnV) (n6 : Nat) (f6 : FnV) : Int × Int × Int := r24 n4 (cF f4) 3 (z3 n6 f6)
def z1 (n2 : Nat) (f2 : FnV) (n4 : Nat) (f4 : FnV) (n6 : Nat) (f6 : FnV) : Int × Int × Int := r24 n2 (cT f2) 2 (z2 n4 f4 n6 f6)
def long (n0 : Nat) (f0 : FnV) (n2 : Nat) (f2 : FnV) (n4 : Nat) (f4 : FnV) (n6 : Nat) (f6 : FnV) : Bool := bif bif bif decide (8 < (n0 : Int)) then true else decide (12 < (n2 : Int)) then true else decide (8 < (n4 : Int)) then true else decide (24 < (n6 : Int))
def F24 (n0 : Nat) (f0 : FnV) (n2 : Nat) (f2 : FnV) (n4 : Nat) (f4 : FnV) (n6 : Nat) (f6 : FnV) : Int × Int × Int := bif long n0 f0 n2 f2 n4 f4 n6 f6 then (0, 0, 3) else r24 n0 (cR n0 f0) 1 (z1 n2 f2 n4 f4 n6 f6)
def F24_0 (n0 : Nat) (f0 : FnV) (n2 : Nat) (f2 : FnV) (n4 : Nat) (f4 : FnV) (n6 : Nat) (f6 : FnV) : Int := (F24 n0 f0 n2 f2 n4 f4 n6 f6).1
def F24_1 (n0 : Nat) (f0 : FnV) (n2 : Nat) (f2 : FnV) (n4 : Nat) (f4 : FnV) (n6 : Nat) (f6 : FnV) : Int := (F24 n0 f0 n2 f2 n4 f4 n6 f6).2.1
def F24_2 (n0 : Nat) (f0 : FnV) (n2 : Nat) (f2 : FnV) (n4 : Nat) (f4 : FnV) (n6 : Nat) (f6 : FnV) : Int := (F24 n0 f0 n2 f2 n4 f4 n6 f6).2.2
theorem r24_hit {n : Nat} {c : Nat -> Int} {i : Nat} (k : Int) (z : Int × Int × Int) (hi : i < n) (hc : (c i != 0) = true) (h : ∀ j, j < i -> (c j != 0) = false) : r24 n c k z = (k, (i : Int), c i) := by
  unfold r24
  obtain ⟨e1, e2⟩ := first_some hi hc h
  rw [e1, e2, hc]; rfl
theorem r24_end {n : Nat} {c : Nat -> Int} (k : Int) (z : Int × Int × Int) (h : ∀ j, j < n -> (c j != 0) = false) : r24 n c k z = z := by
  unfold r24
  obtain ⟨e1, e2⟩ := first_none h
  rw [e1, e2]; rfl
theorem c24_3 (n0 : Nat) (f0 : FnV) (n2 : Nat) (f2 : FnV) (n4 : Nat) (f4 : FnV) (n6 : Nat) (f6 : FnV) (hs : SzOk n6 f6) (i1 i2 i3 : Int) : Ev (st24 n0 f0 n2 f2 n4 f4 n6 f6) (.L3 0 i1 i2 i3) (tri (z3 n6 f6)) := by
  by_cases hn : n6 <= 9223372036854775807
  · refine scan (n := n6) hn (fun i => cC n6 f6 i != 0) (P := fun i => Ev (st24 n0 f0 n2 f2 n4 f4 n6 f6) (.L3 i i1 i2 i3) _) (fun i hlt hj next => Ev.of rfl (evAsm fun _ => evBrLt hlt (evObp ⟨by omega, by omega, hn, hs⟩ (evObt (evBr (fun hb => evRet ?_) (fun hb => evNext (next hb))))))) (fun hj => Ev.of rfl (evAsm fun _ => evBrGe (evRet ?_)))
    · unfold z3; rw [r24_hit 4 _ hlt hb hj]; rfl
    · unfold z3; rw [r24_end 4 _ hj]; rfl
  · exact Ev.of rfl (evAsm fun h => absurd (h rfl) hn)
theorem c24_2 (n0 : Nat) (f0 : FnV) (n2 : Nat) (f2 : FnV) (n4 : Nat) (f4 : FnV) (n6 : Nat) (f6 : FnV) (hs : SzOk n6 f6) (i1 i2 : Int) : Ev (st24 n0 f0 n2 f2 n4 f4 n6 f6) (.L2 0 i1 i2) (tri (z2 n4 f4 n6 f6)) := by
  by_cases hn : n4 <= 9223372036854775807
  · refine scan (n := n4) hn (fun i => cF f4 i != 0) (P := fun i => Ev (st24 n0 f0 n2 f2 n4 f4 n6 f6) (.L2 i i1 i2) _) (fun i hlt hj next => Ev.of rfl (evAsm fun _ => evBrLt hlt (evObLt hlt (evObc (evObt (evBr (fun hb => evRet ?_) (fun hb => evNext (next hb)))))))) (fun hj => Ev.of rfl (evAsm fun _ => evBrGe (evEnter ?_)))
    · unfold z2; rw [r24_hit 3 _ hlt hb hj]; rfl
    · unfold z2; rw [r24_end 3 _ hj]; exact c24_3 n0 f0 n2 f2 n4 f4 n6 f6 hs _ _ _
  · exact Ev.of rfl (evAsm fun h => absurd (h rfl) hn)
theorem c24_1 (n0 : Nat) (f0 : FnV) (n2 : Nat) (f2 : FnV) (n4 : Nat) (f4 : FnV) (n6 : Nat) (f6 : FnV) (hs : SzOk n6 f6) (i1 : Int) : Ev (st24 n0 f0 n2 f2 n4 f4 n6 f6) (.L1 0 i1) (tri (z1 n2 f2 n4 f4 n6 f6)) := by
  by_cases hn : n2 <= 9223372036854775807
  · refine scan (n := n2) hn (fun i => cT f2 i != 0) (P := fun i => Ev (st24 n0 f0 n2 f2 n4 f4 n6 f6) (.L1 i i1) _) (fun i hlt hj next => Ev.of rfl (evAsm fun _ => evBrLt hlt (evObLt hlt (evObc (evObt (evObi (evBr (fun h => evOb h (evObc (evObt ?_))) (fun h => evRet ?_)))))))) (fun hj => Ev.of rfl (evAsm fun _ => evBrGe (evEnter ?_)))
    · repeat refine evObi ?_
      refine evBr (fun hb => evRet ?_) (fun hb => evNext (next ?_))
      · have e : cT f2 i = 7 := by
          unfold cT treeE
          rw [show (!!ptOk (iv (hdV (f2 i))) (iv (hdV (tlV (f2 i))))) = true from h]
          exact (congrArg (fun c => bif c then (7 : Int) else 0) hb).trans rfl
        unfold z1; rw [r24_hit 2 _ hlt (by rw [e]; rfl) hj, e]; rfl
      · have e : cT f2 i = 0 := by
          unfold cT treeE
          rw [show (!!ptOk (iv (hdV (f2 i))) (iv (hdV (tlV (f2 i))))) = true from h]
          exact (congrArg (fun c => bif c then (7 : Int) else 0) hb).trans rfl
        rw [e]; rfl
    · have e : cT f2 i = 7 := by
        unfold cT treeE
        rw [show (!!ptOk (iv (hdV (f2 i))) (iv (hdV (tlV (f2 i))))) = false from h]; rfl
      unfold z1; rw [r24_hit 2 _ hlt (by rw [e]; rfl) hj, e]; rfl
    · unfold z1; rw [r24_end 2 _ hj]; exact c24_2 n0 f0 n2 f2 n4 f4 n6 f6 hs _ _
  · exact Ev.of rfl (evAsm fun h => absurd (h rfl) hn)
theorem c24_0 (n0 : Nat) (f0 : FnV) (n2 : Nat) (f2 : FnV) (n4 : Nat) (f4 : FnV) (n6 : Nat) (f6 : FnV) (hr : SzOk n0 f0) (hs : SzOk n6 f6) : Ev (st24 n0 f0 n2 f2 n4 f4 n6 f6) (.L0 0) (tri (r24 n0 (cR n0 f0) 1 (z1 n2 f2 n4 f4 n6 f6))) := by
  by_cases hn : n0 <= 9223372036854775807
  · refine scan (n := n0) hn (fun i => cR n0 f0 i != 0) (P := fun i => Ev (st24 n0 f0 n2 f2 n4 f4 n6 f6) (.L0 i) _) (fun i hlt hj next => Ev.of rfl (evAsm fun _ => evBrLt hlt (evObp ⟨by omega, by omega, hn, hr⟩ (evObt (evBr (fun hb => evRet ?_) (fun hb => evNext (next hb))))))) (fun hj => Ev.of rfl (evAsm fun _ => evBrGe (evEnter ?_)))
    · rw [r24_hit 1 _ hlt hb hj]; rfl
    · rw [r24_end 1 _ hj]; exact c24_1 n0 f0 n2 f2 n4 f4 n6 f6 hs _
  · exact Ev.of rfl (evAsm fun h => absurd (h rfl) hn)
theorem ev24_0 (n0 : Nat) (f0 : FnV) (n2 : Nat) (f2 : FnV) (n4 : Nat) (f4 : FnV) (n6 : Nat) (f6 : FnV) (hp : SzOk n0 f0 /\ SzOk n6 f6) : evR (Ev (st24 n0 f0 n2 f2 n4 f4 n6 f6)) (m24 n0 f0 n2 f2 n4 f4 n6 f6) (.tup [.int .i64 (F24_0 n0 f0 n2 f2 n4 f4 n6 f6), .int .i64 (F24_1 n0 f0 n2 f2 n4 f4 n6 f6), .int .i64 (F24_2 n0 f0 n2 f2 n4 f4 n6 f6)]) := by
  show evR _ _ (tri (F24 n0 f0 n2 f2 n4 f4 n6 f6))
  unfold F24
  repeat (first | refine evObi ?_ | refine evAsm fun _ => ?_)
  refine evBr (fun h => evRet ?_) (fun h => evEnter ?_)
  · rw [show long n0 f0 n2 f2 n4 f4 n6 f6 = true from h]; rfl
  · rw [show long n0 f0 n2 f2 n4 f4 n6 f6 = false from h]; exact c24_0 n0 f0 n2 f2 n4 f4 n6 f6 hp.1 hp.2
theorem ev24 (n0 : Nat) (f0 : FnV) (n2 : Nat) (f2 : FnV) (n4 : Nat) (f4 : FnV) (n6 : Nat) (f6 : FnV) (hp : SzOk n0 (elV tyR f0) /\ SzOk n6 (elV tyC f6)) : evR (Ev (st24 n0 f0 n2 f2 n4 f4 n6 f6)) (m24 n0 f0 n2 f2 n4 f4 n6 f6) (.tup [.int .i64 (F24_0 n0 (elV tyR f0) n2 (elV tyT f2) n4 (elV tyF f4) n6 (elV tyC f6)), .int .i64 (F24_1 n0 (elV tyR f0) n2 (elV tyT f2) n4 (elV tyF f4) n6 (elV tyC f6)), .int .i64 (F24_2 n0 (elV tyR f0) n2 (elV tyT f2) n4 (elV tyF f4) n6 (elV tyC f6))]) := ev24_0 n0 f0 n2 f2 n4 f4 n6 f6 hp
def C24 : PCon := mkC [.agg [.sl tyR, .sl tyT, .sl tyF, .sl tyC]] (fun
  | [.agg [.sl n0 f0, .sl n2 f2, .sl n4 f4, .sl n6 f6]] => SzOk n0 f0 /\ SzOk n6 f6
  | _ => False) fun
  | [.agg [.sl n0 f0, .sl n2 f2, .sl n4 f4, .sl n6 f6]] => .tup [.int .i64 (F24_0 n0 f0 n2 f2 n4 f4 n6 f6), .int .i64 (F24_1 n0 f0 n2 f2 n4 f4 n6 f6), .int .i64 (F24_2 n0 f0 n2 f2 n4 f4 n6 f6)]
  | _ => .any
theorem ok24 : (vP C24).Ok Tryz.prog 24 := mkC_ev (J := Nat × Nat) (un := u0) tabB12 hE hI Tryz.func24 (by kernel_rfl) (by kernel_rfl) (by kernel_rfl) rfl (fun w0 ds hp => run24 w0 _ _ _ _ _ _ _ _ (ev24 _ _ _ _ _ _ _ _ hp))
def m23 (n0 : Nat) (f0 : FnV) (n2 : Nat) (f2 : FnV) (n4 : Nat) (f4 : FnV) (n6 : Nat) (f6 : FnV) : RT Empty := .asm (true = true -> n0 <= 9223372036854775807) (.obi (.obi (.asm ((!decide (8 < (↑n0 : Int))) = true -> n2 <= 9223372036854775807) (.obi (.obi (.obi (.obi (.asm ((!bif decide (8 < (↑n0 : Int)) then true else decide (12 < (↑n2 : Int))) = true -> n4 <= 9223372036854775807) (.obi (.obi (.obi (.obi (.asm ((!bif bif decide (8 < (↑n0 : Int)) then true else decide (12 < (↑n2 : Int)) then true else decide (8 < (↑n4 : Int))) = true -> n6 <= 9223372036854775807) (.obi (.obi (.br (bif bif bif decide (8 < (↑n0 : Int)) then true else decide (12 < (↑n2 : Int)) then true else decide (8 < (↑n4 : Int)) then true else decide (24 < (↑n6 : Int))) (.ret (V.tup [V.int i64 0, V.int i64 0, V.int i64 3])) (.obp (∀ (i : Nat), i < n0 -> (sv (hdV (f0 i))).size <= (9223372036854775807 : Nat)) (.obt (.br (F62_1 n0 (elV tyR f0) != 0) (.ret (V.tup [V.int i64 1, V.int i64 (F62_0 n0 (elV tyR f0)), V.int i64 (F62_1 n0 (elV tyR f0))])) (.obc (.obt (.br (F64_1 n2 (elV tyT f2) != 0) (.ret (V.tup [V.int i64 2, V.int i64 (F64_0 n2 (elV tyT f2)), V.int i64 (F64_1 n2 (elV tyT f2))])) (.obc (.obt (.br (F66_1 n4 (elV tyF f4) != 0) (.ret (V.tup [V.int i64 3, V.int i64 (F66_0 n4 (elV tyF f4)), V.int i64 (F66_1 n4 (elV tyF f4))])) (.obp (∀ (i : Nat), i < n6 -> (sv (hdV (f6 i))).size <= (9223372036854775807 : Nat)) (.obt (.br (F68_1 n6 (elV tyC f6) != 0) (.ret (V.tup [V.int i64 4, V.int i64 (F68_0 n6 (elV tyC f6)), V.int i64 (F68_1 n6 (elV tyC f6))])) (.ret (V.tup [V.int i64 0, V.int i64 0, V.int i64 0]))))))))))))))))))))))))))))))
def rl23 (n0 : Nat) (f0 : FnV) (n2 : Nat) (f2 : FnV) (n4 : Nat) (f4 : FnV) (n6 : Nat) (f6 : FnV) : T (Leaf (Nat × Nat)) := runL (Nat × Nat) ctB12 u0 s23 [scV n0 f0 n2 f2 n4 f4 n6 f6]
theorem f23m (n0 : Nat) (f0 : FnV) (n2 : Nat) (f2 : FnV) (n4 : Nat) (f4 : FnV) (n6 : Nat) (f6 : FnV) : fitT noD (rl23 n0 f0 n2 f2 n4 f4 n6 f6) (m23 n0 f0 n2 f2 n4 f4 n6 f6) = toF noD (m23 n0 f0 n2 f2 n4 f4 n6 f6) := by kernel_rfl
theorem q23m (n0 : Nat) (f0 : FnV) (n2 : Nat) (f2 : FnV) (n4 : Nat) (f4 : FnV) (n6 : Nat) (f6 : FnV) : sameT (rl23 n0 f0 n2 f2 n4 f4 n6 f6) (m23 n0 f0 n2 f2 n4 f4 n6 f6) = (rl23 n0 f0 n2 f2 n4 f4 n6 f6) := by kernel_rfl
theorem run23 (w0 : World) (n0 : Nat) (f0 : FnV) (n2 : Nat) (f2 : FnV) (n4 : Nat) (f4 : FnV) (n6 : Nat) (f6 : FnV) {r : V} (h : evR noE (m23 n0 f0 n2 f2 n4 f4 n6 f6) r) : sat (LPof w0 (SV ctB12)) (runL (Nat × Nat) ctB12 u0 s23 [scV n0 f0 n2 f2 n4 f4 n6 f6]) (topQ r) := run_ev0 (by kernel_rfl) _ (f23m n0 f0 n2 f2 n4 f4 n6 f6) (q23m n0 f0 n2 f2 n4 f4 n6 f6) h
def F23_0 (n0 : Nat) (f0 : FnV) (n2 : Nat) (f2 : FnV) (n4 : Nat) (f4 : FnV) (n6 : Nat) (f6 : FnV) : Int := bif bif bif bif decide (8 < (↑n0 : Int)) then true else decide (12 < (↑n2 : Int)) then true else decide (8 < (↑n4 : Int)) then true else decide (24 < (↑n6 : Int)) then 0 else bif F62_1 n0 (elV tyR f0) != 0 then 1 else bif F64_1 n2 (elV tyT f2) != 0 then 2 else bif F66_1 n4 (elV tyF f4) != 0 then 3 else bif F68_1 n6 (elV tyC f6) != 0 then 4 else 0
def F23_1 (n0 : Nat) (f0 : FnV) (n2 : Nat) (f2 : FnV) (n4 : Nat) (f4 : FnV) (n6 : Nat) (f6 : FnV) : Int := bif bif bif bif decide (8 < (↑n0 : Int)) then true else decide (12 < (↑n2 : Int)) then true else decide (8 < (↑n4 : Int)) then true else decide (24 < (↑n6 : Int)) then 0 else bif F62_1 n0 (elV tyR f0) != 0 then F62_0 n0 (elV tyR f0) else bif F64_1 n2 (elV tyT f2) != 0 then F64_0 n2 (elV tyT f2) else bif F66_1 n4 (elV tyF f4) != 0 then F66_0 n4 (elV tyF f4) else bif F68_1 n6 (elV tyC f6) != 0 then F68_0 n6 (elV tyC f6) else 0
def F23_2 (n0 : Nat) (f0 : FnV) (n2 : Nat) (f2 : FnV) (n4 : Nat) (f4 : FnV) (n6 : Nat) (f6 : FnV) : Int := bif bif bif bif decide (8 < (↑n0 : Int)) then true else decide (12 < (↑n2 : Int)) then true else decide (8 < (↑n4 : Int)) then true else decide (24 < (↑n6 : Int)) then 3 else bif F62_1 n0 (elV tyR f0) != 0 then F62_1 n0 (elV tyR f0) else bif F64_1 n2 (elV tyT f2) != 0 then F64_1 n2 (elV tyT f2) else bif F66_1 n4 (elV tyF f4) != 0 then F66_1 n4 (elV tyF f4) else bif F68_1 n6 (elV tyC f6) != 0 then F68_1 n6 (elV tyC f6) else 0
def R23 (n0 : Nat) (f0 : FnV) (n2 : Nat) (f2 : FnV) (n4 : Nat) (f4 : FnV) (n6 : Nat) (f6 : FnV) : V := .tup [.int i64 (F23_0 n0 f0 n2 f2 n4 f4 n6 f6), .int i64 (F23_1 n0 f0 n2 f2 n4 f4 n6 f6), .int i64 (F23_2 n0 f0 n2 f2 n4 f4 n6 f6)]
theorem ev23 (n0 : Nat) (f0 : FnV) (n2 : Nat) (f2 : FnV) (n4 : Nat) (f4 : FnV) (n6 : Nat) (f6 : FnV) (hp : SzOk n0 f0 /\ SzOk n6 f6) : evR noE (m23 n0 f0 n2 f2 n4 f4 n6 f6) (R23 n0 f0 n2 f2 n4 f4 n6 f6) := evAsm (fun a0 => evObi (evObi (evAsm (fun a0 => evObi (evObi (evObi (evObi (evAsm (fun a0 => evObi (evObi (evObi (evObi (evAsm (fun a0 => evObi (evObi (evBr (fun h0 => evRet (by unfold R23 F23_0 F23_1 F23_2; try rw [h0]; rfl)) (fun h0 => evObp (by first | assumption | ((first | exact hp.1 | exact hp.2))) (evObt (evBr (fun h1 => evRet (by unfold R23 F23_0 F23_1 F23_2; try rw [h0]; try rw [h1]; rfl)) (fun h1 => evObc (evObt (evBr (fun h2 => evRet (by unfold R23 F23_0 F23_1 F23_2; try rw [h0]; try rw [h1]; try rw [h2]; rfl)) (fun h2 => evObc (evObt (evBr (fun h3 => evRet (by unfold R23 F23_0 F23_1 F23_2; try rw [h0]; try rw [h1]; try rw [h2]; try rw [h3]; rfl)) (fun h3 => evObp (by first | assumption | ((first | exact hp.1 | exact hp.2))) (evObt (evBr (fun h4 => evRet (by unfold R23 F23_0 F23_1 F23_2; try rw [h0]; try rw [h1]; try rw [h2]; try rw [h3]; try rw [h4]; rfl)) (fun h4 => evRet (by unfold R23 F23_0 F23_1 F23_2; try rw [h0]; try rw [h1]; try rw [h2]; try rw [h3]; try rw [h4]; rfl))))))))))))))))))))))))))))))
def C23 : PCon := mkC [.agg [.sl tyR, .sl tyT, .sl tyF, .sl tyC]] (fun
  | [.agg [.sl n0 f0, .sl n2 f2, .sl n4 f4, .sl n6 f6]] => SzOk n0 f0 /\ SzOk n6 f6
  | _ => False) fun
  | [.agg [.sl n0 f0, .sl n2 f2, .sl n4 f4, .sl n6 f6]] => R23 n0 f0 n2 f2 n4 f4 n6 f6
  | _ => .any
theorem ok23 : (vP C23).Ok Tryz.prog 23 := mkC_ev (J := Nat × Nat) (un := u0) tabB12 hE hI Tryz.func23 (by kernel_rfl) (by kernel_rfl) (by kernel_rfl) rfl (fun w0 ds hp => run23 w0 _ _ _ _ _ _ _ _ (ev23 _ _ _ _ _ _ _ _ hp))
end
end Go.Dx
namespace Go.Dx
open Go.IntKind (i64 u64 u8)
open Go.Sx Go.Proofs
set_option maxRecDepth 100000
set_option linter.unusedVariables false
set_option linter.unusedSimpArgs false
noncomputable section
def ctB13 : CTab := (24, .con C24) :: (23, .con C23) :: ctB12
theorem tabB13 : TabOk Tryz.prog eqs its ctB13 := .con ok24 (.con ok23 (tabB12))
inductive S44 where
  | L0 (i_100 i_101 : Int)
def inv44 (n0 : Nat) (f0 : FnV) (n2 : Nat) (f2 : FnV) (n4 : Nat) (f4 : FnV) (n6 : Nat) (f6 : FnV) (n8 : Nat) (f8 : FnV) : S44 -> Env × List O × Option Ex
  | .L0 i_100 i_101 => ([(8, V.int i64 i_100), (7, V.int i64 i_101), (6, V.int i64 (F23_1 n0 (elV tyR f0) n2 (elV tyT f2) n4 (elV tyF f4) n6 (elV tyC f6))), (5, V.int i64 (F23_0 n0 (elV tyR f0) n2 (elV tyT f2) n4 (elV tyF f4) n6 (elV tyC f6))), (14, V.int i64 (F23_2 n0 (elV tyR f0) n2 (elV tyT f2) n4 (elV tyF f4) n6 (elV tyC f6))), (13, V.int i64 (F23_1 n0 (elV tyR f0) n2 (elV tyT f2) n4 (elV tyF f4) n6 (elV tyC f6))), (12, V.int i64 (F23_0 n0 (elV tyR f0) n2 (elV tyT f2) n4 (elV tyF f4) n6 (elV tyC f6))), (9, V.tup [V.int i64 (F23_0 n0 (elV tyR f0) n2 (elV tyT f2) n4 (elV tyF f4) n6 (elV tyC f6)), V.int i64 (F23_1 n0 (elV tyR f0) n2 (elV tyT f2) n4 (elV tyF f4) n6 (elV tyC f6)), V.int i64 (F23_2 n0 (elV tyR f0) n2 (elV tyT f2) n4 (elV tyF f4) n6 (elV tyC f6))]), (11, V.tup [V.int i64 (F23_0 n0 (elV tyR f0) n2 (elV tyT f2) n4 (elV tyF f4) n6 (elV tyC f6)), V.int i64 (F23_1 n0 (elV tyR f0) n2 (elV tyT f2) n4 (elV tyF f4) n6 (elV tyC f6)), V.int i64 (F23_2 n0 (elV tyR f0) n2 (elV tyT f2) n4 (elV tyF f4) n6 (elV tyC f6))]), (10, scV n0 f0 n2 f2 n4 f4 n6 f6), (4, V.int i64 0), (2, V.pl 0 0), (0, scV n0 f0 n2 f2 n4 f4 n6 f6), (1, V.sl n8 (elV [Ty.int i64] f8))], [O.cells [V.sl n0 (elV tyR f0), V.sl n2 (elV tyT f2), V.sl n4 (elV tyF f4), V.sl n6 (elV tyC f6)] 27], none)
def id44 : S44 -> Nat × Nat
  | .L0 i_100 i_101 => (0, 0)
def rl44 (n0 : Nat) (f0 : FnV) (n2 : Nat) (f2 : FnV) (n4 : Nat) (f4 : FnV) (n6 : Nat) (f6 : FnV) (n8 : Nat) (f8 : FnV) : T (Leaf (Nat × Nat)) := runL (Nat × Nat) ctB13 u0 s44 [scV n0 f0 n2 f2 n4 f4 n6 f6, V.sl n8 (elV [Ty.int i64] f8)]
def lp44_0 (n0 : Nat) (f0 : FnV) (n2 : Nat) (f2 : FnV) (n4 : Nat) (f4 : FnV) (n6 : Nat) (f6 : FnV) (n8 : Nat) (f8 : FnV) (cx : Nat) : Lp (Nat × Nat) := lpT (atT (rl44 n0 f0 n2 f2 n4 f4 n6 f6 n8 f8) [])
def lp44 (n0 : Nat) (f0 : FnV) (n2 : Nat) (f2 : FnV) (n4 : Nat) (f4 : FnV) (n6 : Nat) (f6 : FnV) (n8 : Nat) (f8 : FnV) : Nat × Nat -> Lp (Nat × Nat)
  | (0, cx) => lp44_0 n0 f0 n2 f2 n4 f4 n6 f6 n8 f8 cx
  | (_, cx) => lp44_0 n0 f0 n2 f2 n4 f4 n6 f6 n8 f8 cx
def D44 (n0 : Nat) (f0 : FnV) (n2 : Nat) (f2 : FnV) (n4 : Nat) (f4 : FnV) (n6 : Nat) (f6 : FnV) (n8 : Nat) (f8 : FnV) : LD (Nat × Nat) S44 := ⟨id44, lp44 n0 f0 n2 f2 n4 f4 n6 f6 n8 f8, inv44 n0 f0 n2 f2 n4 f4 n6 f6 n8 f8⟩
def st44 (n0 : Nat) (f0 : FnV) (n2 : Nat) (f2 : FnV) (n4 : Nat) (f4 : FnV) (n6 : Nat) (f6 : FnV) (n8 : Nat) (f8 : FnV) : S44 -> RT S44
  | .L0 i_100 i_101 => .asm (true = true -> n8 <= 9223372036854775807) (.obi (.obi (.br (bif decide (i_100 < (↑n8 : Int)) then i_101 == 0 else false) (.ob (decide (0 <= i_100 /\ i_100 < (↑n8 : Int))) (.ob (decide (0 <= i64.wrap (i_100 + 1) /\ i64.wrap (i_100 + 1) < (↑n8 : Int))) (.obc (.obt (.br (F86_0 (iv (hdV (f8 i_100.toNat))) 0 (i64.wrap (iv (hdV (f8 (i64.wrap (i_100 + 1)).toNat)) - 1))) (.next [some (some 0)] (S44.L0 (i64.wrap (i_100 + 2)) (4)) []) (.next [some (some 0)] (S44.L0 (i64.wrap (i_100 + 2)) (i_101)) [])))))) (.ret (V.int i64 i_101)))))
def m44 (n0 : Nat) (f0 : FnV) (n2 : Nat) (f2 : FnV) (n4 : Nat) (f4 : FnV) (n6 : Nat) (f6 : FnV) (n8 : Nat) (f8 : FnV) : RT S44 := .obp ((∀ (i : Nat), i < n0 -> (sv (hdV (f0 i))).size <= (9223372036854775807 : Nat)) /\ ∀ (i : Nat), i < n6 -> (sv (hdV (f6 i))).size <= (9223372036854775807 : Nat)) (.obt (.enter [some (some 0)] (S44.L0 (0) (F23_2 n0 (elV tyR f0) n2 (elV tyT f2) n4 (elV tyF f4) n6 (elV tyC f6))) []))
theorem f44m (n0 : Nat) (f0 : FnV) (n2 : Nat) (f2 : FnV) (n4 : Nat) (f4 : FnV) (n6 : Nat) (f6 : FnV) (n8 : Nat) (f8 : FnV) : fitT (D44 n0 f0 n2 f2 n4 f4 n6 f6 n8 f8) (rl44 n0 f0 n2 f2 n4 f4 n6 f6 n8 f8) (m44 n0 f0 n2 f2 n4 f4 n6 f6 n8 f8) = toF (D44 n0 f0 n2 f2 n4 f4 n6 f6 n8 f8) (m44 n0 f0 n2 f2 n4 f4 n6 f6 n8 f8) := by kernel_rfl
theorem q44m (n0 : Nat) (f0 : FnV) (n2 : Nat) (f2 : FnV) (n4 : Nat) (f4 : FnV) (n6 : Nat) (f6 : FnV) (n8 : Nat) (f8 : FnV) : sameT (rl44 n0 f0 n2 f2 n4 f4 n6 f6 n8 f8) (m44 n0 f0 n2 f2 n4 f4 n6 f6 n8 f8) = (rl44 n0 f0 n2 f2 n4 f4 n6 f6 n8 f8) := by kernel_rfl
theorem f44_0 (n0 : Nat) (f0 : FnV) (n2 : Nat) (f2 : FnV) (n4 : Nat) (f4 : FnV) (n6 : Nat) (f6 : FnV) (n8 : Nat) (f8 : FnV) (i_100 i_101 : Int) : fitT (D44 n0 f0 n2 f2 n4 f4 n6 f6 n8 f8) (rdS ctB13 u0 (D44 n0 f0 n2 f2 n4 f4 n6 f6 n8 f8) (S44.L0 i_100 i_101)) (st44 n0 f0 n2 f2 n4 f4 n6 f6 n8 f8 (S44.L0 i_100 i_101)) = toF (D44 n0 f0 n2 f2 n4 f4 n6 f6 n8 f8) (st44 n0 f0 n2 f2 n4 f4 n6 f6 n8 f8 (S44.L0 i_100 i_101)) := by kernel_rfl
theorem q44_0 (n0 : Nat) (f0 : FnV) (n2 : Nat) (f2 : FnV) (n4 : Nat) (f4 : FnV) (n6 : Nat) (f6 : FnV) (n8 : Nat) (f8 : FnV) (i_100 i_101 : Int) : sameT (rdS ctB13 u0 (D44 n0 f0 n2 f2 n4 f4 n6 f6 n8 f8) (S44.L0 i_100 i_101)) (st44 n0 f0 n2 f2 n4 f4 n6 f6 n8 f8 (S44.L0 i_100 i_101)) = rdS ctB13 u0 (D44 n0 f0 n2 f2 n4 f4 n6 f6 n8 f8) (S44.L0 i_100 i_101) := by kernel_rfl
theorem run44 (w0 : World) (n0 : Nat) (f0 : FnV) (n2 : Nat) (f2 : FnV) (n4 : Nat) (f4 : FnV) (n6 : Nat) (f6 : FnV) (n8 : Nat) (f8 : FnV) {r : V} (h : evR (Ev (st44 n0 f0 n2 f2 n4 f4 n6 f6 n8 f8)) (m44 n0 f0 n2 f2 n4 f4 n6 f6 n8 f8) r) : sat (LPof w0 (SV ctB13)) (runL (Nat × Nat) ctB13 u0 s44 [scV n0 f0 n2 f2 n4 f4 n6 f6, V.sl n8 (elV [Ty.int i64] f8)]) (topQ r) := run_ev (by kernel_rfl) (D44 n0 f0 n2 f2 n4 f4 n6 f6 n8 f8) (st44 n0 f0 n2 f2 n4 f4 n6 f6 n8 f8) _ (f44m n0 f0 n2 f2 n4 f4 n6 f6 n8 f8) (q44m n0 f0 n2 f2 n4 f4 n6 f6 n8 f8) (fun s => match s with | .L0 i_100 i_101 => f44_0 n0 f0 n2 f2 n4 f4 n6 f6 n8 f8 i_100 i_101) (fun s => match s with | .L0 i_100 i_101 => q44_0 n0 f0 n2 f2 n4 f4 n6 f6 n8 f8 i_100 i_101) h
def outI (f8 : FnV) (k : Nat) : Bool := F86_0 (iv (hdV (f8 (2 * k)))) 0 (i64.wrap (iv (hdV (f8 (2 * k + 1))) - 1))
def outs (n8 : Nat) (f8 : FnV) (e : Int) : Int := bif e == 0 then (bif exB (n8 / 2) (outI f8) then 4 else 0) else e
def F44 (n0 : Nat) (f0 : FnV) (n2 : Nat) (f2 : FnV) (n4 : Nat) (f4 : FnV) (n6 : Nat) (f6 : FnV) (n8 : Nat) (f8 : FnV) : Int := outs n8 f8 (F23_2 n0 (elV tyR f0) n2 (elV tyT f2) n4 (elV tyF f4) n6 (elV tyC f6))
theorem c44_1 (n0 : Nat) (f0 : FnV) (n2 : Nat) (f2 : FnV) (n4 : Nat) (f4 : FnV) (n6 : Nat) (f6 : FnV) (n8 : Nat) (f8 : FnV) (i e : Int) (he : (e == 0) = false) : Ev (st44 n0 f0 n2 f2 n4 f4 n6 f6 n8 f8) (.L0 i e) (.int .i64 e) := Ev.of rfl (evAsm fun _ => evObi (evObi (evBrF (by rw [he]; cases decide (i < (n8 : Int)) <;> rfl) (evRet rfl))))
theorem c44_0 (n0 : Nat) (f0 : FnV) (n2 : Nat) (f2 : FnV) (n4 : Nat) (f4 : FnV) (n6 : Nat) (f6 : FnV) (n8 : Nat) (f8 : FnV) (hm : n8 % 2 = 0) (hn : n8 <= 100) : ∀ k : Nat, k <= n8 / 2 -> (∀ j, j < k -> outI f8 j = false) -> Ev (st44 n0 f0 n2 f2 n4 f4 n6 f6 n8 f8) (.L0 ((2 * k : Nat) : Int) 0) (.int .i64 (bif exB (n8 / 2) (outI f8) then 4 else 0)) := by
  refine up_ind fun k hk ih hj => Ev.of rfl (evAsm fun _ => evObi (evObi (evBr (fun h => ?_) (fun h => ?_))))
  · have hlt : 2 * k < n8 := by
      by_cases hh : ((2 * k : Nat) : Int) < (n8 : Int)
      · omega
      · rw [decide_eq_false hh] at h; cases h
    have w1 : i64.wrap (((2 * k : Nat) : Int) + 1) = ((2 * k + 1 : Nat) : Int) := by rw [wrapI (by omega) (by omega)]; omega
    have w2 : i64.wrap (((2 * k : Nat) : Int) + 2) = ((2 * (k + 1) : Nat) : Int) := by rw [wrapI (by omega) (by omega)]; omega
    refine evOb (decide_eq_true (by omega)) (evOb (decide_eq_true (by rw [w1]; omega)) (evObc (evObt (evBr (fun hb => evNext ?_) (fun hb => evNext ?_)))))
    · rw [w1] at hb
      simp only [Int.toNat_natCast] at hb
      rw [exB_true (p := outI f8) k (by omega) hb, cond_true]
      exact c44_1 n0 f0 n2 f2 n4 f4 n6 f6 n8 f8 _ 4 rfl
    · rw [w1] at hb
      simp only [Int.toNat_natCast] at hb
      rw [w2]
      refine ih (by omega) (fun j h3 => ?_)
      by_cases e : j = k
      · subst e; exact hb
      · exact hj j (by omega)
  · have e : k = n8 / 2 := by
      by_cases hh : ((2 * k : Nat) : Int) < (n8 : Int)
      · rw [decide_eq_true hh] at h; cases h
      · omega
    rw [show exB (n8 / 2) (outI f8) = false from exB_false fun j h => hj j (by omega)]
    exact evRet rfl
theorem c44_2 (n0 : Nat) (f0 : FnV) (n2 : Nat) (f2 : FnV) (n4 : Nat) (f4 : FnV) (n6 : Nat) (f6 : FnV) (n8 : Nat) (f8 : FnV) (hm : n8 % 2 = 0) (hn : n8 <= 100) (e : Int) : Ev (st44 n0 f0 n2 f2 n4 f4 n6 f6 n8 f8) (.L0 0 e) (.int .i64 (outs n8 f8 e)) := by
  unfold outs
  cases he : e == 0 with
  | false => exact c44_1 n0 f0 n2 f2 n4 f4 n6 f6 n8 f8 0 e he
  | true =>
    have : e = 0 := eq_of_beq he
    subst this
    exact c44_0 n0 f0 n2 f2 n4 f4 n6 f6 n8 f8 hm hn 0 (by omega) (fun j h => by omega)
theorem ev44_0 (n0 : Nat) (f0 : FnV) (n2 : Nat) (f2 : FnV) (n4 : Nat) (f4 : FnV) (n6 : Nat) (f6 : FnV) (n8 : Nat) (f8 : FnV) (hp : (SzOk n0 f0 /\ SzOk n6 f6) /\ n8 % 2 = 0 /\ n8 <= 100) : evR (Ev (st44 n0 f0 n2 f2 n4 f4 n6 f6 n8 f8)) (m44 n0 f0 n2 f2 n4 f4 n6 f6 n8 f8) (.int .i64 (F44 n0 f0 n2 f2 n4 f4 n6 f6 n8 f8)) := evObp hp.1 (evObt (evEnter (c44_2 n0 f0 n2 f2 n4 f4 n6 f6 n8 f8 hp.2.1 hp.2.2 _)))
theorem ev44 (n0 : Nat) (f0 : FnV) (n2 : Nat) (f2 : FnV) (n4 : Nat) (f4 : FnV) (n6 : Nat) (f6 : FnV) (n8 : Nat) (f8 : FnV) (hp : (SzOk n0 (elV tyR f0) /\ SzOk n6 (elV tyC f6)) /\ n8 % 2 = 0 /\ n8 <= 100) : evR (Ev (st44 n0 f0 n2 f2 n4 f4 n6 f6 n8 f8)) (m44 n0 f0 n2 f2 n4 f4 n6 f6 n8 f8) (.int .i64 (F44 n0 (elV tyR f0) n2 (elV tyT f2) n4 (elV tyF f4) n6 (elV tyC f6) n8 (elV [.int .i64] f8))) := ev44_0 n0 f0 n2 f2 n4 f4 n6 f6 n8 f8 hp
def C44 : PCon := mkC [.agg [.sl tyR, .sl tyT, .sl tyF, .sl tyC], .sl [.int .i64]] (fun
  | [.agg [.sl n0 f0, .sl n2 f2, .sl n4 f4, .sl n6 f6], .sl n8 f8] => (SzOk n0 f0 /\ SzOk n6 f6) /\ n8 % 2 = 0 /\ n8 <= 100
  | _ => False) fun
  | [.agg [.sl n0 f0, .sl n2 f2, .sl n4 f4, .sl n6 f6], .sl n8 f8] => .int .i64 (F44 n0 f0 n2 f2 n4 f4 n6 f6 n8 f8)
  | _ => .any
theorem ok44 : (vP C44).Ok Tryz.prog 44 := mkC_ev (J := Nat × Nat) (un := u0) tabB13 hE hI Tryz.func44 (by kernel_rfl) (by kernel_rfl) (by kernel_rfl) rfl (fun w0 ds hp => run44 w0 _ _ _ _ _ _ _ _ _ _ (ev44 _ _ _ _ _ _ _ _ _ _ hp))
def m91 (n0 : Nat) (f0 : FnV) (n2 : Nat) (f2 : FnV) (n4 : Nat) (f4 : FnV) (n6 : Nat) (f6 : FnV) : RT Empty := .obp ((∀ (i : Nat), i < n0 -> (sv (hdV (f0 i))).size <= (9223372036854775807 : Nat)) /\ ∀ (i : Nat), i < n6 -> (sv (hdV (f6 i))).size <= (9223372036854775807 : Nat)) (.obt (.ret (V.int i64 (F24_2 n0 (elV tyR f0) n2 (elV tyT f2) n4 (elV tyF f4) n6 (elV tyC f6)))))
def rl91 (n0 : Nat) (f0 : FnV) (n2 : Nat) (f2 : FnV) (n4 : Nat) (f4 : FnV) (n6 : Nat) (f6 : FnV) : T (Leaf (Nat × Nat)) := runL (Nat × Nat) ctB13 u0 s91 [scV n0 f0 n2 f2 n4 f4 n6 f6]
theorem f91m (n0 : Nat) (f0 : FnV) (n2 : Nat) (f2 : FnV) (n4 : Nat) (f4 : FnV) (n6 : Nat) (f6 : FnV) : fitT noD (rl91 n0 f0 n2 f2 n4 f4 n6 f6) (m91 n0 f0 n2 f2 n4 f4 n6 f6) = toF noD (m91 n0 f0 n2 f2 n4 f4 n6 f6) := by kernel_rfl
theorem q91m (n0 : Nat) (f0 : FnV) (n2 : Nat) (f2 : FnV) (n4 : Nat) (f4 : FnV) (n6 : Nat) (f6 : FnV) : sameT (rl91 n0 f0 n2 f2 n4 f4 n6 f6) (m91 n0 f0 n2 f2 n4 f4 n6 f6) = (rl91 n0 f0 n2 f2 n4 f4 n6 f6) := by kernel_rfl
theorem run91 (w0 : World) (n0 : Nat) (f0 : FnV) (n2 : Nat) (f2 : FnV) (n4 : Nat) (f4 : FnV) (n6 : Nat) (f6 : FnV) {r : V} (h : evR noE (m91 n0 f0 n2 f2 n4 f4 n6 f6) r) : sat (LPof w0 (SV ctB13)) (runL (Nat × Nat) ctB13 u0 s91 [scV n0 f0 n2 f2 n4 f4 n6 f6]) (topQ r) := run_ev0 (by kernel_rfl) _ (f91m n0 f0 n2 f2 n4 f4 n6 f6) (q91m n0 f0 n2 f2 n4 f4 n6 f6) h
def F91_0 (n0 : Nat) (f0 : FnV) (n2 : Nat) (f2 : FnV) (n4 : Nat) (f4 : FnV) (n6 : Nat) (f6 : FnV) : Int := F24_2 n0 (elV tyR f0) n2 (elV tyT f2) n4 (elV tyF f4) n6 (elV tyC f6)
def R91 (n0 : Nat) (f0 : FnV) (n2 : Nat) (f2 : FnV) (n4 : Nat) (f4 : FnV) (n6 : Nat) (f6 : FnV) : V := .int i64 (F91_0 n0 f0 n2 f2 n4 f4 n6 f6)
theorem ev91 (n0 : Nat) (f0 : FnV) (n2 : Nat) (f2 : FnV) (n4 : Nat) (f4 : FnV) (n6 : Nat) (f6 : FnV) (hp : SzOk n0 f0 /\ SzOk n6 f6) : evR noE (m91 n0 f0 n2 f2 n4 f4 n6 f6) (R91 n0 f0 n2 f2 n4 f4 n6 f6) := evObp (by first | assumption | (exact hp)) (evObt (evRet (by unfold R91 F91_0; rfl)))
def C91 : PCon := mkC [.agg [.sl tyR, .sl tyT, .sl tyF, .sl tyC]] (fun
  | [.agg [.sl n0 f0, .sl n2 f2, .sl n4 f4, .sl n6 f6]] => SzOk n0 f0 /\ SzOk n6 f6
  | _ => False) fun
  | [.agg [.sl n0 f0, .sl n2 f2, .sl n4 f4, .sl n6 f6]] => R91 n0 f0 n2 f2 n4 f4 n6 f6
  | _ => .any
theorem ok91 : (vP C91).Ok Tryz.prog 91 := mkC_ev (J := Nat × Nat) (un := u0) tabB13 hE hI Tryz.func91 (by kernel_rfl) (by kernel_rfl) (by kernel_rfl) rfl (fun w0 ds hp => run91 w0 _ _ _ _ _ _ _ _ (ev91 _ _ _ _ _ _ _ _ hp))
end
end Go.Dx
namespace Go.Dx
open Go.IntKind (i64 u64 u8)
open Go.Sx Go.Proofs
set_option maxRecDepth 100000
set_option linter.unusedVariables false
set_option linter.unusedSimpArgs false
noncomputable section
def ctB14 : CTab := (44, .con C44) :: (91, .con C91) :: ctB13
theorem tabB14 : TabOk Tryz.prog eqs its ctB14 := .con ok44 (.con ok91 (tabB13))
def m50 (n0 : Nat) (f0 : FnV) (n2 : Nat) (f2 : FnV) (n4 : Nat) (f4 : FnV) (n6 : Nat) (f6 : FnV) (x8 x9 : Int) : RT Empty := .obp ((∀ (i : Nat), i < n0 -> (sv (hdV (f0 i))).size <= (9223372036854775807 : Nat)) /\ ∀ (i : Nat), i < n6 -> (sv (hdV (f6 i))).size <= (9223372036854775807 : Nat)) (.obt (.obi (.obi (.obi (.obi (.obi (.obi (.obi (.br (bif F91_0 n0 (elV tyR f0) n2 (elV tyT f2) n4 (elV tyF f4) n6 (elV tyC f6) == 0 then bif decide (x8 < 0) then true else decide (x9 <= x8) else false) (.ret (V.int i64 4)) (.ret (V.int i64 (F91_0 n0 (elV tyR f0) n2 (elV tyT f2) n4 (elV tyF f4) n6 (elV tyC f6)))))))))))))
def rl50 (n0 : Nat) (f0 : FnV) (n2 : Nat) (f2 : FnV) (n4 : Nat) (f4 : FnV) (n6 : Nat) (f6 : FnV) (x8 x9 : Int) : T (Leaf (Nat × Nat)) := runL (Nat × Nat) ctB14 u0 s50 [scV n0 f0 n2 f2 n4 f4 n6 f6, V.int i64 x8, V.int i64 x9]
theorem f50m (n0 : Nat) (f0 : FnV) (n2 : Nat) (f2 : FnV) (n4 : Nat) (f4 : FnV) (n6 : Nat) (f6 : FnV) (x8 x9 : Int) : fitT noD (rl50 n0 f0 n2 f2 n4 f4 n6 f6 x8 x9) (m50 n0 f0 n2 f2 n4 f4 n6 f6 x8 x9) = toF noD (m50 n0 f0 n2 f2 n4 f4 n6 f6 x8 x9) := by kernel_rfl
theorem q50m (n0 : Nat) (f0 : FnV) (n2 : Nat) (f2 : FnV) (n4 : Nat) (f4 : FnV) (n6 : Nat) (f6 : FnV) (x8 x9 : Int) : sameT (rl50 n0 f0 n2 f2 n4 f4 n6 f6 x8 x9) (m50 n0 f0 n2 f2 n4 f4 n6 f6 x8 x9) = (rl50 n0 f0 n2 f2 n4 f4 n6 f6 x8 x9) := by kernel_rfl
theorem run50 (w0 : World) (n0 : Nat) (f0 : FnV) (n2 : Nat) (f2 : FnV) (n4 : Nat) (f4 : FnV) (n6 : Nat) (f6 : FnV) (x8 x9 : Int) {r : V} (h : evR noE (m50 n0 f0 n2 f2 n4 f4 n6 f6 x8 x9) r) : sat (LPof w0 (SV ctB14)) (runL (Nat × Nat) ctB14 u0 s50 [scV n0 f0 n2 f2 n4 f4 n6 f6, V.int i64 x8, V.int i64 x9]) (topQ r) := run_ev0 (by kernel_rfl) _ (f50m n0 f0 n2 f2 n4 f4 n6 f6 x8 x9) (q50m n0 f0 n2 f2 n4 f4 n6 f6 x8 x9) h
def F50_0 (n0 : Nat) (f0 : FnV) (n2 : Nat) (f2 : FnV) (n4 : Nat) (f4 : FnV) (n6 : Nat) (f6 : FnV) (x8 x9 : Int) : Int := bif bif F91_0 n0 (elV tyR f0) n2 (elV tyT f2) n4 (elV tyF f4) n6 (elV tyC f6) == 0 then bif decide (x8 < 0) then true else decide (x9 <= x8) else false then 4 else F91_0 n0 (elV tyR f0) n2 (elV tyT f2) n4 (elV tyF f4) n6 (elV tyC f6)
def R50 (n0 : Nat) (f0 : FnV) (n2 : Nat) (f2 : FnV) (n4 : Nat) (f4 : FnV) (n6 : Nat) (f6 : FnV) (x8 x9 : Int) : V := .int i64 (F50_0 n0 f0 n2 f2 n4 f4 n6 f6 x8 x9)
theorem ev50 (n0 : Nat) (f0 : FnV) (n2 : Nat) (f2 : FnV) (n4 : Nat) (f4 : FnV) (n6 : Nat) (f6 : FnV) (x8 x9 : Int) (hp : SzOk n0 f0 /\ SzOk n6 f6) : evR noE (m50 n0 f0 n2 f2 n4 f4 n6 f6 x8 x9) (R50 n0 f0 n2 f2 n4 f4 n6 f6 x8 x9) := evObp (by first | assumption | (exact hp)) (evObt (evObi (evObi (evObi (evObi (evObi (evObi (evObi (evBr (fun h0 => evRet (by unfold R50 F50_0; try rw [h0]; rfl)) (fun h0 => evRet (by unfold R50 F50_0; try rw [h0]; rfl)))))))))))
def C50 : PCon := mkC [.agg [.sl tyR, .sl tyT, .sl tyF, .sl tyC], .int .i64, .int .i64] (fun
  | [.agg [.sl n0 f0, .sl n2 f2, .sl n4 f4, .sl n6 f6], .int _ x8, .int _ x9] => SzOk n0 f0 /\ SzOk n6 f6
  | _ => False) fun
  | [.agg [.sl n0 f0, .sl n2 f2, .sl n4 f4, .sl n6 f6], .int _ x8, .int _ x9] => R50 n0 f0 n2 f2 n4 f4 n6 f6 x8 x9
  | _ => .any
theorem ok50 : (vP C50).Ok Tryz.prog 50 := mkC_ev (J := Nat × Nat) (un := u0) tabB14 hE hI Tryz.func50 (by kernel_rfl) (by kernel_rfl) (by kernel_rfl) rfl (fun w0 ds hp => run50 w0 _ _ _ _ _ _ _ _ _ _ (ev50 _ _ _ _ _ _ _ _ _ _ hp))
end
end Go.Dx
namespace Go.Dx
open Go.IntKind (i64 u64 u8)
open Go.Sx
noncomputable section
theorem outI_in {i : Int} {m : Nat} {f8 : Nat -> List V} {k : Nat} (hm : m <= 9223372036854775807) (h1 : iv (hdV (f8 (2 * k))) = i) (h2 : iv (hdV (f8 (2 * k + 1))) = (m : Int)) (h : outI f8 k = false) : 0 <= i /\ i < m := by
  unfold outI F86_0 at h
  rw [h1, h2, wrapI (by omega) (by omega)] at h
  cases hb : decide (i < 0) with
  | true => rw [hb] at h; cases h
  | false =>
    rw [hb, cond_false] at h
    have a := of_decide_eq_false hb
    have b := of_decide_eq_false h
    omega
theorem outs_in {n8 : Nat} {f8 : Nat -> List V} {e : Int} (h : outs n8 f8 e = 0) : e = 0 /\ ∀ k, k < n8 / 2 -> outI f8 k = false := by
  unfold outs at h
  cases he : e == 0 with
  | false =>
    rw [he, cond_false] at h
    subst h; cases he
  | true =>
    rw [he, cond_true] at h
    refine ⟨eq_of_beq he, fun k hk => ?_⟩
    cases ho : outI f8 k with
    | false => rfl
    | true => rw [exB_true k hk ho] at h; cases h
section
variable {n0 : Nat} {f0 : Nat -> List V} {n2 : Nat} {f2 : Nat -> List V} {n4 : Nat} {f4 : Nat -> List V} {n6 : Nat} {f6 : Nat -> List V} {i j : Int} {m l : Nat}
theorem k44_2 (hm : m <= 9223372036854775807) (h : F44 n0 f0 n2 f2 n4 f4 n6 f6 2 (elV [Ty.int i64] (secF [V.int i64 i, V.int i64 m] 0 1)) = 0) : 0 <= i /\ i < m :=
  outI_in (k := 0) hm rfl rfl ((outs_in h).2 0 (by omega))
theorem k44_4 (hm : m <= 9223372036854775807) (hl : l <= 9223372036854775807) (h : F44 n0 f0 n2 f2 n4 f4 n6 f6 4 (elV [Ty.int i64] (secF [V.int i64 i, V.int i64 m, V.int i64 j, V.int i64 l] 0 1)) = 0) : (0 <= i /\ i < m) /\ (0 <= j /\ j < l) :=
  ⟨outI_in (k := 0) hm rfl rfl ((outs_in h).2 0 (by omega)), outI_in (k := 1) hl rfl rfl ((outs_in h).2 1 (by omega))⟩
theorem k50 (h : F50_0 n0 f0 n2 f2 n4 f4 n6 f6 i j = 0) : 0 <= i /\ i < j := by
  unfold F50_0 at h
  generalize F91_0 _ _ _ _ _ _ _ _ = e at h
  cases he : e == 0 with
  | false => rw [he] at h; simp only [cond_false] at h; subst h; cases he
  | true =>
    rw [he, cond_true] at h
    cases hb : decide (i < 0) with
    | true => rw [hb] at h; cases h
    | false =>
      rw [hb, cond_false] at h
      cases hc : decide (j <= i) with
      | true => rw [hc] at h; cases h
      | false => have := of_decide_eq_false hb; have := of_decide_eq_false hc; omega
end
end
end Go.Dx
namespace Go.Dx
open Go.IntKind (i64 u64 u8)
open Go.Sx Go.Proofs
set_option maxRecDepth 100000
set_option linter.unusedVariables false
set_option linter.unusedSimpArgs false
noncomputable section
def ctB15 : CTab := (50, .con C50) :: ctB14
theorem tabB15 : TabOk Tryz.prog eqs its ctB15 := .con ok50 (tabB14)
attribute [local irreducible] F44 F50_0 F91_0
end
end Go.Dx
namespace Go.Dx
open Go.IntKind (i64 u64 u8)
open Go.Sx Go.Proofs
set_option maxRecDepth 100000
set_option linter.unusedVariables false
set_option linter.unusedSimpArgs false
noncomputable section
def ctB16 : CTab := ctB15
theorem tabB16 : TabOk Tryz.prog eqs its ctB16 := tabB15
def m140 (x0 x1 x2 x3 : Int) : RT Empty := .br (x0 != x2) (.ret (V.int i64 (i64.wrap (x0 - x2)))) (.ret (V.int i64 (i64.wrap (x1 - x3))))
def rl140 (x0 x1 x2 x3 : Int) : T (Leaf (Nat × Nat)) := runL (Nat × Nat) ctB16 u0 s140 [V.agg [V.int i64 x0, V.int i64 x1], V.agg [V.int i64 x2, V.int i64 x3]]
theorem f140m (x0 x1 x2 x3 : Int) : fitT noD (rl140 x0 x1 x2 x3) (m140 x0 x1 x2 x3) = toF noD (m140 x0 x1 x2 x3) := by kernel_rfl
theorem q140m (x0 x1 x2 x3 : Int) : sameT (rl140 x0 x1 x2 x3) (m140 x0 x1 x2 x3) = (rl140 x0 x1 x2 x3) := by kernel_rfl
theorem run140 (w0 : World) (x0 x1 x2 x3 : Int) {r : V} (h : evR noE (m140 x0 x1 x2 x3) r) : sat (LPof w0 (SV ctB16)) (runL (Nat × Nat) ctB16 u0 s140 [V.agg [V.int i64 x0, V.int i64 x1], V.agg [V.int i64 x2, V.int i64 x3]]) (topQ r) := run_ev0 (by kernel_rfl) _ (f140m x0 x1 x2 x3) (q140m x0 x1 x2 x3) h
def F140_0 (x0 x1 x2 x3 : Int) : Int := bif x0 != x2 then i64.wrap (x0 - x2) else i64.wrap (x1 - x3)
def R140 (x0 x1 x2 x3 : Int) : V := .int i64 (F140_0 x0 x1 x2 x3)
theorem ev140 (x0 x1 x2 x3 : Int) : evR noE (m140 x0 x1 x2 x3) (R140 x0 x1 x2 x3) := evBr (fun h0 => evRet (by unfold R140 F140_0; try rw [h0]; rfl)) (fun h0 => evRet (by unfold R140 F140_0; try rw [h0]; rfl))
def C140 : PCon := mkC [.agg [.int .i64, .int .i64], .agg [.int .i64, .int .i64]] (fun _ => True) fun
  | [.agg [.int _ x0, .int _ x1], .agg [.int _ x2, .int _ x3]] => R140 x0 x1 x2 x3
  | _ => .any
theorem ok140 : (vP C140).Ok Tryz.prog 140 := mkC_ev (J := Nat × Nat) (un := u0) tabB16 hE hI Tryz.func140 (by kernel_rfl) (by kernel_rfl) (by kernel_rfl) rfl (fun w0 ds hp => run140 w0 _ _ _ _ (ev140 _ _ _ _))
def m49 (x0 x1 x2 x3 x4 x5 x6 x7 : Int) (b8 : Bool) (x9 x10 : Int) : RT Empty := .obi (.br (!b8) (.ob (!b8) (.ob (!b8) (.ob (!b8) (.obc (.obt (.obc (.obt (.obc (.obt (.ret (V.bool (F103_0 (F102_0 x0 x2 x9 x3) (F102_1 x1 x2 x10 x3) (F102_0 x0 x2 x9 x4) (F102_1 x1 x2 x10 x4) x5 x6 x7)))))))))))) (.ret (V.kb false)))
def rl49 (x0 x1 x2 x3 x4 x5 x6 x7 : Int) (b8 : Bool) (x9 x10 : Int) : T (Leaf (Nat × Nat)) := runL (Nat × Nat) ctB16 u0 s49 [V.agg [V.int i64 x0, V.int i64 x1, V.int i64 x2, V.int i64 x3, V.int i64 x4, V.int i64 x5, V.int i64 x6, V.int i64 x7, V.bool b8], V.agg [V.int i64 x9, V.int i64 x10]]
theorem f49m (x0 x1 x2 x3 x4 x5 x6 x7 : Int) (b8 : Bool) (x9 x10 : Int) : fitT noD (rl49 x0 x1 x2 x3 x4 x5 x6 x7 b8 x9 x10) (m49 x0 x1 x2 x3 x4 x5 x6 x7 b8 x9 x10) = toF noD (m49 x0 x1 x2 x3 x4 x5 x6 x7 b8 x9 x10) := by kernel_rfl
theorem q49m (x0 x1 x2 x3 x4 x5 x6 x7 : Int) (b8 : Bool) (x9 x10 : Int) : sameT (rl49 x0 x1 x2 x3 x4 x5 x6 x7 b8 x9 x10) (m49 x0 x1 x2 x3 x4 x5 x6 x7 b8 x9 x10) = (rl49 x0 x1 x2 x3 x4 x5 x6 x7 b8 x9 x10) := by kernel_rfl
theorem run49 (w0 : World) (x0 x1 x2 x3 x4 x5 x6 x7 : Int) (b8 : Bool) (x9 x10 : Int) {r : V} (h : evR noE (m49 x0 x1 x2 x3 x4 x5 x6 x7 b8 x9 x10) r) : sat (LPof w0 (SV ctB16)) (runL (Nat × Nat) ctB16 u0 s49 [V.agg [V.int i64 x0, V.int i64 x1, V.int i64 x2, V.int i64 x3, V.int i64 x4, V.int i64 x5, V.int i64 x6, V.int i64 x7, V.bool b8], V.agg [V.int i64 x9, V.int i64 x10]]) (topQ r) := run_ev0 (by kernel_rfl) _ (f49m x0 x1 x2 x3 x4 x5 x6 x7 b8 x9 x10) (q49m x0 x1 x2 x3 x4 x5 x6 x7 b8 x9 x10) h
def F49_0 (x0 x1 x2 x3 x4 x5 x6 x7 : Int) (b8 : Bool) (x9 x10 : Int) : Bool := bif !b8 then F103_0 (F102_0 x0 x2 x9 x3) (F102_1 x1 x2 x10 x3) (F102_0 x0 x2 x9 x4) (F102_1 x1 x2 x10 x4) x5 x6 x7 else false
def R49 (x0 x1 x2 x3 x4 x5 x6 x7 : Int) (b8 : Bool) (x9 x10 : Int) : V := .bool (F49_0 x0 x1 x2 x3 x4 x5 x6 x7 b8 x9 x10)
theorem ev49 (x0 x1 x2 x3 x4 x5 x6 x7 : Int) (b8 : Bool) (x9 x10 : Int) : evR noE (m49 x0 x1 x2 x3 x4 x5 x6 x7 b8 x9 x10) (R49 x0 x1 x2 x3 x4 x5 x6 x7 b8 x9 x10) := evObi (evBr (fun h0 => evOb (by first | assumption | (fail)) (evOb (by first | assumption | (fail)) (evOb (by first | assumption | (fail)) (evObc (evObt (evObc (evObt (evObc (evObt (evRet (by unfold R49 F49_0; try rw [h0]; rfl))))))))))) (fun h0 => evRet (by unfold R49 F49_0; try rw [h0]; rfl)))
def C49 : PCon := mkC [.agg [.int .i64, .int .i64, .int .i64, .int .i64, .int .i64, .int .i64, .int .i64, .int .i64, .bool], .agg [.int .i64, .int .i64]] (fun _ => True) fun
  | [.agg [.int _ x0, .int _ x1, .int _ x2, .int _ x3, .int _ x4, .int _ x5, .int _ x6, .int _ x7, .bool b8], .agg [.int _ x9, .int _ x10]] => R49 x0 x1 x2 x3 x4 x5 x6 x7 b8 x9 x10
  | _ => .any
theorem ok49 : (vP C49).Ok Tryz.prog 49 := mkC_ev (J := Nat × Nat) (un := u0) tabB16 hE hI Tryz.func49 (by kernel_rfl) (by kernel_rfl) (by kernel_rfl) rfl (fun w0 ds hp => run49 w0 _ _ _ _ _ _ _ _ _ _ _ (ev49 _ _ _ _ _ _ _ _ _ _ _))
def m123 (x0 x1 x2 x3 x4 x5 x6 : Int) : RT Empty := .obc (.obt (.ret (V.bool (F103_0 x0 x1 x2 x3 (i64.wrap (2 * x5)) (i64.wrap (2 * x6)) x4))))
def rl123 (x0 x1 x2 x3 x4 x5 x6 : Int) : T (Leaf (Nat × Nat)) := runL (Nat × Nat) ctB16 u0 s123 [V.agg [V.int i64 x0, V.int i64 x1, V.int i64 x2, V.int i64 x3, V.int i64 x4], V.int i64 x5, V.int i64 x6]
theorem f123m (x0 x1 x2 x3 x4 x5 x6 : Int) : fitT noD (rl123 x0 x1 x2 x3 x4 x5 x6) (m123 x0 x1 x2 x3 x4 x5 x6) = toF noD (m123 x0 x1 x2 x3 x4 x5 x6) := by kernel_rfl
theorem q123m (x0 x1 x2 x3 x4 x5 x6 : Int) : sameT (rl123 x0 x1 x2 x3 x4 x5 x6) (m123 x0 x1 x2 x3 x4 x5 x6) = (rl123 x0 x1 x2 x3 x4 x5 x6) := by kernel_rfl
theorem run123 (w0 : World) (x0 x1 x2 x3 x4 x5 x6 : Int) {r : V} (h : evR noE (m123 x0 x1 x2 x3 x4 x5 x6) r) : sat (LPof w0 (SV ctB16)) (runL (Nat × Nat) ctB16 u0 s123 [V.agg [V.int i64 x0, V.int i64 x1, V.int i64 x2, V.int i64 x3, V.int i64 x4], V.int i64 x5, V.int i64 x6]) (topQ r) := run_ev0 (by kernel_rfl) _ (f123m x0 x1 x2 x3 x4 x5 x6) (q123m x0 x1 x2 x3 x4 x5 x6) h
def F123_0 (x0 x1 x2 x3 x4 x5 x6 : Int) : Bool := F103_0 x0 x1 x2 x3 (i64.wrap (2 * x5)) (i64.wrap (2 * x6)) x4
def R123 (x0 x1 x2 x3 x4 x5 x6 : Int) : V := .bool (F123_0 x0 x1 x2 x3 x4 x5 x6)
theorem ev123 (x0 x1 x2 x3 x4 x5 x6 : Int) : evR noE (m123 x0 x1 x2 x3 x4 x5 x6) (R123 x0 x1 x2 x3 x4 x5 x6) := evObc (evObt (evRet (by unfold R123 F123_0; rfl)))
def C123 : PCon := mkC [.agg tyT, .int .i64, .int .i64] (fun _ => True) fun
  | [.agg [.int _ x0, .int _ x1, .int _ x2, .int _ x3, .int _ x4], .int _ x5, .int _ x6] => R123 x0 x1 x2 x3 x4 x5 x6
  | _ => .any
theorem ok123 : (vP C123).Ok Tryz.prog 123 := mkC_ev (J := Nat × Nat) (un := u0) tabB16 hE hI Tryz.func123 (by kernel_rfl) (by kernel_rfl) (by kernel_rfl) rfl (fun w0 ds hp => run123 w0 _ _ _ _ _ _ _ (ev123 _ _ _ _ _ _ _))
def m124 (s0 : ByteArray) (x1 : Int) (n2 : Nat) (f2 : FnV) (x4 x5 x6 x7 : Int) : RT Empty := .obp ((0 : Int) <= x5 /\ i64.wrap (x5 + (1 : Int)) = x5 + (1 : Int) /\ x5 + (1 : Int) < (↑n2 : Int)) (.obt (.obc (.obt (.ret (V.bool (F106_0 x6 x7 (F150_0 (elV [Ty.int i64, Ty.int i64] f2) x5) (F150_1 (elV [Ty.int i64, Ty.int i64] f2) x5) (F150_2 (elV [Ty.int i64, Ty.int i64] f2) x5) (F150_3 (elV [Ty.int i64, Ty.int i64] f2) x5) x4))))))
def rl124 (s0 : ByteArray) (x1 : Int) (n2 : Nat) (f2 : FnV) (x4 x5 x6 x7 : Int) : T (Leaf (Nat × Nat)) := runL (Nat × Nat) ctB16 u0 s124 [V.agg [V.str s0, V.int i64 x1, V.sl n2 (elV [Ty.int i64, Ty.int i64] f2), V.int i64 x4], V.int i64 x5, V.agg [V.int i64 x6, V.int i64 x7]]
theorem f124m (s0 : ByteArray) (x1 : Int) (n2 : Nat) (f2 : FnV) (x4 x5 x6 x7 : Int) : fitT noD (rl124 s0 x1 n2 f2 x4 x5 x6 x7) (m124 s0 x1 n2 f2 x4 x5 x6 x7) = toF noD (m124 s0 x1 n2 f2 x4 x5 x6 x7) := by kernel_rfl
theorem q124m (s0 : ByteArray) (x1 : Int) (n2 : Nat) (f2 : FnV) (x4 x5 x6 x7 : Int) : sameT (rl124 s0 x1 n2 f2 x4 x5 x6 x7) (m124 s0 x1 n2 f2 x4 x5 x6 x7) = (rl124 s0 x1 n2 f2 x4 x5 x6 x7) := by kernel_rfl
theorem run124 (w0 : World) (s0 : ByteArray) (x1 : Int) (n2 : Nat) (f2 : FnV) (x4 x5 x6 x7 : Int) {r : V} (h : evR noE (m124 s0 x1 n2 f2 x4 x5 x6 x7) r) : sat (LPof w0 (SV ctB16)) (runL (Nat × Nat) ctB16 u0 s124 [V.agg [V.str s0, V.int i64 x1, V.sl n2 (elV [Ty.int i64, Ty.int i64] f2), V.int i64 x4], V.int i64 x5, V.agg [V.int i64 x6, V.int i64 x7]]) (topQ r) := run_ev0 (by kernel_rfl) _ (f124m s0 x1 n2 f2 x4 x5 x6 x7) (q124m s0 x1 n2 f2 x4 x5 x6 x7) h
def F124_0 (f2 : FnV) (x4 x5 x6 x7 : Int) : Bool := F106_0 x6 x7 (F150_0 (elV [Ty.int i64, Ty.int i64] f2) x5) (F150_1 (elV [Ty.int i64, Ty.int i64] f2) x5) (F150_2 (elV [Ty.int i64, Ty.int i64] f2) x5) (F150_3 (elV [Ty.int i64, Ty.int i64] f2) x5) x4
def R124 (s0 : ByteArray) (x1 : Int) (n2 : Nat) (f2 : FnV) (x4 x5 x6 x7 : Int) : V := .bool (F124_0 f2 x4 x5 x6 x7)
theorem ev124 (s0 : ByteArray) (x1 : Int) (n2 : Nat) (f2 : FnV) (x4 x5 x6 x7 : Int) (hp : 0 <= x5 /\ i64.wrap (x5 + 1) = x5 + 1 /\ x5 + 1 < (n2 : Int)) : evR noE (m124 s0 x1 n2 f2 x4 x5 x6 x7) (R124 s0 x1 n2 f2 x4 x5 x6 x7) := evObp (by first | assumption | (first | exact hp | (intro h; cases h))) (evObt (evObc (evObt (evRet (by unfold R124 F124_0; rfl)))))
def C124 : PCon := mkC [.agg tyR, .int .i64, .agg [.int .i64, .int .i64]] (fun
  | [.agg [.str s0, .int _ x1, .sl n2 f2, .int _ x4], .int _ x5, .agg [.int _ x6, .int _ x7]] => 0 <= x5 /\ i64.wrap (x5 + 1) = x5 + 1 /\ x5 + 1 < (n2 : Int)
  | _ => False) fun
  | [.agg [.str s0, .int _ x1, .sl n2 f2, .int _ x4], .int _ x5, .agg [.int _ x6, .int _ x7]] => R124 s0 x1 n2 f2 x4 x5 x6 x7
  | _ => .any
theorem ok124 : (vP C124).Ok Tryz.prog 124 := mkC_ev (J := Nat × Nat) (un := u0) tabB16 hE hI Tryz.func124 (by kernel_rfl) (by kernel_rfl) (by kernel_rfl) rfl (fun w0 ds hp => run124 w0 _ _ _ _ _ _ _ _ (ev124 _ _ _ _ _ _ _ _ hp))
end
end Go.Dx
namespace Go.Dx
open Go.IntKind (i64 u64 u8)
open Go.Sx Go.Proofs
set_option maxRecDepth 100000
set_option linter.unusedVariables false
set_option linter.unusedSimpArgs false
noncomputable section
def ctB16a : CTab := (140, .con C140) :: (49, .con C49) :: (123, .con C123) :: (124, .con C124) :: ctB16
theorem tabB16a : TabOk Tryz.prog eqs its ctB16a := .con ok140 (.con ok49 (.con ok123 (.con ok124 (tabB16))))
def u5 : Unr := fun _ => 5
def m145 (x0 x1 x2 x3 x4 x5 x6 x7 x8 : Int) : RT Empty := .obi (.obi (.obi (.obi (.obi (.obi (.obi (.obi (.obi (.obi (.obi (.obi (.obi (.obi (.obi (.obi (.obi (.obi (.obi (.obi (.obi (.obi (.obi (.obi (.obi (.obi (.obi (.obi (.obi (.obi (.obi (.obi (.obi (.obi (.obi (.obi (.obi (.obi (.obi (.br (bif bif bif decide (max x0 x2 < i64.wrap (2 * x5)) then true else decide (i64.wrap (2 * x7) < min x0 x2) then true else decide (max x1 x3 < i64.wrap (2 * x6)) then true else decide (i64.wrap (2 * x8) < min x1 x3)) (.ret (V.kb false)) (.obc (.obt (.brt (.obt (.obc (.obt (.obc (.obt (.brt (.obt (.obc (.obt (.obc (.obt (.obi (.obi (.obi (.obi (.brt (.obt (.obc (.obt (.obc (.obt (.obi (.obi (.obi (.obi (.brt (.obt (.obc (.obt (.obc (.obt (.obi (.obi (.obi (.obi (.brf (.obi (.ret (V.bool (bif bif bif bif decide (0 <= F78_0 x0 x1 x2 x3 (F101_0 x5 2) (F101_1 x6 2)) then true else decide (0 <= F78_0 x0 x1 x2 x3 (F101_0 x7 2) (F101_1 x6 2)) then true else decide (0 <= F78_0 x0 x1 x2 x3 (F101_0 x7 2) (F101_1 x8 2)) then true else decide (0 <= F78_0 x0 x1 x2 x3 (F101_0 x5 2) (F101_1 x8 2)) then bif bif bif decide (F78_0 x0 x1 x2 x3 (F101_0 x5 2) (F101_1 x6 2) <= 0) then true else decide (F78_0 x0 x1 x2 x3 (F101_0 x7 2) (F101_1 x6 2) <= 0) then true else decide (F78_0 x0 x1 x2 x3 (F101_0 x7 2) (F101_1 x8 2) <= 0) then true else decide (F78_0 x0 x1 x2 x3 (F101_0 x5 2) (F101_1 x8 2) <= 0) else false))))))))))))))))))))))))))))))))))))))))))))))))))))))))))))))))))))))))))))))))))
def rl145 (x0 x1 x2 x3 x4 x5 x6 x7 x8 : Int) : T (Leaf (Nat × Nat)) := runL (Nat × Nat) ctB16a u5 s145 [V.agg [V.int i64 x0, V.int i64 x1, V.int i64 x2, V.int i64 x3, V.int i64 x4], V.agg [V.int i64 x5, V.int i64 x6, V.int i64 x7, V.int i64 x8]]
theorem f145m (x0 x1 x2 x3 x4 x5 x6 x7 x8 : Int) : fitT noD (rl145 x0 x1 x2 x3 x4 x5 x6 x7 x8) (m145 x0 x1 x2 x3 x4 x5 x6 x7 x8) = toF noD (m145 x0 x1 x2 x3 x4 x5 x6 x7 x8) := by kernel_rfl
theorem q145m (x0 x1 x2 x3 x4 x5 x6 x7 x8 : Int) : sameT (rl145 x0 x1 x2 x3 x4 x5 x6 x7 x8) (m145 x0 x1 x2 x3 x4 x5 x6 x7 x8) = (rl145 x0 x1 x2 x3 x4 x5 x6 x7 x8) := by kernel_rfl
theorem run145 (w0 : World) (x0 x1 x2 x3 x4 x5 x6 x7 x8 : Int) {r : V} (h : evR noE (m145 x0 x1 x2 x3 x4 x5 x6 x7 x8) r) : sat (LPof w0 (SV ctB16a)) (runL (Nat × Nat) ctB16a u5 s145 [V.agg [V.int i64 x0, V.int i64 x1, V.int i64 x2, V.int i64 x3, V.int i64 x4], V.agg [V.int i64 x5, V.int i64 x6, V.int i64 x7, V.int i64 x8]]) (topQ r) := run_ev0 (by kernel_rfl) _ (f145m x0 x1 x2 x3 x4 x5 x6 x7 x8) (q145m x0 x1 x2 x3 x4 x5 x6 x7 x8) h
def F145_0 (x0 x1 x2 x3 x5 x6 x7 x8 : Int) : Bool := bif bif bif bif decide (max x0 x2 < i64.wrap (2 * x5)) then true else decide (i64.wrap (2 * x7) < min x0 x2) then true else decide (max x1 x3 < i64.wrap (2 * x6)) then true else decide (i64.wrap (2 * x8) < min x1 x3) then false else bif bif bif bif decide (0 <= F78_0 x0 x1 x2 x3 (F101_0 x5 2) (F101_1 x6 2)) then true else decide (0 <= F78_0 x0 x1 x2 x3 (F101_0 x7 2) (F101_1 x6 2)) then true else decide (0 <= F78_0 x0 x1 x2 x3 (F101_0 x7 2) (F101_1 x8 2)) then true else decide (0 <= F78_0 x0 x1 x2 x3 (F101_0 x5 2) (F101_1 x8 2)) then bif bif bif decide (F78_0 x0 x1 x2 x3 (F101_0 x5 2) (F101_1 x6 2) <= 0) then true else decide (F78_0 x0 x1 x2 x3 (F101_0 x7 2) (F101_1 x6 2) <= 0) then true else decide (F78_0 x0 x1 x2 x3 (F101_0 x7 2) (F101_1 x8 2) <= 0) then true else decide (F78_0 x0 x1 x2 x3 (F101_0 x5 2) (F101_1 x8 2) <= 0) else false
def R145 (x0 x1 x2 x3 x4 x5 x6 x7 x8 : Int) : V := .bool (F145_0 x0 x1 x2 x3 x5 x6 x7 x8)
theorem ev145 (x0 x1 x2 x3 x4 x5 x6 x7 x8 : Int) : evR noE (m145 x0 x1 x2 x3 x4 x5 x6 x7 x8) (R145 x0 x1 x2 x3 x4 x5 x6 x7 x8) := evObi (evObi (evObi (evObi (evObi (evObi (evObi (evObi (evObi (evObi (evObi (evObi (evObi (evObi (evObi (evObi (evObi (evObi (evObi (evObi (evObi (evObi (evObi (evObi (evObi (evObi (evObi (evObi (evObi (evObi (evObi (evObi (evObi (evObi (evObi (evObi (evObi (evObi (evObi (evBr (fun h0 => evRet (by unfold R145 F145_0; try rw [h0]; rfl)) (fun h0 => evObc (evObt (evBrt (evObt (evObc (evObt (evObc (evObt (evBrt (evObt (evObc (evObt (evObc (evObt (evObi (evObi (evObi (evObi (evBrt (evObt (evObc (evObt (evObc (evObt (evObi (evObi (evObi (evObi (evBrt (evObt (evObc (evObt (evObc (evObt (evObi (evObi (evObi (evObi (evBrf (evObi (evRet (by unfold R145 F145_0; try rw [h0]; rfl)))))))))))))))))))))))))))))))))))))))))))))))))))))))))))))))))))))))))))))))))
def C145 : PCon := mkC [.agg tyT, .agg [.int .i64, .int .i64, .int .i64, .int .i64]] (fun _ => True) fun
  | [.agg [.int _ x0, .int _ x1, .int _ x2, .int _ x3, .int _ x4], .agg [.int _ x5, .int _ x6, .int _ x7, .int _ x8]] => R145 x0 x1 x2 x3 x4 x5 x6 x7 x8
  | _ => .any
theorem ok145 : (vP C145).Ok Tryz.prog 145 := mkC_ev (J := Nat × Nat) (un := u5) tabB16a hE hI Tryz.func145 (by kernel_rfl) (by kernel_rfl) (by kernel_rfl) rfl (fun w0 ds hp => run145 w0 _ _ _ _ _ _ _ _ _ (ev145 _ _ _ _ _ _ _ _ _))
end
end Go.Dx
namespace Go.Dx
open Go.IntKind (i64 u64 u8)
open Go.Sx Go.Proofs
set_option maxRecDepth 100000
set_option linter.unusedVariables false
set_option linter.unusedSimpArgs false
noncomputable section
def ctB16b : CTab := (145, .con C145) :: ctB16a
theorem tabB16b : TabOk Tryz.prog eqs its ctB16b := .con ok145 (tabB16a)
def m111 (x0 x1 x2 x3 x4 x5 x6 x7 x8 : Int) : RT Empty := .obc (.obt (.brt (.obt (.obc (.obt (.br (F123_0 x0 x1 x2 x3 x4 x5 x6) (.brt (.obt (.obc (.obt (.br (F123_0 x0 x1 x2 x3 x4 x7 x6) (.brt (.obt (.obc (.obt (.br (F123_0 x0 x1 x2 x3 x4 x7 x8) (.brt (.obt (.obc (.obt (.br (F123_0 x0 x1 x2 x3 x4 x5 x8) (.brf (.brt (.ret (V.int i64 2)))) (.brf (.brf (.brt (.ret (V.int i64 1)))))))))) (.brt (.obt (.obc (.obt (.br (F123_0 x0 x1 x2 x3 x4 x5 x8) (.brf (.brf (.brt (.ret (V.int i64 1))))) (.brf (.brf (.brt (.ret (V.int i64 1))))))))))))))) (.brt (.obt (.obc (.obt (.br (F123_0 x0 x1 x2 x3 x4 x7 x8) (.brt (.obt (.obc (.obt (.br (F123_0 x0 x1 x2 x3 x4 x5 x8) (.brf (.brf (.brt (.ret (V.int i64 1))))) (.brf (.brf (.brt (.ret (V.int i64 1)))))))))) (.brt (.obt (.obc (.obt (.br (F123_0 x0 x1 x2 x3 x4 x5 x8) (.brf (.brf (.brt (.ret (V.int i64 1))))) (.brf (.brf (.brt (.ret (V.int i64 1)))))))))))))))))))) (.brt (.obt (.obc (.obt (.br (F123_0 x0 x1 x2 x3 x4 x7 x6) (.brt (.obt (.obc (.obt (.br (F123_0 x0 x1 x2 x3 x4 x7 x8) (.brt (.obt (.obc (.obt (.br (F123_0 x0 x1 x2 x3 x4 x5 x8) (.brf (.brf (.brt (.ret (V.int i64 1))))) (.brf (.brf (.brt (.ret (V.int i64 1)))))))))) (.brt (.obt (.obc (.obt (.br (F123_0 x0 x1 x2 x3 x4 x5 x8) (.brf (.brf (.brt (.ret (V.int i64 1))))) (.brf (.brf (.brt (.ret (V.int i64 1))))))))))))))) (.brt (.obt (.obc (.obt (.br (F123_0 x0 x1 x2 x3 x4 x7 x8) (.brt (.obt (.obc (.obt (.br (F123_0 x0 x1 x2 x3 x4 x5 x8) (.brf (.brf (.brt (.ret (V.int i64 1))))) (.brf (.brf (.brt (.ret (V.int i64 1)))))))))) (.brt (.obt (.obc (.obt (.br (F123_0 x0 x1 x2 x3 x4 x5 x8) (.brf (.brf (.brt (.ret (V.int i64 1))))) (.brf (.brf (.brf (.brt (.obt (.obc (.obt (.br (decide (F85_0 (max (max (i64.wrap (i64.wrap (2 * x5) - x0)) 0) (i64.wrap (x0 - i64.wrap (2 * x7)))) (max (max (i64.wrap (i64.wrap (2 * x6) - x1)) 0) (i64.wrap (x1 - i64.wrap (2 * x8)))) (max (max (i64.wrap (i64.wrap (2 * x5) - x0)) 0) (i64.wrap (x0 - i64.wrap (2 * x7)))) (max (max (i64.wrap (i64.wrap (2 * x6) - x1)) 0) (i64.wrap (x1 - i64.wrap (2 * x8)))) <= i64.wrap (x4 * x4))) (.ret (V.int i64 1)) (.brt (.obt (.obc (.obt (.br (decide (F85_0 (max (max (i64.wrap (i64.wrap (2 * x5) - x2)) 0) (i64.wrap (x2 - i64.wrap (2 * x7)))) (max (max (i64.wrap (i64.wrap (2 * x6) - x3)) 0) (i64.wrap (x3 - i64.wrap (2 * x8)))) (max (max (i64.wrap (i64.wrap (2 * x5) - x2)) 0) (i64.wrap (x2 - i64.wrap (2 * x7)))) (max (max (i64.wrap (i64.wrap (2 * x6) - x3)) 0) (i64.wrap (x3 - i64.wrap (2 * x8)))) <= i64.wrap (x4 * x4))) (.ret (V.int i64 1)) (.brf (.obc (.obt (.br (F145_0 x0 x1 x2 x3 x5 x6 x7 x8) (.ret (V.int i64 1)) (.ret (V.int i64 0))))))))))))))))))))))))))))))))))))))))
def rl111 (x0 x1 x2 x3 x4 x5 x6 x7 x8 : Int) : T (Leaf (Nat × Nat)) := runL (Nat × Nat) ctB16b u5 s111 [V.agg [V.int i64 x0, V.int i64 x1, V.int i64 x2, V.int i64 x3, V.int i64 x4], V.agg [V.int i64 x5, V.int i64 x6, V.int i64 x7, V.int i64 x8]]
theorem f111m (x0 x1 x2 x3 x4 x5 x6 x7 x8 : Int) : fitT noD (rl111 x0 x1 x2 x3 x4 x5 x6 x7 x8) (m111 x0 x1 x2 x3 x4 x5 x6 x7 x8) = toF noD (m111 x0 x1 x2 x3 x4 x5 x6 x7 x8) := by kernel_rfl
theorem q111m (x0 x1 x2 x3 x4 x5 x6 x7 x8 : Int) : sameT (rl111 x0 x1 x2 x3 x4 x5 x6 x7 x8) (m111 x0 x1 x2 x3 x4 x5 x6 x7 x8) = (rl111 x0 x1 x2 x3 x4 x5 x6 x7 x8) := by kernel_rfl
theorem run111 (w0 : World) (x0 x1 x2 x3 x4 x5 x6 x7 x8 : Int) {r : V} (h : evR noE (m111 x0 x1 x2 x3 x4 x5 x6 x7 x8) r) : sat (LPof w0 (SV ctB16b)) (runL (Nat × Nat) ctB16b u5 s111 [V.agg [V.int i64 x0, V.int i64 x1, V.int i64 x2, V.int i64 x3, V.int i64 x4], V.agg [V.int i64 x5, V.int i64 x6, V.int i64 x7, V.int i64 x8]]) (topQ r) := run_ev0 (by kernel_rfl) _ (f111m x0 x1 x2 x3 x4 x5 x6 x7 x8) (q111m x0 x1 x2 x3 x4 x5 x6 x7 x8) h
def F111_0 (x0 x1 x2 x3 x4 x5 x6 x7 x8 : Int) : Int := bif F123_0 x0 x1 x2 x3 x4 x5 x6 then bif F123_0 x0 x1 x2 x3 x4 x7 x6 then bif F123_0 x0 x1 x2 x3 x4 x7 x8 then bif F123_0 x0 x1 x2 x3 x4 x5 x8 then 2 else 1 else 1 else 1 else bif F123_0 x0 x1 x2 x3 x4 x7 x6 then 1 else bif F123_0 x0 x1 x2 x3 x4 x7 x8 then 1 else bif F123_0 x0 x1 x2 x3 x4 x5 x8 then 1 else bif decide (F85_0 (max (max (i64.wrap (i64.wrap (2 * x5) - x0)) 0) (i64.wrap (x0 - i64.wrap (2 * x7)))) (max (max (i64.wrap (i64.wrap (2 * x6) - x1)) 0) (i64.wrap (x1 - i64.wrap (2 * x8)))) (max (max (i64.wrap (i64.wrap (2 * x5) - x0)) 0) (i64.wrap (x0 - i64.wrap (2 * x7)))) (max (max (i64.wrap (i64.wrap (2 * x6) - x1)) 0) (i64.wrap (x1 - i64.wrap (2 * x8)))) <= i64.wrap (x4 * x4)) then 1 else bif decide (F85_0 (max (max (i64.wrap (i64.wrap (2 * x5) - x2)) 0) (i64.wrap (x2 - i64.wrap (2 * x7)))) (max (max (i64.wrap (i64.wrap (2 * x6) - x3)) 0) (i64.wrap (x3 - i64.wrap (2 * x8)))) (max (max (i64.wrap (i64.wrap (2 * x5) - x2)) 0) (i64.wrap (x2 - i64.wrap (2 * x7)))) (max (max (i64.wrap (i64.wrap (2 * x6) - x3)) 0) (i64.wrap (x3 - i64.wrap (2 * x8)))) <= i64.wrap (x4 * x4)) then 1 else bif F145_0 x0 x1 x2 x3 x5 x6 x7 x8 then 1 else 0
def R111 (x0 x1 x2 x3 x4 x5 x6 x7 x8 : Int) : V := .int i64 (F111_0 x0 x1 x2 x3 x4 x5 x6 x7 x8)
theorem ev111 (x0 x1 x2 x3 x4 x5 x6 x7 x8 : Int) : evR noE (m111 x0 x1 x2 x3 x4 x5 x6 x7 x8) (R111 x0 x1 x2 x3 x4 x5 x6 x7 x8) := evObc (evObt (evBrt (evObt (evObc (evObt (evBr (fun h0 => evBrt (evObt (evObc (evObt (evBr (fun h1 => evBrt (evObt (evObc (evObt (evBr (fun h2 => evBrt (evObt (evObc (evObt (evBr (fun h3 => evBrf (evBrt (evRet (by unfold R111 F111_0; try rw [h0]; try rw [h1]; try rw [h2]; try rw [h3]; rfl)))) (fun h3 => evBrf (evBrf (evBrt (evRet (by unfold R111 F111_0; try rw [h0]; try rw [h1]; try rw [h2]; try rw [h3]; rfl)))))))))) (fun h2 => evBrt (evObt (evObc (evObt (evBr (fun h3 => evBrf (evBrf (evBrt (evRet (by unfold R111 F111_0; try rw [h0]; try rw [h1]; try rw [h2]; try rw [h3]; rfl))))) (fun h3 => evBrf (evBrf (evBrt (evRet (by unfold R111 F111_0; try rw [h0]; try rw [h1]; try rw [h2]; try rw [h3]; rfl))))))))))))))) (fun h1 => evBrt (evObt (evObc (evObt (evBr (fun h2 => evBrt (evObt (evObc (evObt (evBr (fun h3 => evBrf (evBrf (evBrt (evRet (by unfold R111 F111_0; try rw [h0]; try rw [h1]; try rw [h2]; try rw [h3]; rfl))))) (fun h3 => evBrf (evBrf (evBrt (evRet (by unfold R111 F111_0; try rw [h0]; try rw [h1]; try rw [h2]; try rw [h3]; rfl)))))))))) (fun h2 => evBrt (evObt (evObc (evObt (evBr (fun h3 => evBrf (evBrf (evBrt (evRet (by unfold R111 F111_0; try rw [h0]; try rw [h1]; try rw [h2]; try rw [h3]; rfl))))) (fun h3 => evBrf (evBrf (evBrt (evRet (by unfold R111 F111_0; try rw [h0]; try rw [h1]; try rw [h2]; try rw [h3]; rfl)))))))))))))))))))) (fun h0 => evBrt (evObt (evObc (evObt (evBr (fun h1 => evBrt (evObt (evObc (evObt (evBr (fun h2 => evBrt (evObt (evObc (evObt (evBr (fun h3 => evBrf (evBrf (evBrt (evRet (by unfold R111 F111_0; try rw [h0]; try rw [h1]; try rw [h2]; try rw [h3]; rfl))))) (fun h3 => evBrf (evBrf (evBrt (evRet (by unfold R111 F111_0; try rw [h0]; try rw [h1]; try rw [h2]; try rw [h3]; rfl)))))))))) (fun h2 => evBrt (evObt (evObc (evObt (evBr (fun h3 => evBrf (evBrf (evBrt (evRet (by unfold R111 F111_0; try rw [h0]; try rw [h1]; try rw [h2]; try rw [h3]; rfl))))) (fun h3 => evBrf (evBrf (evBrt (evRet (by unfold R111 F111_0; try rw [h0]; try rw [h1]; try rw [h2]; try rw [h3]; rfl))))))))))))))) (fun h1 => evBrt (evObt (evObc (evObt (evBr (fun h2 => evBrt (evObt (evObc (evObt (evBr (fun h3 => evBrf (evBrf (evBrt (evRet (by unfold R111 F111_0; try rw [h0]; try rw [h1]; try rw [h2]; try rw [h3]; rfl))))) (fun h3 => evBrf (evBrf (evBrt (evRet (by unfold R111 F111_0; try rw [h0]; try rw [h1]; try rw [h2]; try rw [h3]; rfl)))))))))) (fun h2 => evBrt (evObt (evObc (evObt (evBr (fun h3 => evBrf (evBrf (evBrt (evRet (by unfold R111 F111_0; try rw [h0]; try rw [h1]; try rw [h2]; try rw [h3]; rfl))))) (fun h3 => evBrf (evBrf (evBrf (evBrt (evObt (evObc (evObt (evBr (fun h4 => evRet (by unfold R111 F111_0; try rw [h0]; try rw [h1]; try rw [h2]; try rw [h3]; try rw [h4]; rfl)) (fun h4 => evBrt (evObt (evObc (evObt (evBr (fun h5 => evRet (by unfold R111 F111_0; try rw [h0]; try rw [h1]; try rw [h2]; try rw [h3]; try rw [h4]; try rw [h5]; rfl)) (fun h5 => evBrf (evObc (evObt (evBr (fun h6 => evRet (by unfold R111 F111_0; try rw [h0]; try rw [h1]; try rw [h2]; try rw [h3]; try rw [h4]; try rw [h5]; try rw [h6]; rfl)) (fun h6 => evRet (by unfold R111 F111_0; try rw [h0]; try rw [h1]; try rw [h2]; try rw [h3]; try rw [h4]; try rw [h5]; try rw [h6]; rfl))))))))))))))))))))))))))))))))))))))))
def C111 : PCon := mkC [.agg tyT, .agg [.int .i64, .int .i64, .int .i64, .int .i64]] (fun _ => True) fun
  | [.agg [.int _ x0, .int _ x1, .int _ x2, .int _ x3, .int _ x4], .agg [.int _ x5, .int _ x6, .int _ x7, .int _ x8]] => R111 x0 x1 x2 x3 x4 x5 x6 x7 x8
  | _ => .any
theorem ok111 : (vP C111).Ok Tryz.prog 111 := mkC_ev (J := Nat × Nat) (un := u5) tabB16b hE hI Tryz.func111 (by kernel_rfl) (by kernel_rfl) (by kernel_rfl) rfl (fun w0 ds hp => run111 w0 _ _ _ _ _ _ _ _ _ (ev111 _ _ _ _ _ _ _ _ _))
def m56 (x0 x1 x2 x3 x4 x5 x6 x7 x8 x9 : Int) (b10 : Bool) : RT Empty := .obc (.obt (.ret (V.bool !F49_0 x2 x3 x4 x5 x6 x7 x8 x9 b10 x0 x1)))
def rl56 (x0 x1 x2 x3 x4 x5 x6 x7 x8 x9 : Int) (b10 : Bool) : T (Leaf (Nat × Nat)) := runL (Nat × Nat) ctB16b u0 s56 [V.agg [V.int i64 x0, V.int i64 x1], V.pd [V.int i64 x2, V.int i64 x3, V.int i64 x4, V.int i64 x5, V.int i64 x6, V.int i64 x7, V.int i64 x8, V.int i64 x9, V.bool b10]]
theorem f56m (x0 x1 x2 x3 x4 x5 x6 x7 x8 x9 : Int) (b10 : Bool) : fitT noD (rl56 x0 x1 x2 x3 x4 x5 x6 x7 x8 x9 b10) (m56 x0 x1 x2 x3 x4 x5 x6 x7 x8 x9 b10) = toF noD (m56 x0 x1 x2 x3 x4 x5 x6 x7 x8 x9 b10) := by kernel_rfl
theorem q56m (x0 x1 x2 x3 x4 x5 x6 x7 x8 x9 : Int) (b10 : Bool) : sameT (rl56 x0 x1 x2 x3 x4 x5 x6 x7 x8 x9 b10) (m56 x0 x1 x2 x3 x4 x5 x6 x7 x8 x9 b10) = (rl56 x0 x1 x2 x3 x4 x5 x6 x7 x8 x9 b10) := by kernel_rfl
theorem run56 (w0 : World) (x0 x1 x2 x3 x4 x5 x6 x7 x8 x9 : Int) (b10 : Bool) {r : V} (h : evR noE (m56 x0 x1 x2 x3 x4 x5 x6 x7 x8 x9 b10) r) : sat (LPof w0 (SV ctB16b)) (runL (Nat × Nat) ctB16b u0 s56 [V.agg [V.int i64 x0, V.int i64 x1], V.pd [V.int i64 x2, V.int i64 x3, V.int i64 x4, V.int i64 x5, V.int i64 x6, V.int i64 x7, V.int i64 x8, V.int i64 x9, V.bool b10]]) (topQ r) := run_ev0 (by kernel_rfl) _ (f56m x0 x1 x2 x3 x4 x5 x6 x7 x8 x9 b10) (q56m x0 x1 x2 x3 x4 x5 x6 x7 x8 x9 b10) h
def F56_0 (x0 x1 x2 x3 x4 x5 x6 x7 x8 x9 : Int) (b10 : Bool) : Bool := !F49_0 x2 x3 x4 x5 x6 x7 x8 x9 b10 x0 x1
def R56 (x0 x1 x2 x3 x4 x5 x6 x7 x8 x9 : Int) (b10 : Bool) : V := .bool (F56_0 x0 x1 x2 x3 x4 x5 x6 x7 x8 x9 b10)
theorem ev56 (x0 x1 x2 x3 x4 x5 x6 x7 x8 x9 : Int) (b10 : Bool) : evR noE (m56 x0 x1 x2 x3 x4 x5 x6 x7 x8 x9 b10) (R56 x0 x1 x2 x3 x4 x5 x6 x7 x8 x9 b10) := evObc (evObt (evRet (by unfold R56 F56_0; rfl)))
def C56 : PCon := mkC [.agg [.int .i64, .int .i64], .pd [.int .i64, .int .i64, .int .i64, .int .i64, .int .i64, .int .i64, .int .i64, .int .i64, .bool]] (fun _ => True) fun
  | [.agg [.int _ x0, .int _ x1], .pd [.int _ x2, .int _ x3, .int _ x4, .int _ x5, .int _ x6, .int _ x7, .int _ x8, .int _ x9, .bool b10]] => R56 x0 x1 x2 x3 x4 x5 x6 x7 x8 x9 b10
  | _ => .any
theorem ok56 : (vP C56).Ok Tryz.prog 56 := mkC_ev (J := Nat × Nat) (un := u0) tabB16b hE hI Tryz.func56 (by kernel_rfl) (by kernel_rfl) (by kernel_rfl) rfl (fun w0 ds hp => run56 w0 _ _ _ _ _ _ _ _ _ _ _ (ev56 _ _ _ _ _ _ _ _ _ _ _))
def m47 (x0 x1 x2 x3 x4 : Int) (n5 : Nat) (f5 : FnV) (n7 : Nat) (f7 : FnV) (n9 : Nat) (f9 : FnV) (n11 : Nat) (f11 : FnV) (x13 x14 x15 : Int) : RT Empty := .ob (decide (0 <= x13 /\ x13 < (↑n11 : Int))) (.obc (.obt (.obc (.obt (.ret (V.bool (F49_0 (iv (hdV (tlV (f11 x13.toNat)))) (iv (hdV (tlV (tlV (f11 x13.toNat))))) (iv (hdV (tlV (tlV (tlV (f11 x13.toNat)))))) (F48_0 (iv (hdV (tlV (tlV (tlV (f11 x13.toNat)))))) x4) (F48_1 (iv (hdV (tlV (tlV (tlV (f11 x13.toNat)))))) x3) (F48_2 (iv (hdV (tlV (tlV (tlV (f11 x13.toNat)))))) x0) (F48_3 (iv (hdV (tlV (tlV (tlV (f11 x13.toNat)))))) x1) (F48_4 (iv (hdV (tlV (tlV (tlV (f11 x13.toNat)))))) x2) (F48_5 (iv (hdV (tlV (tlV (tlV (f11 x13.toNat)))))) x3) x14 x15)))))))
def rl47 (x0 x1 x2 x3 x4 : Int) (n5 : Nat) (f5 : FnV) (n7 : Nat) (f7 : FnV) (n9 : Nat) (f9 : FnV) (n11 : Nat) (f11 : FnV) (x13 x14 x15 : Int) : T (Leaf (Nat × Nat)) := runL (Nat × Nat) ctB16b u0 s47 [V.agg [V.int i64 x0, V.int i64 x1, V.int i64 x2, V.int i64 x3, V.int i64 x4], V.pd [V.sl n5 (elV tyR f5), V.sl n7 (elV tyT f7), V.sl n9 (elV tyF f9), V.sl n11 (elV tyC f11)], V.pd [V.int i64 x13], V.pd [V.int i64 x14], V.pd [V.int i64 x15]]
theorem f47m (x0 x1 x2 x3 x4 : Int) (n5 : Nat) (f5 : FnV) (n7 : Nat) (f7 : FnV) (n9 : Nat) (f9 : FnV) (n11 : Nat) (f11 : FnV) (x13 x14 x15 : Int) : fitT noD (rl47 x0 x1 x2 x3 x4 n5 f5 n7 f7 n9 f9 n11 f11 x13 x14 x15) (m47 x0 x1 x2 x3 x4 n5 f5 n7 f7 n9 f9 n11 f11 x13 x14 x15) = toF noD (m47 x0 x1 x2 x3 x4 n5 f5 n7 f7 n9 f9 n11 f11 x13 x14 x15) := by kernel_rfl
theorem q47m (x0 x1 x2 x3 x4 : Int) (n5 : Nat) (f5 : FnV) (n7 : Nat) (f7 : FnV) (n9 : Nat) (f9 : FnV) (n11 : Nat) (f11 : FnV) (x13 x14 x15 : Int) : sameT (rl47 x0 x1 x2 x3 x4 n5 f5 n7 f7 n9 f9 n11 f11 x13 x14 x15) (m47 x0 x1 x2 x3 x4 n5 f5 n7 f7 n9 f9 n11 f11 x13 x14 x15) = (rl47 x0 x1 x2 x3 x4 n5 f5 n7 f7 n9 f9 n11 f11 x13 x14 x15) := by kernel_rfl
theorem run47 (w0 : World) (x0 x1 x2 x3 x4 : Int) (n5 : Nat) (f5 : FnV) (n7 : Nat) (f7 : FnV) (n9 : Nat) (f9 : FnV) (n11 : Nat) (f11 : FnV) (x13 x14 x15 : Int) {r : V} (h : evR noE (m47 x0 x1 x2 x3 x4 n5 f5 n7 f7 n9 f9 n11 f11 x13 x14 x15) r) : sat (LPof w0 (SV ctB16b)) (runL (Nat × Nat) ctB16b u0 s47 [V.agg [V.int i64 x0, V.int i64 x1, V.int i64 x2, V.int i64 x3, V.int i64 x4], V.pd [V.sl n5 (elV tyR f5), V.sl n7 (elV tyT f7), V.sl n9 (elV tyF f9), V.sl n11 (elV tyC f11)], V.pd [V.int i64 x13], V.pd [V.int i64 x14], V.pd [V.int i64 x15]]) (topQ r) := run_ev0 (by kernel_rfl) _ (f47m x0 x1 x2 x3 x4 n5 f5 n7 f7 n9 f9 n11 f11 x13 x14 x15) (q47m x0 x1 x2 x3 x4 n5 f5 n7 f7 n9 f9 n11 f11 x13 x14 x15) h
def F47_0 (x0 x1 x2 x3 x4 : Int) (f11 : FnV) (x13 x14 x15 : Int) : Bool := F49_0 (iv (hdV (tlV (f11 x13.toNat)))) (iv (hdV (tlV (tlV (f11 x13.toNat))))) (iv (hdV (tlV (tlV (tlV (f11 x13.toNat)))))) (F48_0 (iv (hdV (tlV (tlV (tlV (f11 x13.toNat)))))) x4) (F48_1 (iv (hdV (tlV (tlV (tlV (f11 x13.toNat)))))) x3) (F48_2 (iv (hdV (tlV (tlV (tlV (f11 x13.toNat)))))) x0) (F48_3 (iv (hdV (tlV (tlV (tlV (f11 x13.toNat)))))) x1) (F48_4 (iv (hdV (tlV (tlV (tlV (f11 x13.toNat)))))) x2) (F48_5 (iv (hdV (tlV (tlV (tlV (f11 x13.toNat)))))) x3) x14 x15
def R47 (x0 x1 x2 x3 x4 : Int) (n5 : Nat) (f5 : FnV) (n7 : Nat) (f7 : FnV) (n9 : Nat) (f9 : FnV) (n11 : Nat) (f11 : FnV) (x13 x14 x15 : Int) : V := .bool (F47_0 x0 x1 x2 x3 x4 f11 x13 x14 x15)
theorem ev47 (x0 x1 x2 x3 x4 : Int) (n5 : Nat) (f5 : FnV) (n7 : Nat) (f7 : FnV) (n9 : Nat) (f9 : FnV) (n11 : Nat) (f11 : FnV) (x13 x14 x15 : Int) (hp : 0 <= x13 /\ x13 < (n11 : Int)) : evR noE (m47 x0 x1 x2 x3 x4 n5 f5 n7 f7 n9 f9 n11 f11 x13 x14 x15) (R47 x0 x1 x2 x3 x4 n5 f5 n7 f7 n9 f9 n11 f11 x13 x14 x15) := evOb (by first | assumption | (exact decide_eq_true hp)) (evObc (evObt (evObc (evObt (evRet (by unfold R47 F47_0; rfl))))))
def C47 : PCon := mkC [.agg tyT, .pd [.sl tyR, .sl tyT, .sl tyF, .sl tyC], .pd [.int .i64], .pd [.int .i64], .pd [.int .i64]] (fun
  | [.agg [.int _ x0, .int _ x1, .int _ x2, .int _ x3, .int _ x4], .pd [.sl n5 f5, .sl n7 f7, .sl n9 f9, .sl n11 f11], .pd [.int _ x13], .pd [.int _ x14], .pd [.int _ x15]] => 0 <= x13 /\ x13 < (n11 : Int)
  | _ => False) fun
  | [.agg [.int _ x0, .int _ x1, .int _ x2, .int _ x3, .int _ x4], .pd [.sl n5 f5, .sl n7 f7, .sl n9 f9, .sl n11 f11], .pd [.int _ x13], .pd [.int _ x14], .pd [.int _ x15]] => R47 x0 x1 x2 x3 x4 n5 f5 n7 f7 n9 f9 n11 f11 x13 x14 x15
  | _ => .any
theorem ok47 : (vP C47).Ok Tryz.prog 47 := mkC_ev (J := Nat × Nat) (un := u0) tabB16b hE hI Tryz.func47 (by kernel_rfl) (by kernel_rfl) (by kernel_rfl) rfl (fun w0 ds hp => run47 w0 _ _ _ _ _ _ _ _ _ _ _ _ _ _ _ _ (ev47 _ _ _ _ _ _ _ _ _ _ _ _ _ _ _ _ hp))
end
end Go.Dx
namespace Go.Dx
open Go.IntKind (i64 u64 u8)
open Go.Sx
section
variable {S : Type} {step : S -> RT S}
theorem idx_evW {L : Int -> S} {n : Nat} {p : Nat -> Bool} {Q : Nat -> Prop} {ρ : Rho} (W : Nat -> RT S -> RT S) (hW : ∀ i x r, Q i -> evR (Ev step) x r -> evR (Ev step) (W i x) r) (hWn : ∀ i x, noAll (W i x) = noAll x) (hn : n <= 9223372036854775807) (hQ : ∀ i, i < n -> Q i)
    (hst : ∀ i : Nat, step (L i) = .br (decide ((i : Int) < (n : Int))) (.ob (decide (0 <= (i : Int) /\ (i : Int) < (n : Int))) (W i (.br (p i) (.ret (.int .i64 i)) (.next ρ (L (i64.wrap ((i : Int) + 1))) [])))) (.ret (.int .i64 (-1)))) :
    Ev step (L 0) (.int .i64 (idx n p)) :=
  scan hn p (P := fun i => Ev step (L i) (.int .i64 (idx n p))) (fun i hlt hj next => Ev.of (by rw [hst]; simp only [noAll, hWn, Bool.and_self]) (by
    rw [hst]
    refine evBrLt hlt (evObLt hlt (hW i _ _ (hQ i hlt) (evBr (fun hb => evRet ?_) (fun hb => evNext (next hb)))))
    rw [idx_some hb hlt hj])) (fun hj => Ev.of (by rw [hst]; simp only [noAll, hWn, Bool.and_self]) (by
    rw [hst]
    refine evBrGe (evRet ?_)
    rw [idx_none hj]))
end
end Go.Dx
namespace Go.Dx
open Go.IntKind (i64 u64 u8)
open Go.Sx
def maxTo (p : Nat -> Int) : Nat -> Int
  | 0 => 0
  | k + 1 => max (maxTo p k) (p k)
section
variable {S : Type} {step : S -> RT S}
theorem pieces_ev {L : Int -> Nat -> Int -> S} {n : Nat} {p : Nat -> Int} {ρ : Rho} {l : Nat} (hn : n <= 9223372036854775807)
    (hst : ∀ (i : Nat) (a : Int), i64.wrap ((i : Int) + 1) = ((i + 1 : Nat) : Int) -> step (L i l a) = .br (decide ((i : Int) < i64.wrap ((n : Int) - 1))) (.ob (decide (0 <= (i : Int) /\ (i : Int) < (n : Int))) (.ob (decide (0 <= i64.wrap ((i : Int) + 1) /\ i64.wrap ((i : Int) + 1) < (n : Int))) (.obt (.obt (.obt (.obt (.obc (.obt (.next ρ (L (i64.wrap ((i : Int) + 1)) l (max a (p i))) [])))))))) ) (.ret (.int .i64 a))) :
    Ev step (L 0 l 0) (.int .i64 (maxTo p (n - 1))) := by
  have w0 : i64.wrap ((n : Int) - 1) = (n : Int) - 1 := wrapI (by omega) (by omega)
  have key := up_ind (n := n - 1) (P := fun i => Ev step (L i l (maxTo p i)) (.int .i64 (maxTo p (n - 1)))) fun i hi ih => by
    have w1 : i64.wrap ((i : Int) + 1) = ((i + 1 : Nat) : Int) := by rw [wrapI (by omega) (by omega)]; omega
    refine Ev.of (by rw [hst i _ w1]; rfl) ?_
    rw [hst i _ w1]
    by_cases hlt : i < n - 1
    · refine evBrT (decide_eq_true (by rw [w0]; omega)) (evOb (decide_eq_true (by omega)) (evOb (decide_eq_true (by rw [w1]; omega)) (evObt (evObt (evObt (evObt (evObc (evObt (evNext ?_)))))))))
      rw [w1]; exact ih hlt
    · refine evBrF (decide_eq_false (by rw [w0]; omega)) (evRet ?_)
      have : i = n - 1 := by omega
      subst this; rfl
  exact key 0 (Nat.zero_le _)
theorem pieces_ex {L : Int -> Nat -> S} {n : Nat} {p : Nat -> Bool} {ρ : Rho} {l : Nat} (hn : n <= 9223372036854775807)
    (hst : ∀ i : Nat, i64.wrap ((i : Int) + 1) = ((i + 1 : Nat) : Int) -> step (L i l) = .br (decide ((i : Int) < i64.wrap ((n : Int) - 1))) (.ob (decide (0 <= (i : Int) /\ (i : Int) < (n : Int))) (.ob (decide (0 <= i64.wrap ((i : Int) + 1) /\ i64.wrap ((i : Int) + 1) < (n : Int))) (.obt (.obt (.obt (.obt (.obc (.obt (.br (p i) (.ret (.kb true)) (.next ρ (L (i64.wrap ((i : Int) + 1)) l) []))))))))) ) (.ret (.kb false))) :
    Ev step (L 0 l) (.bool (exB (n - 1) p)) := by
  have w0 : i64.wrap ((n : Int) - 1) = (n : Int) - 1 := wrapI (by omega) (by omega)
  have key := up_ind (n := n - 1) (P := fun i => (∀ j, j < i -> p j = false) -> Ev step (L i l) (.bool (exB (n - 1) p))) fun i hi ih hj => by
    have w1 : i64.wrap ((i : Int) + 1) = ((i + 1 : Nat) : Int) := by rw [wrapI (by omega) (by omega)]; omega
    refine Ev.of (by rw [hst i w1]; rfl) ?_
    rw [hst i w1]
    by_cases hlt : i < n - 1
    · refine evBrT (decide_eq_true (by rw [w0]; omega)) (evOb (decide_eq_true (by omega)) (evOb (decide_eq_true (by rw [w1]; omega)) (evObt (evObt (evObt (evObt (evObc (evObt (evBr (fun hb => evRet ?_) (fun hb => evNext ?_))))))))))
      · rw [exB_true i hlt hb]; rfl
      · rw [w1]; exact ih hlt fun j h1 => by
          by_cases e : j = i
          · subst e; exact hb
          · exact hj j (by omega)
    · refine evBrF (decide_eq_false (by rw [w0]; omega)) (evRet ?_)
      have : i = n - 1 := by omega
      subst this
      rw [exB_false hj]; rfl
  exact key 0 (Nat.zero_le _) fun j hj => by omega
end
end Go.Dx
namespace Go.Dx
open Go.IntKind (i64 u64 u8)
open Go.Sx
section
variable {S : Type} {step : S -> RT S}
theorem pieces_exR {L : Int -> S} {n : Nat} {p : Nat -> Bool} {ρ : Rho}
    (hst : ∀ i : Nat, step (L i) = .asm (true = true -> n <= 9223372036854775807) (.br (decide (i64.wrap ((i : Int) + 1) < (n : Int))) (.obc (.obt (.obp ((0 : Int) <= (i : Int) /\ i64.wrap ((i : Int) + (1 : Int)) = (i : Int) + (1 : Int) /\ (i : Int) + (1 : Int) < (n : Int)) (.obt (.br (p i) (.ret (.kb true)) (.next ρ (L (i64.wrap ((i : Int) + 1))) [])))))) (.ret (.kb false)))) :
    Ev step (L 0) (.bool (exB (n - 1) p)) := by
  have key := up_ind (n := n - 1) (P := fun i => (∀ j, j < i -> p j = false) -> Ev step (L i) (.bool (exB (n - 1) p))) fun i hi ih hj => by
    refine Ev.of (by rw [hst i]; rfl) ?_
    rw [hst i]
    refine evAsm1 fun hn => ?_
    have w1 : i64.wrap ((i : Int) + 1) = ((i + 1 : Nat) : Int) := by rw [wrapI (by omega) (by omega)]; omega
    by_cases hlt : i < n - 1
    · refine evBrT (decide_eq_true (by rw [w1]; omega)) (evObc (evObt (evObp ⟨by omega, by rw [w1]; omega, by omega⟩ (evObt (evBr (fun hb => evRet ?_) (fun hb => evNext ?_))))))
      · rw [exB_true i hlt hb]; rfl
      · rw [w1]; exact ih hlt fun j h1 => by
          by_cases e : j = i
          · subst e; exact hb
          · exact hj j (by omega)
    · refine evBrF (decide_eq_false (by rw [w1]; omega)) (evRet ?_)
      have : i = n - 1 := by omega
      subst this
      rw [exB_false hj]; rfl
  exact key 0 (Nat.zero_le _) fun j hj => by omega
end
end Go.Dx
namespace Go.Dx
open Go.IntKind (i64 u64 u8)
theorem maxTo_ge {p : Nat -> Int} {i : Nat} : ∀ {n : Nat}, i < n -> p i <= maxTo p n
  | n + 1, h => by
    simp only [maxTo]
    by_cases e : i = n
    · subst e; omega
    · have := maxTo_ge (p := p) (i := i) (n := n) (by omega); omega
theorem maxTo_le {p : Nat -> Int} {B : Int} (hB : 0 <= B) : ∀ {n : Nat}, (∀ i, i < n -> p i <= B) -> maxTo p n <= B
  | 0, _ => hB
  | n + 1, h => by
    simp only [maxTo]
    have := maxTo_le (p := p) hB (n := n) fun i hi => h i (by omega)
    have := h n (by omega); omega
theorem maxTo_top {p : Nat -> Int} {B : Int} {n i : Nat} (hp : ∀ i, p i <= B) (hi : i < n) (h : p i = B) (hB : 0 <= B := by decide) : maxTo p n = B := by
  have := maxTo_ge (p := p) hi
  have := maxTo_le (p := p) hB (n := n) fun i _ => hp i
  omega
theorem maxTo_congr {p q : Nat -> Int} : ∀ {n : Nat}, (∀ i, i < n -> p i = q i) -> maxTo p n = maxTo q n
  | 0, _ => rfl
  | n + 1, h => by simp only [maxTo]; rw [maxTo_congr fun i hi => h i (by omega), h n (by omega)]
end Go.Dx
namespace Go.Dx
open Go.IntKind (i64 u64 u8)
open Go.Sx Go.Proofs
set_option maxRecDepth 100000
set_option linter.unusedVariables false
set_option linter.unusedSimpArgs false
noncomputable section
def ctB16c : CTab := (111, .con C111) :: (56, .con C56) :: (47, .con C47) :: ctB16b
theorem tabB16c : TabOk Tryz.prog eqs its ctB16c := .con ok111 (.con ok56 (.con ok47 (tabB16b)))
inductive S108 where
  | L0 (i_100 : Int)
def inv108 (n0 : Nat) (f0 : FnV) (x2 x3 x4 x5 x6 x7 x8 x9 : Int) (b10 : Bool) : S108 -> Env × List O × Option Ex
  | .L0 i_100 => ([(8, V.int i64 i_100), (7, V.int i64 (↑n0 : Int)), (6, V.sl n0 (elV [Ty.int i64, Ty.int i64] f0)), (4, V.int i64 0), (0, V.sl n0 (elV [Ty.int i64, Ty.int i64] f0)), (1, V.fn 56 [] [V.pd [V.int i64 x2, V.int i64 x3, V.int i64 x4, V.int i64 x5, V.int i64 x6, V.int i64 x7, V.int i64 x8, V.int i64 x9, V.bool b10]])], [], none)
def id108 : S108 -> Nat × Nat
  | .L0 i_100 => (0, 0)
def rl108 (n0 : Nat) (f0 : FnV) (x2 x3 x4 x5 x6 x7 x8 x9 : Int) (b10 : Bool) : T (Leaf (Nat × Nat)) := runL (Nat × Nat) ctB16c u0 s108 [V.sl n0 (elV [Ty.int i64, Ty.int i64] f0), V.fn 56 [] [V.pd [V.int i64 x2, V.int i64 x3, V.int i64 x4, V.int i64 x5, V.int i64 x6, V.int i64 x7, V.int i64 x8, V.int i64 x9, V.bool b10]]]
def lp108_0 (n0 : Nat) (f0 : FnV) (x2 x3 x4 x5 x6 x7 x8 x9 : Int) (b10 : Bool) (cx : Nat) : Lp (Nat × Nat) := lpT (atT (rl108 n0 f0 x2 x3 x4 x5 x6 x7 x8 x9 b10) [])
def lp108 (n0 : Nat) (f0 : FnV) (x2 x3 x4 x5 x6 x7 x8 x9 : Int) (b10 : Bool) : Nat × Nat -> Lp (Nat × Nat)
  | (0, cx) => lp108_0 n0 f0 x2 x3 x4 x5 x6 x7 x8 x9 b10 cx
  | (_, cx) => lp108_0 n0 f0 x2 x3 x4 x5 x6 x7 x8 x9 b10 cx
def D108 (n0 : Nat) (f0 : FnV) (x2 x3 x4 x5 x6 x7 x8 x9 : Int) (b10 : Bool) : LD (Nat × Nat) S108 := ⟨id108, lp108 n0 f0 x2 x3 x4 x5 x6 x7 x8 x9 b10, inv108 n0 f0 x2 x3 x4 x5 x6 x7 x8 x9 b10⟩
def st108 (n0 : Nat) (f0 : FnV) (x2 x3 x4 x5 x6 x7 x8 x9 : Int) (b10 : Bool) : S108 -> RT S108
  | .L0 i_100 => .br (decide (i_100 < (↑n0 : Int))) (.ob (decide (0 <= i_100 /\ i_100 < (↑n0 : Int))) (.obc (.obt (.br (F56_0 (iv (hdV (f0 i_100.toNat))) (iv (hdV (tlV (f0 i_100.toNat)))) x2 x3 x4 x5 x6 x7 x8 x9 b10) (.ret (V.int i64 i_100)) (.next [] (S108.L0 (i64.wrap (i_100 + 1))) []))))) (.ret (V.int i64 (-1)))
def m108 (n0 : Nat) (f0 : FnV) (x2 x3 x4 x5 x6 x7 x8 x9 : Int) (b10 : Bool) : RT S108 := .asm (true = true -> n0 <= 9223372036854775807) (.enter [] (S108.L0 (0)) [])
theorem f108m (n0 : Nat) (f0 : FnV) (x2 x3 x4 x5 x6 x7 x8 x9 : Int) (b10 : Bool) : fitT (D108 n0 f0 x2 x3 x4 x5 x6 x7 x8 x9 b10) (rl108 n0 f0 x2 x3 x4 x5 x6 x7 x8 x9 b10) (m108 n0 f0 x2 x3 x4 x5 x6 x7 x8 x9 b10) = toF (D108 n0 f0 x2 x3 x4 x5 x6 x7 x8 x9 b10) (m108 n0 f0 x2 x3 x4 x5 x6 x7 x8 x9 b10) := by kernel_rfl
theorem q108m (n0 : Nat) (f0 : FnV) (x2 x3 x4 x5 x6 x7 x8 x9 : Int) (b10 : Bool) : sameT (rl108 n0 f0 x2 x3 x4 x5 x6 x7 x8 x9 b10) (m108 n0 f0 x2 x3 x4 x5 x6 x7 x8 x9 b10) = (rl108 n0 f0 x2 x3 x4 x5 x6 x7 x8 x9 b10) := by kernel_rfl
theorem f108_0 (n0 : Nat) (f0 : FnV) (x2 x3 x4 x5 x6 x7 x8 x9 : Int) (b10 : Bool) (i_100 : Int) : fitT (D108 n0 f0 x2 x3 x4 x5 x6 x7 x8 x9 b10) (rdS ctB16c u0 (D108 n0 f0 x2 x3 x4 x5 x6 x7 x8 x9 b10) (S108.L0 i_100)) (st108 n0 f0 x2 x3 x4 x5 x6 x7 x8 x9 b10 (S108.L0 i_100)) = toF (D108 n0 f0 x2 x3 x4 x5 x6 x7 x8 x9 b10) (st108 n0 f0 x2 x3 x4 x5 x6 x7 x8 x9 b10 (S108.L0 i_100)) := by kernel_rfl
theorem q108_0 (n0 : Nat) (f0 : FnV) (x2 x3 x4 x5 x6 x7 x8 x9 : Int) (b10 : Bool) (i_100 : Int) : sameT (rdS ctB16c u0 (D108 n0 f0 x2 x3 x4 x5 x6 x7 x8 x9 b10) (S108.L0 i_100)) (st108 n0 f0 x2 x3 x4 x5 x6 x7 x8 x9 b10 (S108.L0 i_100)) = rdS ctB16c u0 (D108 n0 f0 x2 x3 x4 x5 x6 x7 x8 x9 b10) (S108.L0 i_100) := by kernel_rfl
theorem run108 (w0 : World) (n0 : Nat) (f0 : FnV) (x2 x3 x4 x5 x6 x7 x8 x9 : Int) (b10 : Bool) {r : V} (h : evR (Ev (st108 n0 f0 x2 x3 x4 x5 x6 x7 x8 x9 b10)) (m108 n0 f0 x2 x3 x4 x5 x6 x7 x8 x9 b10) r) : sat (LPof w0 (SV ctB16c)) (runL (Nat × Nat) ctB16c u0 s108 [V.sl n0 (elV [Ty.int i64, Ty.int i64] f0), V.fn 56 [] [V.pd [V.int i64 x2, V.int i64 x3, V.int i64 x4, V.int i64 x5, V.int i64 x6, V.int i64 x7, V.int i64 x8, V.int i64 x9, V.bool b10]]]) (topQ r) := run_ev (by kernel_rfl) (D108 n0 f0 x2 x3 x4 x5 x6 x7 x8 x9 b10) (st108 n0 f0 x2 x3 x4 x5 x6 x7 x8 x9 b10) _ (f108m n0 f0 x2 x3 x4 x5 x6 x7 x8 x9 b10) (q108m n0 f0 x2 x3 x4 x5 x6 x7 x8 x9 b10) (fun s => match s with | .L0 i_100 => f108_0 n0 f0 x2 x3 x4 x5 x6 x7 x8 x9 b10 i_100) (fun s => match s with | .L0 i_100 => q108_0 n0 f0 x2 x3 x4 x5 x6 x7 x8 x9 b10 i_100) h
def F108 (n0 : Nat) (f0 : FnV) (x2 x3 x4 x5 x6 x7 x8 x9 : Int) (b10 : Bool) : Int   := idx n0 fun ii => F56_0 (iv (hdV (f0 ii))) (iv (hdV (tlV (f0 ii)))) x2 x3 x4 x5 x6 x7 x8 x9 b10
theorem ev108_0 (n0 : Nat) (f0 : FnV) (x2 x3 x4 x5 x6 x7 x8 x9 : Int) (b10 : Bool) : evR (Ev (st108 n0 f0 x2 x3 x4 x5 x6 x7 x8 x9 b10)) (m108 n0 f0 x2 x3 x4 x5 x6 x7 x8 x9 b10) (.int .i64 (F108 n0 f0 x2 x3 x4 x5 x6 x7 x8 x9 b10)) := evAsm1 fun hn => evEnter (idx_ev hn fun i => rfl)
theorem ev108 (n0 : Nat) (f0 : FnV) (x2 x3 x4 x5 x6 x7 x8 x9 : Int) (b10 : Bool) : evR (Ev (st108 n0 f0 x2 x3 x4 x5 x6 x7 x8 x9 b10)) (m108 n0 f0 x2 x3 x4 x5 x6 x7 x8 x9 b10) (.int .i64 (F108 n0 (elV [.int .i64, .int .i64] f0) x2 x3 x4 x5 x6 x7 x8 x9 b10)) := ev108_0 n0 f0 x2 x3 x4 x5 x6 x7 x8 x9 b10
def C108 : PCon := mkC [.sl [.int .i64, .int .i64], .fn 56 [] [.pd [.int .i64, .int .i64, .int .i64, .int .i64, .int .i64, .int .i64, .int .i64, .int .i64, .bool]]] (fun _ => True) fun
  | [.sl n0 f0, .fn _ [] [.pd [.int _ x2, .int _ x3, .int _ x4, .int _ x5, .int _ x6, .int _ x7, .int _ x8, .int _ x9, .bool b10]]] => .int .i64 (F108 n0 f0 x2 x3 x4 x5 x6 x7 x8 x9 b10)
  | _ => .any
theorem ok108 : (vP C108).Ok Tryz.prog 108 := mkC_ev (J := Nat × Nat) (un := u0) tabB16c hE hI Tryz.func108 (by kernel_rfl) (by kernel_rfl) (by kernel_rfl) rfl (fun w0 ds hp => run108 w0 _ _ _ _ _ _ _ _ _ _ _ (ev108 _ _ _ _ _ _ _ _ _ _ _))
inductive S46 where
  | L0 (i_100 : Int)
def inv46 (n0 : Nat) (f0 : FnV) (n2 : Nat) (f2 : FnV) (n4 : Nat) (f4 : FnV) (n6 : Nat) (f6 : FnV) (n8 : Nat) (f8 : FnV) (x10 x11 x12 : Int) : S46 -> Env × List O × Option Ex
  | .L0 i_100 => ([(8, V.int i64 i_100), (7, V.int i64 (↑n0 : Int)), (6, V.sl n0 (elV tyT f0)), (4, V.int i64 0), (0, V.sl n0 (elV tyT f0)), (1, V.fn 47 [] [V.pd [V.sl n2 (elV tyR f2), V.sl n4 (elV tyT f4), V.sl n6 (elV tyF f6), V.sl n8 (elV tyC f8)], V.pd [V.int i64 x10], V.pd [V.int i64 x11], V.pd [V.int i64 x12]])], [], none)
def id46 : S46 -> Nat × Nat
  | .L0 i_100 => (0, 0)
def rl46 (n0 : Nat) (f0 : FnV) (n2 : Nat) (f2 : FnV) (n4 : Nat) (f4 : FnV) (n6 : Nat) (f6 : FnV) (n8 : Nat) (f8 : FnV) (x10 x11 x12 : Int) : T (Leaf (Nat × Nat)) := runL (Nat × Nat) ctB16c u0 s46 [V.sl n0 (elV tyT f0), V.fn 47 [] [V.pd [V.sl n2 (elV tyR f2), V.sl n4 (elV tyT f4), V.sl n6 (elV tyF f6), V.sl n8 (elV tyC f8)], V.pd [V.int i64 x10], V.pd [V.int i64 x11], V.pd [V.int i64 x12]]]
def lp46_0 (n0 : Nat) (f0 : FnV) (n2 : Nat) (f2 : FnV) (n4 : Nat) (f4 : FnV) (n6 : Nat) (f6 : FnV) (n8 : Nat) (f8 : FnV) (x10 x11 x12 : Int) (cx : Nat) : Lp (Nat × Nat) := lpT (atT (rl46 n0 f0 n2 f2 n4 f4 n6 f6 n8 f8 x10 x11 x12) [])
def lp46 (n0 : Nat) (f0 : FnV) (n2 : Nat) (f2 : FnV) (n4 : Nat) (f4 : FnV) (n6 : Nat) (f6 : FnV) (n8 : Nat) (f8 : FnV) (x10 x11 x12 : Int) : Nat × Nat -> Lp (Nat × Nat)
  | (0, cx) => lp46_0 n0 f0 n2 f2 n4 f4 n6 f6 n8 f8 x10 x11 x12 cx
  | (_, cx) => lp46_0 n0 f0 n2 f2 n4 f4 n6 f6 n8 f8 x10 x11 x12 cx
def D46 (n0 : Nat) (f0 : FnV) (n2 : Nat) (f2 : FnV) (n4 : Nat) (f4 : FnV) (n6 : Nat) (f6 : FnV) (n8 : Nat) (f8 : FnV) (x10 x11 x12 : Int) : LD (Nat × Nat) S46 := ⟨id46, lp46 n0 f0 n2 f2 n4 f4 n6 f6 n8 f8 x10 x11 x12, inv46 n0 f0 n2 f2 n4 f4 n6 f6 n8 f8 x10 x11 x12⟩
def st46 (n0 : Nat) (f0 : FnV) (n2 : Nat) (f2 : FnV) (n4 : Nat) (f4 : FnV) (n6 : Nat) (f6 : FnV) (n8 : Nat) (f8 : FnV) (x10 x11 x12 : Int) : S46 -> RT S46
  | .L0 i_100 => .br (decide (i_100 < (↑n0 : Int))) (.ob (decide (0 <= i_100 /\ i_100 < (↑n0 : Int))) (.obp ((0 : Int) <= x10 /\ x10 < (↑n8 : Int)) (.obt (.br (F47_0 (iv (hdV (f0 i_100.toNat))) (iv (hdV (tlV (f0 i_100.toNat)))) (iv (hdV (tlV (tlV (f0 i_100.toNat))))) (iv (hdV (tlV (tlV (tlV (f0 i_100.toNat)))))) (iv (hdV (tlV (tlV (tlV (tlV (f0 i_100.toNat))))))) (elV tyC f8) x10 x11 x12) (.ret (V.int i64 i_100)) (.next [] (S46.L0 (i64.wrap (i_100 + 1))) []))))) (.ret (V.int i64 (-1)))
def m46 (n0 : Nat) (f0 : FnV) (n2 : Nat) (f2 : FnV) (n4 : Nat) (f4 : FnV) (n6 : Nat) (f6 : FnV) (n8 : Nat) (f8 : FnV) (x10 x11 x12 : Int) : RT S46 := .asm (true = true -> n0 <= 9223372036854775807) (.enter [] (S46.L0 (0)) [])
theorem f46m (n0 : Nat) (f0 : FnV) (n2 : Nat) (f2 : FnV) (n4 : Nat) (f4 : FnV) (n6 : Nat) (f6 : FnV) (n8 : Nat) (f8 : FnV) (x10 x11 x12 : Int) : fitT (D46 n0 f0 n2 f2 n4 f4 n6 f6 n8 f8 x10 x11 x12) (rl46 n0 f0 n2 f2 n4 f4 n6 f6 n8 f8 x10 x11 x12) (m46 n0 f0 n2 f2 n4 f4 n6 f6 n8 f8 x10 x11 x12) = toF (D46 n0 f0 n2 f2 n4 f4 n6 f6 n8 f8 x10 x11 x12) (m46 n0 f0 n2 f2 n4 f4 n6 f6 n8 f8 x10 x11 x12) := by kernel_rfl
theorem q46m (n0 : Nat) (f0 : FnV) (n2 : Nat) (f2 : FnV) (n4 : Nat) (f4 : FnV) (n6 : Nat) (f6 : FnV) (n8 : Nat) (f8 : FnV) (x10 x11 x12 : Int) : sameT (rl46 n0 f0 n2 f2 n4 f4 n6 f6 n8 f8 x10 x11 x12) (m46 n0 f0 n2 f2 n4 f4 n6 f6 n8 f8 x10 x11 x12) = (rl46 n0 f0 n2 f2 n4 f4 n6 f6 n8 f8 x10 x11 x12) := by kernel_rfl
theorem f46_0 (n0 : Nat) (f0 : FnV) (n2 : Nat) (f2 : FnV) (n4 : Nat) (f4 : FnV) (n6 : Nat) (f6 : FnV) (n8 : Nat) (f8 : FnV) (x10 x11 x12 i_100 : Int) : fitT (D46 n0 f0 n2 f2 n4 f4 n6 f6 n8 f8 x10 x11 x12) (rdS ctB16c u0 (D46 n0 f0 n2 f2 n4 f4 n6 f6 n8 f8 x10 x11 x12) (S46.L0 i_100)) (st46 n0 f0 n2 f2 n4 f4 n6 f6 n8 f8 x10 x11 x12 (S46.L0 i_100)) = toF (D46 n0 f0 n2 f2 n4 f4 n6 f6 n8 f8 x10 x11 x12) (st46 n0 f0 n2 f2 n4 f4 n6 f6 n8 f8 x10 x11 x12 (S46.L0 i_100)) := by kernel_rfl
theorem q46_0 (n0 : Nat) (f0 : FnV) (n2 : Nat) (f2 : FnV) (n4 : Nat) (f4 : FnV) (n6 : Nat) (f6 : FnV) (n8 : Nat) (f8 : FnV) (x10 x11 x12 i_100 : Int) : sameT (rdS ctB16c u0 (D46 n0 f0 n2 f2 n4 f4 n6 f6 n8 f8 x10 x11 x12) (S46.L0 i_100)) (st46 n0 f0 n2 f2 n4 f4 n6 f6 n8 f8 x10 x11 x12 (S46.L0 i_100)) = rdS ctB16c u0 (D46 n0 f0 n2 f2 n4 f4 n6 f6 n8 f8 x10 x11 x12) (S46.L0 i_100) := by kernel_rfl
theorem run46 (w0 : World) (n0 : Nat) (f0 : FnV) (n2 : Nat) (f2 : FnV) (n4 : Nat) (f4 : FnV) (n6 : Nat) (f6 : FnV) (n8 : Nat) (f8 : FnV) (x10 x11 x12 : Int) {r : V} (h : evR (Ev (st46 n0 f0 n2 f2 n4 f4 n6 f6 n8 f8 x10 x11 x12)) (m46 n0 f0 n2 f2 n4 f4 n6 f6 n8 f8 x10 x11 x12) r) : sat (LPof w0 (SV ctB16c)) (runL (Nat × Nat) ctB16c u0 s46 [V.sl n0 (elV tyT f0), V.fn 47 [] [V.pd [V.sl n2 (elV tyR f2), V.sl n4 (elV tyT f4), V.sl n6 (elV tyF f6), V.sl n8 (elV tyC f8)], V.pd [V.int i64 x10], V.pd [V.int i64 x11], V.pd [V.int i64 x12]]]) (topQ r) := run_ev (by kernel_rfl) (D46 n0 f0 n2 f2 n4 f4 n6 f6 n8 f8 x10 x11 x12) (st46 n0 f0 n2 f2 n4 f4 n6 f6 n8 f8 x10 x11 x12) _ (f46m n0 f0 n2 f2 n4 f4 n6 f6 n8 f8 x10 x11 x12) (q46m n0 f0 n2 f2 n4 f4 n6 f6 n8 f8 x10 x11 x12) (fun s => match s with | .L0 i_100 => f46_0 n0 f0 n2 f2 n4 f4 n6 f6 n8 f8 x10 x11 x12 i_100) (fun s => match s with | .L0 i_100 => q46_0 n0 f0 n2 f2 n4 f4 n6 f6 n8 f8 x10 x11 x12 i_100) h
def F46 (n0 : Nat) (f0 f8 : FnV) (x10 x11 x12 : Int) : Int   := idx n0 fun ii => F47_0 (iv (hdV (f0 ii))) (iv (hdV (tlV (f0 ii)))) (iv (hdV (tlV (tlV (f0 ii))))) (iv (hdV (tlV (tlV (tlV (f0 ii)))))) (iv (hdV (tlV (tlV (tlV (tlV (f0 ii))))))) (elV tyC f8) x10 x11 x12
theorem ev46_0 (n0 : Nat) (f0 : FnV) (n2 : Nat) (f2 : FnV) (n4 : Nat) (f4 : FnV) (n6 : Nat) (f6 : FnV) (n8 : Nat) (f8 : FnV) (x10 x11 x12 : Int) (hp : 0 <= x10 /\ x10 < (n8 : Int)) : evR (Ev (st46 n0 f0 n2 f2 n4 f4 n6 f6 n8 f8 x10 x11 x12)) (m46 n0 f0 n2 f2 n4 f4 n6 f6 n8 f8 x10 x11 x12) (.int .i64 (F46 n0 f0 f8 x10 x11 x12)) := evAsm1 fun hn => evEnter (idx_evW (Q := fun ii => (0 : Int) <= x10 /\ x10 < (↑n8 : Int)) (fun ii x => .obp ((0 : Int) <= x10 /\ x10 < (↑n8 : Int)) (.obt x)) (fun i x r h hx => evObp h (evObt hx)) (fun _ _ => rfl) hn (fun _ _ => hp) fun i => rfl)
theorem ev46 (n0 : Nat) (f0 : FnV) (n2 : Nat) (f2 : FnV) (n4 : Nat) (f4 : FnV) (n6 : Nat) (f6 : FnV) (n8 : Nat) (f8 : FnV) (x10 x11 x12 : Int) (hp : 0 <= x10 /\ x10 < (n8 : Int)) : evR (Ev (st46 n0 f0 n2 f2 n4 f4 n6 f6 n8 f8 x10 x11 x12)) (m46 n0 f0 n2 f2 n4 f4 n6 f6 n8 f8 x10 x11 x12) (.int .i64 (F46 n0 (elV tyT f0) (elV tyC f8) x10 x11 x12)) := ev46_0 n0 f0 n2 f2 n4 f4 n6 f6 n8 f8 x10 x11 x12 hp
def C46 : PCon := mkC [.sl tyT, .fn 47 [] [.pd [.sl tyR, .sl tyT, .sl tyF, .sl tyC], .pd [.int .i64], .pd [.int .i64], .pd [.int .i64]]] (fun
  | [.sl n0 f0, .fn _ [] [.pd [.sl n2 f2, .sl n4 f4, .sl n6 f6, .sl n8 f8], .pd [.int _ x10], .pd [.int _ x11], .pd [.int _ x12]]] => 0 <= x10 /\ x10 < (n8 : Int)
  | _ => False) fun
  | [.sl n0 f0, .fn _ [] [.pd [.sl n2 f2, .sl n4 f4, .sl n6 f6, .sl n8 f8], .pd [.int _ x10], .pd [.int _ x11], .pd [.int _ x12]]] => .int .i64 (F46 n0 f0 f8 x10 x11 x12)
  | _ => .any
theorem ok46 : (vP C46).Ok Tryz.prog 46 := mkC_ev (J := Nat × Nat) (un := u0) tabB16c hE hI Tryz.func46 (by kernel_rfl) (by kernel_rfl) (by kernel_rfl) rfl (fun w0 ds hp => run46 w0 _ _ _ _ _ _ _ _ _ _ _ _ _ (ev46 _ _ _ _ _ _ _ _ _ _ _ _ _ hp))
end
end Go.Dx
namespace Go.Dx
open Go.IntKind (i64 u64 u8)
open Go.Sx Go.Proofs
set_option maxRecDepth 100000
set_option linter.unusedVariables false
set_option linter.unusedSimpArgs false
noncomputable section
def ctB16d : CTab := [(108, .con C108), (46, .con C46), (111, .con C111), (56, .con C56), (47, .con C47), (145, .con C145), (140, .con C140), (49, .con C49), (123, .con C123), (124, .con C124), (50, .con C50), (44, .con C44), (91, .con C91), (24, .con C24), (23, .con C23), (70, .con C70), (62, .con C62), (68, .con C68), (63, .con C63), (69, .con C69), (117, .inl s117 u0), (116, .inl s116 u0), (115, .con C115), (114, .con C114), (73, .con C73), (147, .con C147), (64, .con C64), (66, .con C66), (113, .con C113), (65, .con C65), (67, .con C67), (53, .con C53), (58, .con C58), (122, .con C122), (72, .con C72), (45, .con C45), (90, .con C90), (119, .con C119), (121, .con C121), (99, .con C99), (129, .con C129), (148, .con C148), (149, .con C149), (112, .con C112), (118, .con C118), (120, .con C120), (51, .con C51), (133, .con C133), (103, .con C103), (106, .con C106), (100, .con C100), (150, .con C150), (134, .con C134), (135, .con C135), (137, .con C137), (138, .con C138), (78, .con C78), (54, .con C54), (59, .con C59), (48, .con C48), (102, .con C102), (171, .con C171), (84, .con C84), (85, .con C85), (127, .con C127), (101, .con C101), (86, .con C86), (71, .con C71), (93, .con C93), (92, .con C92), (79, .con C79), (136, .con C136), (144, .con C144), (125, .con C125), (162, .con C162), (146, .con C146), (83, .inl s83 u0)]
theorem tabB16d : TabOk Tryz.prog eqs its ctB16d := .con ok108 (.con ok46 (.con ok111 (.con ok56 (.con ok47 (.con ok145 (.con ok140 (.con ok49 (.con ok123 (.con ok124 (.con ok50 (.con ok44 (.con ok91 (.con ok24 (.con ok23 (.con ok70 (.con ok62 (.con ok68 (.con ok63 (.con ok69 (.inl Tryz.func117 (by kernel_rfl) (by kernel_rfl) (by kernel_rfl) (.inl Tryz.func116 (by kernel_rfl) (by kernel_rfl) (by kernel_rfl) (.con ok115 (.con ok114 (.con ok73 (.con ok147 (.con ok64 (.con ok66 (.con ok113 (.con ok65 (.con ok67 (.con ok53 (.con ok58 (.con ok122 (.con ok72 (.con ok45 (.con ok90 (.con ok119 (.con ok121 (.con ok99 (.con ok129 (.con ok148 (.con ok149 (.con ok112 (.con ok118 (.con ok120 (.con ok51 (.con ok133 (.con ok103 (.con ok106 (.con ok100 (.con ok150 (.con ok134 (.con ok135 (.con ok137 (.con ok138 (.con ok78 (.con ok54 (.con ok59 (.con ok48 (.con ok102 (.con ok171 (.con ok84 (.con ok85 (.con ok127 (.con ok101 (.con ok86 (.con ok71 (.con ok93 (.con ok92 (.con ok79 (.con ok136 (.con ok144 (.con ok125 (.con ok162 (.con ok146 (.inl Tryz.func83 (by kernel_rfl) (by kernel_rfl) (by kernel_rfl) (.nil)))))))))))))))))))))))))))))))))))))))))))))))))))))))))))))))))))))))))))))
def m55 (n0 : Nat) (f0 : FnV) (x2 x3 x4 x5 x6 x7 x8 x9 : Int) (b10 : Bool) : RT Empty := .obc (.obt (.ret (V.bool (decide (0 <= F108 n0 (elV [Ty.int i64, Ty.int i64] f0) x2 x3 x4 x5 x6 x7 x8 x9 b10)))))
def rl55 (n0 : Nat) (f0 : FnV) (x2 x3 x4 x5 x6 x7 x8 x9 : Int) (b10 : Bool) : T (Leaf (Nat × Nat)) := runL (Nat × Nat) ctB16d u0 s55 [V.sl n0 (elV [Ty.int i64, Ty.int i64] f0), V.fn 56 [] [V.pd [V.int i64 x2, V.int i64 x3, V.int i64 x4, V.int i64 x5, V.int i64 x6, V.int i64 x7, V.int i64 x8, V.int i64 x9, V.bool b10]]]
theorem f55m (n0 : Nat) (f0 : FnV) (x2 x3 x4 x5 x6 x7 x8 x9 : Int) (b10 : Bool) : fitT noD (rl55 n0 f0 x2 x3 x4 x5 x6 x7 x8 x9 b10) (m55 n0 f0 x2 x3 x4 x5 x6 x7 x8 x9 b10) = toF noD (m55 n0 f0 x2 x3 x4 x5 x6 x7 x8 x9 b10) := by kernel_rfl
theorem q55m (n0 : Nat) (f0 : FnV) (x2 x3 x4 x5 x6 x7 x8 x9 : Int) (b10 : Bool) : sameT (rl55 n0 f0 x2 x3 x4 x5 x6 x7 x8 x9 b10) (m55 n0 f0 x2 x3 x4 x5 x6 x7 x8 x9 b10) = (rl55 n0 f0 x2 x3 x4 x5 x6 x7 x8 x9 b10) := by kernel_rfl
theorem run55 (w0 : World) (n0 : Nat) (f0 : FnV) (x2 x3 x4 x5 x6 x7 x8 x9 : Int) (b10 : Bool) {r : V} (h : evR noE (m55 n0 f0 x2 x3 x4 x5 x6 x7 x8 x9 b10) r) : sat (LPof w0 (SV ctB16d)) (runL (Nat × Nat) ctB16d u0 s55 [V.sl n0 (elV [Ty.int i64, Ty.int i64] f0), V.fn 56 [] [V.pd [V.int i64 x2, V.int i64 x3, V.int i64 x4, V.int i64 x5, V.int i64 x6, V.int i64 x7, V.int i64 x8, V.int i64 x9, V.bool b10]]]) (topQ r) := run_ev0 (by kernel_rfl) _ (f55m n0 f0 x2 x3 x4 x5 x6 x7 x8 x9 b10) (q55m n0 f0 x2 x3 x4 x5 x6 x7 x8 x9 b10) h
def F55_0 (n0 : Nat) (f0 : FnV) (x2 x3 x4 x5 x6 x7 x8 x9 : Int) (b10 : Bool) : Bool := decide (0 <= F108 n0 (elV [Ty.int i64, Ty.int i64] f0) x2 x3 x4 x5 x6 x7 x8 x9 b10)
def R55 (n0 : Nat) (f0 : FnV) (x2 x3 x4 x5 x6 x7 x8 x9 : Int) (b10 : Bool) : V := .bool (F55_0 n0 f0 x2 x3 x4 x5 x6 x7 x8 x9 b10)
theorem ev55 (n0 : Nat) (f0 : FnV) (x2 x3 x4 x5 x6 x7 x8 x9 : Int) (b10 : Bool) : evR noE (m55 n0 f0 x2 x3 x4 x5 x6 x7 x8 x9 b10) (R55 n0 f0 x2 x3 x4 x5 x6 x7 x8 x9 b10) := evObc (evObt (evRet (by unfold R55 F55_0; rfl)))
def C55 : PCon := mkC [.sl [.int .i64, .int .i64], .fn 56 [] [.pd [.int .i64, .int .i64, .int .i64, .int .i64, .int .i64, .int .i64, .int .i64, .int .i64, .bool]]] (fun _ => True) fun
  | [.sl n0 f0, .fn _ [] [.pd [.int _ x2, .int _ x3, .int _ x4, .int _ x5, .int _ x6, .int _ x7, .int _ x8, .int _ x9, .bool b10]]] => R55 n0 f0 x2 x3 x4 x5 x6 x7 x8 x9 b10
  | _ => .any
theorem ok55 : (vP C55).Ok Tryz.prog 55 := mkC_ev (J := Nat × Nat) (un := u0) tabB16d hE hI Tryz.func55 (by kernel_rfl) (by kernel_rfl) (by kernel_rfl) rfl (fun w0 ds hp => run55 w0 _ _ _ _ _ _ _ _ _ _ _ (ev55 _ _ _ _ _ _ _ _ _ _ _))
inductive S61 where
  | L0 (i_100 : Int) (n_101 : Nat) (i_102 : Int)
def inv61 (s0 : ByteArray) (x1 : Int) (n2 : Nat) (f2 : FnV) (x4 x5 x6 x7 x8 : Int) : S61 -> Env × List O × Option Ex
  | .L0 i_100 n_101 i_102 => ([(10, V.int i64 i_100), (9, V.int i64 (i64.wrap ((↑n2 : Int) - 1))), (8, V.int i64 (↑n2 : Int)), (7, V.sl n2 (elV [Ty.int i64, Ty.int i64] f2)), (6, V.pl 3 2), (0, V.yl n_101), (1, V.pl 3 0)], [O.cells [V.str s0, V.int i64 x1, V.sl n2 (elV [Ty.int i64, Ty.int i64] f2), V.int i64 x4] 54, O.cells [V.int i64 x5, V.int i64 x6, V.int i64 x7, V.int i64 x8] 29, O.cells [V.int i64 i_102] 3, O.cells [V.str s0, V.int i64 x1, V.sl n2 (elV [Ty.int i64, Ty.int i64] f2), V.int i64 x4] 54], none)
def id61 : S61 -> Nat × Nat
  | .L0 i_100 n_101 i_102 => (0, n_101)
def rl61 (s0 : ByteArray) (x1 : Int) (n2 : Nat) (f2 : FnV) (x4 x5 x6 x7 x8 : Int) : T (Leaf (Nat × Nat)) := runL (Nat × Nat) ctB16d u0 s61 [V.agg [V.str s0, V.int i64 x1, V.sl n2 (elV [Ty.int i64, Ty.int i64] f2), V.int i64 x4], V.agg [V.int i64 x5, V.int i64 x6, V.int i64 x7, V.int i64 x8]]
def lp61_0 (s0 : ByteArray) (x1 : Int) (n2 : Nat) (f2 : FnV) (x4 x5 x6 x7 x8 : Int) (cx : Nat) : Lp (Nat × Nat) := lpT (atT (afT (atT (rl61 s0 x1 n2 f2 x4 x5 x6 x7 x8) []) cx) [])
def lp61 (s0 : ByteArray) (x1 : Int) (n2 : Nat) (f2 : FnV) (x4 x5 x6 x7 x8 : Int) : Nat × Nat -> Lp (Nat × Nat)
  | (0, cx) => lp61_0 s0 x1 n2 f2 x4 x5 x6 x7 x8 cx
  | (_, cx) => lp61_0 s0 x1 n2 f2 x4 x5 x6 x7 x8 cx
def D61 (s0 : ByteArray) (x1 : Int) (n2 : Nat) (f2 : FnV) (x4 x5 x6 x7 x8 : Int) : LD (Nat × Nat) S61 := ⟨id61, lp61 s0 x1 n2 f2 x4 x5 x6 x7 x8, inv61 s0 x1 n2 f2 x4 x5 x6 x7 x8⟩
def st61 (s0 : ByteArray) (x1 : Int) (n2 : Nat) (f2 : FnV) (x4 x5 x6 x7 x8 : Int) : S61 -> RT S61
  | .L0 i_100 n_101 i_102 => .br (decide (i_100 < i64.wrap ((↑n2 : Int) - 1))) (.ob (decide (0 <= i_100 /\ i_100 < (↑n2 : Int))) (.ob (decide (0 <= i64.wrap (i_100 + 1) /\ i64.wrap (i_100 + 1) < (↑n2 : Int))) (.obt (.obt (.obt (.obt (.obc (.obt (.next [some (some 0), some (some 1), some (some 2), some (some 3)] (S61.L0 (i64.wrap (i_100 + 1)) (n_101) (max i_102 (F111_0 (i64.wrap (2 * iv (hdV (f2 i_100.toNat)))) (i64.wrap (2 * iv (hdV (tlV (f2 i_100.toNat))))) (i64.wrap (2 * iv (hdV (f2 (i64.wrap (i_100 + 1)).toNat)))) (i64.wrap (2 * iv (hdV (tlV (f2 (i64.wrap (i_100 + 1)).toNat))))) x4 x5 x6 x7 x8))) []))))))))) (.ret (V.int i64 i_102))
def m61 (s0 : ByteArray) (x1 : Int) (n2 : Nat) (f2 : FnV) (x4 x5 x6 x7 x8 : Int) : RT S61 := .all (fun l_6790 => .asm (true = true -> n2 <= 9223372036854775807) (.enter [some (some 0), some (some 1), some (some 2), some (some 3)] (S61.L0 (0) (l_6790) (0)) []))
theorem f61m (s0 : ByteArray) (x1 : Int) (n2 : Nat) (f2 : FnV) (x4 x5 x6 x7 x8 : Int) : fitT (D61 s0 x1 n2 f2 x4 x5 x6 x7 x8) (rl61 s0 x1 n2 f2 x4 x5 x6 x7 x8) (m61 s0 x1 n2 f2 x4 x5 x6 x7 x8) = toF (D61 s0 x1 n2 f2 x4 x5 x6 x7 x8) (m61 s0 x1 n2 f2 x4 x5 x6 x7 x8) := by kernel_rfl
theorem q61m (s0 : ByteArray) (x1 : Int) (n2 : Nat) (f2 : FnV) (x4 x5 x6 x7 x8 : Int) : sameT (rl61 s0 x1 n2 f2 x4 x5 x6 x7 x8) (m61 s0 x1 n2 f2 x4 x5 x6 x7 x8) = (rl61 s0 x1 n2 f2 x4 x5 x6 x7 x8) := by kernel_rfl
theorem f61_0 (s0 : ByteArray) (x1 : Int) (n2 : Nat) (f2 : FnV) (x4 x5 x6 x7 x8 i_100 : Int) (n_101 : Nat) (i_102 : Int) : fitT (D61 s0 x1 n2 f2 x4 x5 x6 x7 x8) (rdS ctB16d u0 (D61 s0 x1 n2 f2 x4 x5 x6 x7 x8) (S61.L0 i_100 n_101 i_102)) (st61 s0 x1 n2 f2 x4 x5 x6 x7 x8 (S61.L0 i_100 n_101 i_102)) = toF (D61 s0 x1 n2 f2 x4 x5 x6 x7 x8) (st61 s0 x1 n2 f2 x4 x5 x6 x7 x8 (S61.L0 i_100 n_101 i_102)) := by kernel_rfl
theorem q61_0 (s0 : ByteArray) (x1 : Int) (n2 : Nat) (f2 : FnV) (x4 x5 x6 x7 x8 i_100 : Int) (n_101 : Nat) (i_102 : Int) : sameT (rdS ctB16d u0 (D61 s0 x1 n2 f2 x4 x5 x6 x7 x8) (S61.L0 i_100 n_101 i_102)) (st61 s0 x1 n2 f2 x4 x5 x6 x7 x8 (S61.L0 i_100 n_101 i_102)) = rdS ctB16d u0 (D61 s0 x1 n2 f2 x4 x5 x6 x7 x8) (S61.L0 i_100 n_101 i_102) := by kernel_rfl
theorem run61 (w0 : World) (s0 : ByteArray) (x1 : Int) (n2 : Nat) (f2 : FnV) (x4 x5 x6 x7 x8 : Int) {r : V} (h : evR (Ev (st61 s0 x1 n2 f2 x4 x5 x6 x7 x8)) (m61 s0 x1 n2 f2 x4 x5 x6 x7 x8) r) : sat (LPof w0 (SV ctB16d)) (runL (Nat × Nat) ctB16d u0 s61 [V.agg [V.str s0, V.int i64 x1, V.sl n2 (elV [Ty.int i64, Ty.int i64] f2), V.int i64 x4], V.agg [V.int i64 x5, V.int i64 x6, V.int i64 x7, V.int i64 x8]]) (topQ r) := run_ev (by kernel_rfl) (D61 s0 x1 n2 f2 x4 x5 x6 x7 x8) (st61 s0 x1 n2 f2 x4 x5 x6 x7 x8) _ (f61m s0 x1 n2 f2 x4 x5 x6 x7 x8) (q61m s0 x1 n2 f2 x4 x5 x6 x7 x8) (fun s => match s with | .L0 i_100 n_101 i_102 => f61_0 s0 x1 n2 f2 x4 x5 x6 x7 x8 i_100 n_101 i_102) (fun s => match s with | .L0 i_100 n_101 i_102 => q61_0 s0 x1 n2 f2 x4 x5 x6 x7 x8 i_100 n_101 i_102) h
def p61 (n2 : Nat) (f2 : FnV) (x4 x5 x6 x7 x8 : Int) (ii : Nat) : Int := F111_0 (i64.wrap (2 * iv (hdV (f2 ii)))) (i64.wrap (2 * iv (hdV (tlV (f2 ii))))) (i64.wrap (2 * iv (hdV (f2 (i64.wrap ((ii : Int) + 1)).toNat)))) (i64.wrap (2 * iv (hdV (tlV (f2 (i64.wrap ((ii : Int) + 1)).toNat))))) x4 x5 x6 x7 x8
def F61 (n2 : Nat) (f2 : FnV) (x4 x5 x6 x7 x8 : Int) : Int := maxTo (p61 n2 f2 x4 x5 x6 x7 x8) (n2 - 1)
theorem ev61_0 (s0 : ByteArray) (x1 : Int) (n2 : Nat) (f2 : FnV) (x4 x5 x6 x7 x8 : Int) : evR (Ev (st61 s0 x1 n2 f2 x4 x5 x6 x7 x8)) (m61 s0 x1 n2 f2 x4 x5 x6 x7 x8) (.int .i64 (F61 n2 f2 x4 x5 x6 x7 x8)) := evAll fun l => evAsm1 fun hn => evEnter (pieces_ev hn fun i a _ => rfl)
theorem ev61 (s0 : ByteArray) (x1 : Int) (n2 : Nat) (f2 : FnV) (x4 x5 x6 x7 x8 : Int) : evR (Ev (st61 s0 x1 n2 f2 x4 x5 x6 x7 x8)) (m61 s0 x1 n2 f2 x4 x5 x6 x7 x8) (.int .i64 (F61 n2 (elV [.int .i64, .int .i64] f2) x4 x5 x6 x7 x8)) := ev61_0 s0 x1 n2 f2 x4 x5 x6 x7 x8
def C61 : PCon := mkC [.agg tyR, .agg [.int .i64, .int .i64, .int .i64, .int .i64]] (fun _ => True) fun
  | [.agg [.str s0, .int _ x1, .sl n2 f2, .int _ x4], .agg [.int _ x5, .int _ x6, .int _ x7, .int _ x8]] => .int .i64 (F61 n2 f2 x4 x5 x6 x7 x8)
  | _ => .any
theorem ok61 : (vP C61).Ok Tryz.prog 61 := mkC_ev (J := Nat × Nat) (un := u0) tabB16d hE hI Tryz.func61 (by kernel_rfl) (by kernel_rfl) (by kernel_rfl) rfl (fun w0 ds hp => run61 w0 _ _ _ _ _ _ _ _ _ (ev61 _ _ _ _ _ _ _ _ _))
inductive S74 where
  | L0 (i_100 : Int) (n_101 : Nat)
def inv74 (s0 : ByteArray) (x1 : Int) (n2 : Nat) (f2 : FnV) (x4 x5 x6 : Int) : S74 -> Env × List O × Option Ex
  | .L0 i_100 n_101 => ([(10, V.int i64 i_100), (9, V.int i64 (i64.wrap ((↑n2 : Int) - 1))), (8, V.int i64 (↑n2 : Int)), (7, V.sl n2 (elV [Ty.int i64, Ty.int i64] f2)), (6, V.pl 4 2), (0, V.yl n_101), (1, V.pl 4 0)], [O.cells [V.str s0, V.int i64 x1, V.sl n2 (elV [Ty.int i64, Ty.int i64] f2), V.int i64 x4] 54, O.cells [V.int i64 x5] 3, O.cells [V.int i64 x6] 3, O.cells [V.kb false] 4, O.cells [V.str s0, V.int i64 x1, V.sl n2 (elV [Ty.int i64, Ty.int i64] f2), V.int i64 x4] 54], none)
def id74 : S74 -> Nat × Nat
  | .L0 i_100 n_101 => (0, n_101)
def rl74 (s0 : ByteArray) (x1 : Int) (n2 : Nat) (f2 : FnV) (x4 x5 x6 : Int) : T (Leaf (Nat × Nat)) := runL (Nat × Nat) ctB16d u0 s74 [V.agg [V.str s0, V.int i64 x1, V.sl n2 (elV [Ty.int i64, Ty.int i64] f2), V.int i64 x4], V.int i64 x5, V.int i64 x6]
def lp74_0 (s0 : ByteArray) (x1 : Int) (n2 : Nat) (f2 : FnV) (x4 x5 x6 : Int) (cx : Nat) : Lp (Nat × Nat) := lpT (atT (afT (atT (rl74 s0 x1 n2 f2 x4 x5 x6) []) cx) [])
def lp74 (s0 : ByteArray) (x1 : Int) (n2 : Nat) (f2 : FnV) (x4 x5 x6 : Int) : Nat × Nat -> Lp (Nat × Nat)
  | (0, cx) => lp74_0 s0 x1 n2 f2 x4 x5 x6 cx
  | (_, cx) => lp74_0 s0 x1 n2 f2 x4 x5 x6 cx
def D74 (s0 : ByteArray) (x1 : Int) (n2 : Nat) (f2 : FnV) (x4 x5 x6 : Int) : LD (Nat × Nat) S74 := ⟨id74, lp74 s0 x1 n2 f2 x4 x5 x6, inv74 s0 x1 n2 f2 x4 x5 x6⟩
def st74 (s0 : ByteArray) (x1 : Int) (n2 : Nat) (f2 : FnV) (x4 x5 x6 : Int) : S74 -> RT S74
  | .L0 i_100 n_101 => .br (decide (i_100 < i64.wrap ((↑n2 : Int) - 1))) (.ob (decide (0 <= i_100 /\ i_100 < (↑n2 : Int))) (.ob (decide (0 <= i64.wrap (i_100 + 1) /\ i64.wrap (i_100 + 1) < (↑n2 : Int))) (.obt (.obt (.obt (.obt (.obc (.obt (.br (F123_0 (i64.wrap (2 * iv (hdV (f2 i_100.toNat)))) (i64.wrap (2 * iv (hdV (tlV (f2 i_100.toNat))))) (i64.wrap (2 * iv (hdV (f2 (i64.wrap (i_100 + 1)).toNat)))) (i64.wrap (2 * iv (hdV (tlV (f2 (i64.wrap (i_100 + 1)).toNat))))) x4 x5 x6) (.ret (V.kb true)) (.next [some (some 0), some (some 1), some (some 2), some (some 3), some (some 4)] (S74.L0 (i64.wrap (i_100 + 1)) (n_101)) [])))))))))) (.ret (V.kb false))
def m74 (s0 : ByteArray) (x1 : Int) (n2 : Nat) (f2 : FnV) (x4 x5 x6 : Int) : RT S74 := .all (fun l_7592 => .asm (true = true -> n2 <= 9223372036854775807) (.enter [some (some 0), some (some 1), some (some 2), some (some 3), some (some 4)] (S74.L0 (0) (l_7592)) []))
theorem f74m (s0 : ByteArray) (x1 : Int) (n2 : Nat) (f2 : FnV) (x4 x5 x6 : Int) : fitT (D74 s0 x1 n2 f2 x4 x5 x6) (rl74 s0 x1 n2 f2 x4 x5 x6) (m74 s0 x1 n2 f2 x4 x5 x6) = toF (D74 s0 x1 n2 f2 x4 x5 x6) (m74 s0 x1 n2 f2 x4 x5 x6) := by kernel_rfl
theorem q74m (s0 : ByteArray) (x1 : Int) (n2 : Nat) (f2 : FnV) (x4 x5 x6 : Int) : sameT (rl74 s0 x1 n2 f2 x4 x5 x6) (m74 s0 x1 n2 f2 x4 x5 x6) = (rl74 s0 x1 n2 f2 x4 x5 x6) := by kernel_rfl
theorem f74_0 (s0 : ByteArray) (x1 : Int) (n2 : Nat) (f2 : FnV) (x4 x5 x6 i_100 : Int) (n_101 : Nat) : fitT (D74 s0 x1 n2 f2 x4 x5 x6) (rdS ctB16d u0 (D74 s0 x1 n2 f2 x4 x5 x6) (S74.L0 i_100 n_101)) (st74 s0 x1 n2 f2 x4 x5 x6 (S74.L0 i_100 n_101)) = toF (D74 s0 x1 n2 f2 x4 x5 x6) (st74 s0 x1 n2 f2 x4 x5 x6 (S74.L0 i_100 n_101)) := by kernel_rfl
theorem q74_0 (s0 : ByteArray) (x1 : Int) (n2 : Nat) (f2 : FnV) (x4 x5 x6 i_100 : Int) (n_101 : Nat) : sameT (rdS ctB16d u0 (D74 s0 x1 n2 f2 x4 x5 x6) (S74.L0 i_100 n_101)) (st74 s0 x1 n2 f2 x4 x5 x6 (S74.L0 i_100 n_101)) = rdS ctB16d u0 (D74 s0 x1 n2 f2 x4 x5 x6) (S74.L0 i_100 n_101) := by kernel_rfl
theorem run74 (w0 : World) (s0 : ByteArray) (x1 : Int) (n2 : Nat) (f2 : FnV) (x4 x5 x6 : Int) {r : V} (h : evR (Ev (st74 s0 x1 n2 f2 x4 x5 x6)) (m74 s0 x1 n2 f2 x4 x5 x6) r) : sat (LPof w0 (SV ctB16d)) (runL (Nat × Nat) ctB16d u0 s74 [V.agg [V.str s0, V.int i64 x1, V.sl n2 (elV [Ty.int i64, Ty.int i64] f2), V.int i64 x4], V.int i64 x5, V.int i64 x6]) (topQ r) := run_ev (by kernel_rfl) (D74 s0 x1 n2 f2 x4 x5 x6) (st74 s0 x1 n2 f2 x4 x5 x6) _ (f74m s0 x1 n2 f2 x4 x5 x6) (q74m s0 x1 n2 f2 x4 x5 x6) (fun s => match s with | .L0 i_100 n_101 => f74_0 s0 x1 n2 f2 x4 x5 x6 i_100 n_101) (fun s => match s with | .L0 i_100 n_101 => q74_0 s0 x1 n2 f2 x4 x5 x6 i_100 n_101) h
def p74 (n2 : Nat) (f2 : FnV) (x4 x5 x6 : Int) (ii : Nat) : Bool := F123_0 (i64.wrap (2 * iv (hdV (f2 ii)))) (i64.wrap (2 * iv (hdV (tlV (f2 ii))))) (i64.wrap (2 * iv (hdV (f2 (i64.wrap ((ii : Int) + 1)).toNat)))) (i64.wrap (2 * iv (hdV (tlV (f2 (i64.wrap ((ii : Int) + 1)).toNat))))) x4 x5 x6
def F74 (n2 : Nat) (f2 : FnV) (x4 x5 x6 : Int) : Bool := exB (n2 - 1) (p74 n2 f2 x4 x5 x6)
theorem ev74_0 (s0 : ByteArray) (x1 : Int) (n2 : Nat) (f2 : FnV) (x4 x5 x6 : Int) : evR (Ev (st74 s0 x1 n2 f2 x4 x5 x6)) (m74 s0 x1 n2 f2 x4 x5 x6) (.bool (F74 n2 f2 x4 x5 x6)) := evAll fun l => evAsm1 fun hn => evEnter (pieces_ex hn fun i _ => rfl)
theorem ev74 (s0 : ByteArray) (x1 : Int) (n2 : Nat) (f2 : FnV) (x4 x5 x6 : Int) : evR (Ev (st74 s0 x1 n2 f2 x4 x5 x6)) (m74 s0 x1 n2 f2 x4 x5 x6) (.bool (F74 n2 (elV [.int .i64, .int .i64] f2) x4 x5 x6)) := ev74_0 s0 x1 n2 f2 x4 x5 x6
def C74 : PCon := mkC [.agg tyR, .int .i64, .int .i64] (fun _ => True) fun
  | [.agg [.str s0, .int _ x1, .sl n2 f2, .int _ x4], .int _ x5, .int _ x6] => .bool (F74 n2 f2 x4 x5 x6)
  | _ => .any
theorem ok74 : (vP C74).Ok Tryz.prog 74 := mkC_ev (J := Nat × Nat) (un := u0) tabB16d hE hI Tryz.func74 (by kernel_rfl) (by kernel_rfl) (by kernel_rfl) rfl (fun w0 ds hp => run74 w0 _ _ _ _ _ _ _ (ev74 _ _ _ _ _ _ _))
end
end Go.Dx
namespace Go.Dx
open Go.IntKind (i64 u64 u8)
open Go.Sx Go.Proofs
set_option maxRecDepth 100000
set_option linter.unusedVariables false
set_option linter.unusedSimpArgs false
noncomputable section
def ctB16e : CTab := (55, .con C55) :: (61, .con C61) :: (74, .con C74) :: ctB16d
theorem tabB16e : TabOk Tryz.prog eqs its ctB16e := .con ok55 (.con ok61 (.con ok74 (tabB16d)))
attribute [local irreducible] F44 F50_0 F91_0
def m22 (n0 : Nat) (f0 : FnV) (n2 : Nat) (f2 : FnV) (n4 : Nat) (f4 : FnV) (n6 : Nat) (f6 : FnV) (x8 x9 x10 x11 x12 : Int) : RT Empty := .asm (true = true -> n0 <= 9223372036854775807) (.obp (((∀ (i : Nat), i < n0 -> (sv (hdV (f0 i))).size <= (9223372036854775807 : Nat)) /\ ∀ (i : Nat), i < n6 -> (sv (hdV (f6 i))).size <= (9223372036854775807 : Nat)) /\ (0 : Nat) = (0 : Nat) /\ (2 : Nat) <= (100 : Nat)) (.obt (.br (F44 n0 (elV tyR f0) n2 (elV tyT f2) n4 (elV tyF f4) n6 (elV tyC f6) 2 (elV [Ty.int i64] (secF [V.int i64 x8, V.int i64 (↑n0 : Int)] 0 ((1 + 1 - 0) / 2))) != 0) (.ret (V.tup [V.int i64 0, V.int i64 (F44 n0 (elV tyR f0) n2 (elV tyT f2) n4 (elV tyF f4) n6 (elV tyC f6) 2 (elV [Ty.int i64] (secF [V.int i64 x8, V.int i64 (↑n0 : Int)] 0 ((1 + 1 - 0) / 2))))])) (.obc (.obt (.br (F53_0 x9 x10 x11 x12) (.ret (V.tup [V.int i64 0, V.int i64 7])) (.ob (decide (0 <= x8 /\ x8 < (↑n0 : Int))) (.obc (.obt (.ret (V.tup [V.int i64 (F61 (lenV (hdV (tlV (tlV (f0 x8.toNat))))) (fun i => views [Ty.int i64, Ty.int i64] (atV (hdV (tlV (tlV (f0 x8.toNat)))) i)) (iv (hdV (tlV (tlV (tlV (f0 x8.toNat)))))) x9 x10 x11 x12), V.int i64 0])))))))))))
def rl22 (n0 : Nat) (f0 : FnV) (n2 : Nat) (f2 : FnV) (n4 : Nat) (f4 : FnV) (n6 : Nat) (f6 : FnV) (x8 x9 x10 x11 x12 : Int) : T (Leaf (Nat × Nat)) := runL (Nat × Nat) ctB16e u0 s22 [scV n0 f0 n2 f2 n4 f4 n6 f6, V.int i64 x8, V.agg [V.int i64 x9, V.int i64 x10, V.int i64 x11, V.int i64 x12]]
theorem f22m (n0 : Nat) (f0 : FnV) (n2 : Nat) (f2 : FnV) (n4 : Nat) (f4 : FnV) (n6 : Nat) (f6 : FnV) (x8 x9 x10 x11 x12 : Int) : fitT noD (rl22 n0 f0 n2 f2 n4 f4 n6 f6 x8 x9 x10 x11 x12) (m22 n0 f0 n2 f2 n4 f4 n6 f6 x8 x9 x10 x11 x12) = toF noD (m22 n0 f0 n2 f2 n4 f4 n6 f6 x8 x9 x10 x11 x12) := by kernel_rfl
theorem q22m (n0 : Nat) (f0 : FnV) (n2 : Nat) (f2 : FnV) (n4 : Nat) (f4 : FnV) (n6 : Nat) (f6 : FnV) (x8 x9 x10 x11 x12 : Int) : sameT (rl22 n0 f0 n2 f2 n4 f4 n6 f6 x8 x9 x10 x11 x12) (m22 n0 f0 n2 f2 n4 f4 n6 f6 x8 x9 x10 x11 x12) = (rl22 n0 f0 n2 f2 n4 f4 n6 f6 x8 x9 x10 x11 x12) := by kernel_rfl
theorem run22 (w0 : World) (n0 : Nat) (f0 : FnV) (n2 : Nat) (f2 : FnV) (n4 : Nat) (f4 : FnV) (n6 : Nat) (f6 : FnV) (x8 x9 x10 x11 x12 : Int) {r : V} (h : evR noE (m22 n0 f0 n2 f2 n4 f4 n6 f6 x8 x9 x10 x11 x12) r) : sat (LPof w0 (SV ctB16e)) (runL (Nat × Nat) ctB16e u0 s22 [scV n0 f0 n2 f2 n4 f4 n6 f6, V.int i64 x8, V.agg [V.int i64 x9, V.int i64 x10, V.int i64 x11, V.int i64 x12]]) (topQ r) := run_ev0 (by kernel_rfl) _ (f22m n0 f0 n2 f2 n4 f4 n6 f6 x8 x9 x10 x11 x12) (q22m n0 f0 n2 f2 n4 f4 n6 f6 x8 x9 x10 x11 x12) h
def F22_0 (n0 : Nat) (f0 : FnV) (n2 : Nat) (f2 : FnV) (n4 : Nat) (f4 : FnV) (n6 : Nat) (f6 : FnV) (x8 x9 x10 x11 x12 : Int) : Int := bif F44 n0 (elV tyR f0) n2 (elV tyT f2) n4 (elV tyF f4) n6 (elV tyC f6) 2 (elV [Ty.int i64] (secF [V.int i64 x8, V.int i64 (↑n0 : Int)] 0 ((1 + 1 - 0) / 2))) != 0 then 0 else bif F53_0 x9 x10 x11 x12 then 0 else F61 (lenV (hdV (tlV (tlV (f0 x8.toNat))))) (fun i => views [Ty.int i64, Ty.int i64] (atV (hdV (tlV (tlV (f0 x8.toNat)))) i)) (iv (hdV (tlV (tlV (tlV (f0 x8.toNat)))))) x9 x10 x11 x12
def F22_1 (n0 : Nat) (f0 : FnV) (n2 : Nat) (f2 : FnV) (n4 : Nat) (f4 : FnV) (n6 : Nat) (f6 : FnV) (x8 x9 x10 x11 x12 : Int) : Int := bif F44 n0 (elV tyR f0) n2 (elV tyT f2) n4 (elV tyF f4) n6 (elV tyC f6) 2 (elV [Ty.int i64] (secF [V.int i64 x8, V.int i64 (↑n0 : Int)] 0 ((1 + 1 - 0) / 2))) != 0 then F44 n0 (elV tyR f0) n2 (elV tyT f2) n4 (elV tyF f4) n6 (elV tyC f6) 2 (elV [Ty.int i64] (secF [V.int i64 x8, V.int i64 (↑n0 : Int)] 0 ((1 + 1 - 0) / 2))) else bif F53_0 x9 x10 x11 x12 then 7 else 0
def R22 (n0 : Nat) (f0 : FnV) (n2 : Nat) (f2 : FnV) (n4 : Nat) (f4 : FnV) (n6 : Nat) (f6 : FnV) (x8 x9 x10 x11 x12 : Int) : V := .tup [.int i64 (F22_0 n0 f0 n2 f2 n4 f4 n6 f6 x8 x9 x10 x11 x12), .int i64 (F22_1 n0 f0 n2 f2 n4 f4 n6 f6 x8 x9 x10 x11 x12)]
theorem ev22 (n0 : Nat) (f0 : FnV) (n2 : Nat) (f2 : FnV) (n4 : Nat) (f4 : FnV) (n6 : Nat) (f6 : FnV) (x8 x9 x10 x11 x12 : Int) (hp : SzOk n0 f0 /\ SzOk n6 f6) : evR noE (m22 n0 f0 n2 f2 n4 f4 n6 f6 x8 x9 x10 x11 x12) (R22 n0 f0 n2 f2 n4 f4 n6 f6 x8 x9 x10 x11 x12) := evAsm (fun a0 => evObp (by first | assumption | ((first | exact ⟨hp, rfl, by decide⟩ | (simp_all [cond_eq_ite] <;> first | omega | exact (k44_4 (by assumption) (by assumption) h0).1 | exact (k44_4 (by assumption) (by assumption) h0).2 | exact k44_2 (by assumption) h0 | exact k44_2 (by assumption) h1 | exact k50 h0 | exact k50 h1 | exact k50 hc.1 | exact k44_2 (by assumption) hc)))) (evObt (evBr (fun h0 => evRet (by unfold R22 F22_0 F22_1; try rw [h0]; rfl)) (fun h0 => evObc (evObt (evBr (fun h1 => evRet (by unfold R22 F22_0 F22_1; try rw [h0]; try rw [h1]; rfl)) (fun h1 => evOb (by first | assumption | ((simp_all [cond_eq_ite] <;> first | omega | exact (k44_4 (by assumption) (by assumption) h0).1 | exact (k44_4 (by assumption) (by assumption) h0).2 | exact k44_2 (by assumption) h0 | exact k44_2 (by assumption) h1 | exact k50 h0 | exact k50 h1 | exact k50 hc.1 | exact k44_2 (by assumption) hc))) (evObc (evObt (evRet (by unfold R22 F22_0 F22_1; try rw [h0]; try rw [h1]; rfl)))))))))))
def C22 : PCon := mkC [.agg [.sl tyR, .sl tyT, .sl tyF, .sl tyC], .int .i64, .agg [.int .i64, .int .i64, .int .i64, .int .i64]] (fun
  | [.agg [.sl n0 f0, .sl n2 f2, .sl n4 f4, .sl n6 f6], .int _ x8, .agg [.int _ x9, .int _ x10, .int _ x11, .int _ x12]] => SzOk n0 f0 /\ SzOk n6 f6
  | _ => False) fun
  | [.agg [.sl n0 f0, .sl n2 f2, .sl n4 f4, .sl n6 f6], .int _ x8, .agg [.int _ x9, .int _ x10, .int _ x11, .int _ x12]] => R22 n0 f0 n2 f2 n4 f4 n6 f6 x8 x9 x10 x11 x12
  | _ => .any
theorem ok22 : (vP C22).Ok Tryz.prog 22 := mkC_ev (J := Nat × Nat) (un := u0) tabB16e hE hI Tryz.func22 (by kernel_rfl) (by kernel_rfl) (by kernel_rfl) rfl (fun w0 ds hp => run22 w0 _ _ _ _ _ _ _ _ _ _ _ _ _ (ev22 _ _ _ _ _ _ _ _ _ _ _ _ _ hp))
def m25 (n0 : Nat) (f0 : FnV) (n2 : Nat) (f2 : FnV) (n4 : Nat) (f4 : FnV) (n6 : Nat) (f6 : FnV) (x8 x9 x10 : Int) : RT Empty := .asm (true = true -> n0 <= 9223372036854775807) (.obp (((∀ (i : Nat), i < n0 -> (sv (hdV (f0 i))).size <= (9223372036854775807 : Nat)) /\ ∀ (i : Nat), i < n6 -> (sv (hdV (f6 i))).size <= (9223372036854775807 : Nat)) /\ (0 : Nat) = (0 : Nat) /\ (2 : Nat) <= (100 : Nat)) (.obt (.br (F44 n0 (elV tyR f0) n2 (elV tyT f2) n4 (elV tyF f4) n6 (elV tyC f6) 2 (elV [Ty.int i64] (secF [V.int i64 x8, V.int i64 (↑n0 : Int)] 0 ((1 + 1 - 0) / 2))) != 0) (.ret (V.tup [V.kb false, V.int i64 (F44 n0 (elV tyR f0) n2 (elV tyT f2) n4 (elV tyF f4) n6 (elV tyC f6) 2 (elV [Ty.int i64] (secF [V.int i64 x8, V.int i64 (↑n0 : Int)] 0 ((1 + 1 - 0) / 2))))])) (.obc (.obt (.br (F45_0 2 (elV [Ty.int i64] (secF [V.int i64 x9, V.int i64 x10] 0 ((1 + 1 - 0) / 2)))) (.ret (V.tup [V.kb false, V.int i64 7])) (.ob (decide (0 <= x8 /\ x8 < (↑n0 : Int))) (.obc (.obt (.ret (V.tup [V.bool (F74 (lenV (hdV (tlV (tlV (f0 x8.toNat))))) (fun i => views [Ty.int i64, Ty.int i64] (atV (hdV (tlV (tlV (f0 x8.toNat)))) i)) (iv (hdV (tlV (tlV (tlV (f0 x8.toNat)))))) x9 x10), V.int i64 0])))))))))))
def rl25 (n0 : Nat) (f0 : FnV) (n2 : Nat) (f2 : FnV) (n4 : Nat) (f4 : FnV) (n6 : Nat) (f6 : FnV) (x8 x9 x10 : Int) : T (Leaf (Nat × Nat)) := runL (Nat × Nat) ctB16e u0 s25 [scV n0 f0 n2 f2 n4 f4 n6 f6, V.int i64 x8, V.int i64 x9, V.int i64 x10]
theorem f25m (n0 : Nat) (f0 : FnV) (n2 : Nat) (f2 : FnV) (n4 : Nat) (f4 : FnV) (n6 : Nat) (f6 : FnV) (x8 x9 x10 : Int) : fitT noD (rl25 n0 f0 n2 f2 n4 f4 n6 f6 x8 x9 x10) (m25 n0 f0 n2 f2 n4 f4 n6 f6 x8 x9 x10) = toF noD (m25 n0 f0 n2 f2 n4 f4 n6 f6 x8 x9 x10) := by kernel_rfl
theorem q25m (n0 : Nat) (f0 : FnV) (n2 : Nat) (f2 : FnV) (n4 : Nat) (f4 : FnV) (n6 : Nat) (f6 : FnV) (x8 x9 x10 : Int) : sameT (rl25 n0 f0 n2 f2 n4 f4 n6 f6 x8 x9 x10) (m25 n0 f0 n2 f2 n4 f4 n6 f6 x8 x9 x10) = (rl25 n0 f0 n2 f2 n4 f4 n6 f6 x8 x9 x10) := by kernel_rfl
theorem run25 (w0 : World) (n0 : Nat) (f0 : FnV) (n2 : Nat) (f2 : FnV) (n4 : Nat) (f4 : FnV) (n6 : Nat) (f6 : FnV) (x8 x9 x10 : Int) {r : V} (h : evR noE (m25 n0 f0 n2 f2 n4 f4 n6 f6 x8 x9 x10) r) : sat (LPof w0 (SV ctB16e)) (runL (Nat × Nat) ctB16e u0 s25 [scV n0 f0 n2 f2 n4 f4 n6 f6, V.int i64 x8, V.int i64 x9, V.int i64 x10]) (topQ r) := run_ev0 (by kernel_rfl) _ (f25m n0 f0 n2 f2 n4 f4 n6 f6 x8 x9 x10) (q25m n0 f0 n2 f2 n4 f4 n6 f6 x8 x9 x10) h
def F25_0 (n0 : Nat) (f0 : FnV) (n2 : Nat) (f2 : FnV) (n4 : Nat) (f4 : FnV) (n6 : Nat) (f6 : FnV) (x8 x9 x10 : Int) : Bool := bif F44 n0 (elV tyR f0) n2 (elV tyT f2) n4 (elV tyF f4) n6 (elV tyC f6) 2 (elV [Ty.int i64] (secF [V.int i64 x8, V.int i64 (↑n0 : Int)] 0 ((1 + 1 - 0) / 2))) != 0 then false else bif F45_0 2 (elV [Ty.int i64] (secF [V.int i64 x9, V.int i64 x10] 0 ((1 + 1 - 0) / 2))) then false else F74 (lenV (hdV (tlV (tlV (f0 x8.toNat))))) (fun i => views [Ty.int i64, Ty.int i64] (atV (hdV (tlV (tlV (f0 x8.toNat)))) i)) (iv (hdV (tlV (tlV (tlV (f0 x8.toNat)))))) x9 x10
def F25_1 (n0 : Nat) (f0 : FnV) (n2 : Nat) (f2 : FnV) (n4 : Nat) (f4 : FnV) (n6 : Nat) (f6 : FnV) (x8 x9 x10 : Int) : Int := bif F44 n0 (elV tyR f0) n2 (elV tyT f2) n4 (elV tyF f4) n6 (elV tyC f6) 2 (elV [Ty.int i64] (secF [V.int i64 x8, V.int i64 (↑n0 : Int)] 0 ((1 + 1 - 0) / 2))) != 0 then F44 n0 (elV tyR f0) n2 (elV tyT f2) n4 (elV tyF f4) n6 (elV tyC f6) 2 (elV [Ty.int i64] (secF [V.int i64 x8, V.int i64 (↑n0 : Int)] 0 ((1 + 1 - 0) / 2))) else bif F45_0 2 (elV [Ty.int i64] (secF [V.int i64 x9, V.int i64 x10] 0 ((1 + 1 - 0) / 2))) then 7 else 0
def R25 (n0 : Nat) (f0 : FnV) (n2 : Nat) (f2 : FnV) (n4 : Nat) (f4 : FnV) (n6 : Nat) (f6 : FnV) (x8 x9 x10 : Int) : V := .tup [.bool (F25_0 n0 f0 n2 f2 n4 f4 n6 f6 x8 x9 x10), .int i64 (F25_1 n0 f0 n2 f2 n4 f4 n6 f6 x8 x9 x10)]
theorem ev25 (n0 : Nat) (f0 : FnV) (n2 : Nat) (f2 : FnV) (n4 : Nat) (f4 : FnV) (n6 : Nat) (f6 : FnV) (x8 x9 x10 : Int) (hp : SzOk n0 f0 /\ SzOk n6 f6) : evR noE (m25 n0 f0 n2 f2 n4 f4 n6 f6 x8 x9 x10) (R25 n0 f0 n2 f2 n4 f4 n6 f6 x8 x9 x10) := evAsm (fun a0 => evObp (by first | assumption | ((first | exact ⟨hp, rfl, by decide⟩ | (simp_all [cond_eq_ite] <;> first | omega | exact (k44_4 (by assumption) (by assumption) h0).1 | exact (k44_4 (by assumption) (by assumption) h0).2 | exact k44_2 (by assumption) h0 | exact k44_2 (by assumption) h1 | exact k50 h0 | exact k50 h1 | exact k50 hc.1 | exact k44_2 (by assumption) hc)))) (evObt (evBr (fun h0 => evRet (by unfold R25 F25_0 F25_1; try rw [h0]; rfl)) (fun h0 => evObc (evObt (evBr (fun h1 => evRet (by unfold R25 F25_0 F25_1; try rw [h0]; try rw [h1]; rfl)) (fun h1 => evOb (by first | assumption | ((simp_all [cond_eq_ite] <;> first | omega | exact (k44_4 (by assumption) (by assumption) h0).1 | exact (k44_4 (by assumption) (by assumption) h0).2 | exact k44_2 (by assumption) h0 | exact k44_2 (by assumption) h1 | exact k50 h0 | exact k50 h1 | exact k50 hc.1 | exact k44_2 (by assumption) hc))) (evObc (evObt (evRet (by unfold R25 F25_0 F25_1; try rw [h0]; try rw [h1]; rfl)))))))))))
def C25 : PCon := mkC [.agg [.sl tyR, .sl tyT, .sl tyF, .sl tyC], .int .i64, .int .i64, .int .i64] (fun
  | [.agg [.sl n0 f0, .sl n2 f2, .sl n4 f4, .sl n6 f6], .int _ x8, .int _ x9, .int _ x10] => SzOk n0 f0 /\ SzOk n6 f6
  | _ => False) fun
  | [.agg [.sl n0 f0, .sl n2 f2, .sl n4 f4, .sl n6 f6], .int _ x8, .int _ x9, .int _ x10] => R25 n0 f0 n2 f2 n4 f4 n6 f6 x8 x9 x10
  | _ => .any
theorem ok25 : (vP C25).Ok Tryz.prog 25 := mkC_ev (J := Nat × Nat) (un := u0) tabB16e hE hI Tryz.func25 (by kernel_rfl) (by kernel_rfl) (by kernel_rfl) rfl (fun w0 ds hp => run25 w0 _ _ _ _ _ _ _ _ _ _ _ (ev25 _ _ _ _ _ _ _ _ _ _ _ hp))
def m15 (n0 : Nat) (f0 : FnV) (n2 : Nat) (f2 : FnV) (n4 : Nat) (f4 : FnV) (n6 : Nat) (f6 : FnV) (x8 x9 x10 : Int) : RT Empty := .asm (true = true -> n6 <= 9223372036854775807) (.obp (((∀ (i : Nat), i < n0 -> (sv (hdV (f0 i))).size <= (9223372036854775807 : Nat)) /\ ∀ (i : Nat), i < n6 -> (sv (hdV (f6 i))).size <= (9223372036854775807 : Nat)) /\ (0 : Nat) = (0 : Nat) /\ (2 : Nat) <= (100 : Nat)) (.obt (.br (F44 n0 (elV tyR f0) n2 (elV tyT f2) n4 (elV tyF f4) n6 (elV tyC f6) 2 (elV [Ty.int i64] (secF [V.int i64 x8, V.int i64 (↑n6 : Int)] 0 ((1 + 1 - 0) / 2))) != 0) (.ret (V.tup [V.int i64 0, V.int i64 (F44 n0 (elV tyR f0) n2 (elV tyT f2) n4 (elV tyF f4) n6 (elV tyC f6) 2 (elV [Ty.int i64] (secF [V.int i64 x8, V.int i64 (↑n6 : Int)] 0 ((1 + 1 - 0) / 2))))])) (.obc (.obt (.br (F45_0 2 (elV [Ty.int i64] (secF [V.int i64 x9, V.int i64 x10] 0 ((1 + 1 - 0) / 2)))) (.ret (V.tup [V.int i64 0, V.int i64 7])) (.obp ((0 : Int) <= x8 /\ x8 < (↑n6 : Int)) (.obt (.ret (V.tup [V.int i64 (F46 n2 (elV tyT f2) (elV tyC f6) x8 x9 x10), V.int i64 0]))))))))))
def rl15 (n0 : Nat) (f0 : FnV) (n2 : Nat) (f2 : FnV) (n4 : Nat) (f4 : FnV) (n6 : Nat) (f6 : FnV) (x8 x9 x10 : Int) : T (Leaf (Nat × Nat)) := runL (Nat × Nat) ctB16e u0 s15 [scV n0 f0 n2 f2 n4 f4 n6 f6, V.int i64 x8, V.int i64 x9, V.int i64 x10]
theorem f15m (n0 : Nat) (f0 : FnV) (n2 : Nat) (f2 : FnV) (n4 : Nat) (f4 : FnV) (n6 : Nat) (f6 : FnV) (x8 x9 x10 : Int) : fitT noD (rl15 n0 f0 n2 f2 n4 f4 n6 f6 x8 x9 x10) (m15 n0 f0 n2 f2 n4 f4 n6 f6 x8 x9 x10) = toF noD (m15 n0 f0 n2 f2 n4 f4 n6 f6 x8 x9 x10) := by kernel_rfl
theorem q15m (n0 : Nat) (f0 : FnV) (n2 : Nat) (f2 : FnV) (n4 : Nat) (f4 : FnV) (n6 : Nat) (f6 : FnV) (x8 x9 x10 : Int) : sameT (rl15 n0 f0 n2 f2 n4 f4 n6 f6 x8 x9 x10) (m15 n0 f0 n2 f2 n4 f4 n6 f6 x8 x9 x10) = (rl15 n0 f0 n2 f2 n4 f4 n6 f6 x8 x9 x10) := by kernel_rfl
theorem run15 (w0 : World) (n0 : Nat) (f0 : FnV) (n2 : Nat) (f2 : FnV) (n4 : Nat) (f4 : FnV) (n6 : Nat) (f6 : FnV) (x8 x9 x10 : Int) {r : V} (h : evR noE (m15 n0 f0 n2 f2 n4 f4 n6 f6 x8 x9 x10) r) : sat (LPof w0 (SV ctB16e)) (runL (Nat × Nat) ctB16e u0 s15 [scV n0 f0 n2 f2 n4 f4 n6 f6, V.int i64 x8, V.int i64 x9, V.int i64 x10]) (topQ r) := run_ev0 (by kernel_rfl) _ (f15m n0 f0 n2 f2 n4 f4 n6 f6 x8 x9 x10) (q15m n0 f0 n2 f2 n4 f4 n6 f6 x8 x9 x10) h
def F15_0 (n0 : Nat) (f0 : FnV) (n2 : Nat) (f2 : FnV) (n4 : Nat) (f4 : FnV) (n6 : Nat) (f6 : FnV) (x8 x9 x10 : Int) : Int := bif F44 n0 (elV tyR f0) n2 (elV tyT f2) n4 (elV tyF f4) n6 (elV tyC f6) 2 (elV [Ty.int i64] (secF [V.int i64 x8, V.int i64 (↑n6 : Int)] 0 ((1 + 1 - 0) / 2))) != 0 then 0 else bif F45_0 2 (elV [Ty.int i64] (secF [V.int i64 x9, V.int i64 x10] 0 ((1 + 1 - 0) / 2))) then 0 else F46 n2 (elV tyT f2) (elV tyC f6) x8 x9 x10
def F15_1 (n0 : Nat) (f0 : FnV) (n2 : Nat) (f2 : FnV) (n4 : Nat) (f4 : FnV) (n6 : Nat) (f6 : FnV) (x8 x9 x10 : Int) : Int := bif F44 n0 (elV tyR f0) n2 (elV tyT f2) n4 (elV tyF f4) n6 (elV tyC f6) 2 (elV [Ty.int i64] (secF [V.int i64 x8, V.int i64 (↑n6 : Int)] 0 ((1 + 1 - 0) / 2))) != 0 then F44 n0 (elV tyR f0) n2 (elV tyT f2) n4 (elV tyF f4) n6 (elV tyC f6) 2 (elV [Ty.int i64] (secF [V.int i64 x8, V.int i64 (↑n6 : Int)] 0 ((1 + 1 - 0) / 2))) else bif F45_0 2 (elV [Ty.int i64] (secF [V.int i64 x9, V.int i64 x10] 0 ((1 + 1 - 0) / 2))) then 7 else 0
def R15 (n0 : Nat) (f0 : FnV) (n2 : Nat) (f2 : FnV) (n4 : Nat) (f4 : FnV) (n6 : Nat) (f6 : FnV) (x8 x9 x10 : Int) : V := .tup [.int i64 (F15_0 n0 f0 n2 f2 n4 f4 n6 f6 x8 x9 x10), .int i64 (F15_1 n0 f0 n2 f2 n4 f4 n6 f6 x8 x9 x10)]
theorem ev15 (n0 : Nat) (f0 : FnV) (n2 : Nat) (f2 : FnV) (n4 : Nat) (f4 : FnV) (n6 : Nat) (f6 : FnV) (x8 x9 x10 : Int) (hp : SzOk n0 f0 /\ SzOk n6 f6) : evR noE (m15 n0 f0 n2 f2 n4 f4 n6 f6 x8 x9 x10) (R15 n0 f0 n2 f2 n4 f4 n6 f6 x8 x9 x10) := evAsm (fun a0 => evObp (by first | assumption | ((first | exact ⟨hp, rfl, by decide⟩ | (simp_all [cond_eq_ite] <;> first | omega | exact (k44_4 (by assumption) (by assumption) h0).1 | exact (k44_4 (by assumption) (by assumption) h0).2 | exact k44_2 (by assumption) h0 | exact k44_2 (by assumption) h1 | exact k50 h0 | exact k50 h1 | exact k50 hc.1 | exact k44_2 (by assumption) hc)))) (evObt (evBr (fun h0 => evRet (by unfold R15 F15_0 F15_1; try rw [h0]; rfl)) (fun h0 => evObc (evObt (evBr (fun h1 => evRet (by unfold R15 F15_0 F15_1; try rw [h0]; try rw [h1]; rfl)) (fun h1 => evObp (by first | assumption | ((first | exact ⟨hp, rfl, by decide⟩ | (simp_all [cond_eq_ite] <;> first | omega | exact (k44_4 (by assumption) (by assumption) h0).1 | exact (k44_4 (by assumption) (by assumption) h0).2 | exact k44_2 (by assumption) h0 | exact k44_2 (by assumption) h1 | exact k50 h0 | exact k50 h1 | exact k50 hc.1 | exact k44_2 (by assumption) hc)))) (evObt (evRet (by unfold R15 F15_0 F15_1; try rw [h0]; try rw [h1]; rfl))))))))))
def C15 : PCon := mkC [.agg [.sl tyR, .sl tyT, .sl tyF, .sl tyC], .int .i64, .int .i64, .int .i64] (fun
  | [.agg [.sl n0 f0, .sl n2 f2, .sl n4 f4, .sl n6 f6], .int _ x8, .int _ x9, .int _ x10] => SzOk n0 f0 /\ SzOk n6 f6
  | _ => False) fun
  | [.agg [.sl n0 f0, .sl n2 f2, .sl n4 f4, .sl n6 f6], .int _ x8, .int _ x9, .int _ x10] => R15 n0 f0 n2 f2 n4 f4 n6 f6 x8 x9 x10
  | _ => .any
theorem ok15 : (vP C15).Ok Tryz.prog 15 := mkC_ev (J := Nat × Nat) (un := u0) tabB16e hE hI Tryz.func15 (by kernel_rfl) (by kernel_rfl) (by kernel_rfl) rfl (fun w0 ds hp => run15 w0 _ _ _ _ _ _ _ _ _ _ _ (ev15 _ _ _ _ _ _ _ _ _ _ _ hp))
end
end Go.Dx
namespace Go.Dx
open Go.IntKind (i64 u64 u8)
open Go.Sx Go.Proofs
set_option maxRecDepth 100000
set_option linter.unusedVariables false
set_option linter.unusedSimpArgs false
noncomputable section
def ctB20 : CTab := (22, .con C22) :: (25, .con C25) :: (15, .con C15) :: ctB16e
theorem tabB20 : TabOk Tryz.prog eqs its ctB20 := .con ok22 (.con ok25 (.con ok15 (tabB16e)))
def m151 (x0 x1 x2 x3 x4 x5 x6 x7 : Int) : RT Empty := .obc (.obt (.obc (.obt (.obc (.obt (.obc (.obt (.obc (.obt (.obc (.obt (.obc (.obt (.obc (.obt (.obc (.obt (.obc (.obt (.obc (.obt (.obc (.obt (.obc (.obt (.obc (.obt (.obc (.obt (.obc (.obt (.obi (.obi (.obi (.obi (.br (bif decide (i64.wrap (F144_0 (F79_0 (F93_0 x2 x0) (F93_1 x3 x1) (F93_0 x4 x0) (F93_1 x5 x1)) * F144_0 (F79_0 (F93_0 x2 x0) (F93_1 x3 x1) (F93_0 x6 x0) (F93_1 x7 x1))) < 0) then decide (i64.wrap (F144_0 (F79_0 (F93_0 x6 x4) (F93_1 x7 x5) (F93_0 x0 x4) (F93_1 x1 x5)) * F144_0 (F79_0 (F93_0 x6 x4) (F93_1 x7 x5) (F93_0 x2 x4) (F93_1 x3 x5))) < 0) else false) (.ret (V.kb true)) (.br (F144_0 (F79_0 (F93_0 x2 x0) (F93_1 x3 x1) (F93_0 x4 x0) (F93_1 x5 x1)) == 0) (.ob (F144_0 (F79_0 (F93_0 x2 x0) (F93_1 x3 x1) (F93_0 x4 x0) (F93_1 x5 x1)) == 0) (.ob (F144_0 (F79_0 (F93_0 x2 x0) (F93_1 x3 x1) (F93_0 x4 x0) (F93_1 x5 x1)) == 0) (.ob (F144_0 (F79_0 (F93_0 x2 x0) (F93_1 x3 x1) (F93_0 x4 x0) (F93_1 x5 x1)) == 0) (.obc (.obt (.obi (.obi (.br (!F171_0 x4 x5 x0 x1 x2 x3 && F144_0 (F79_0 (F93_0 x2 x0) (F93_1 x3 x1) (F93_0 x6 x0) (F93_1 x7 x1)) == 0) (.ob (!F171_0 x4 x5 x0 x1 x2 x3 && F144_0 (F79_0 (F93_0 x2 x0) (F93_1 x3 x1) (F93_0 x6 x0) (F93_1 x7 x1)) == 0) (.ob (!F171_0 x4 x5 x0 x1 x2 x3 && F144_0 (F79_0 (F93_0 x2 x0) (F93_1 x3 x1) (F93_0 x6 x0) (F93_1 x7 x1)) == 0) (.ob (!F171_0 x4 x5 x0 x1 x2 x3 && F144_0 (F79_0 (F93_0 x2 x0) (F93_1 x3 x1) (F93_0 x6 x0) (F93_1 x7 x1)) == 0) (.obc (.obt (.obi (.obi (.obi (.br ((!bif F171_0 x4 x5 x0 x1 x2 x3 then true else F171_0 x6 x7 x0 x1 x2 x3) && F144_0 (F79_0 (F93_0 x6 x4) (F93_1 x7 x5) (F93_0 x0 x4) (F93_1 x1 x5)) == 0) (.ob ((!bif F171_0 x4 x5 x0 x1 x2 x3 then true else F171_0 x6 x7 x0 x1 x2 x3) && F144_0 (F79_0 (F93_0 x6 x4) (F93_1 x7 x5) (F93_0 x0 x4) (F93_1 x1 x5)) == 0) (.ob ((!bif F171_0 x4 x5 x0 x1 x2 x3 then true else F171_0 x6 x7 x0 x1 x2 x3) && F144_0 (F79_0 (F93_0 x6 x4) (F93_1 x7 x5) (F93_0 x0 x4) (F93_1 x1 x5)) == 0) (.ob ((!bif F171_0 x4 x5 x0 x1 x2 x3 then true else F171_0 x6 x7 x0 x1 x2 x3) && F144_0 (F79_0 (F93_0 x6 x4) (F93_1 x7 x5) (F93_0 x0 x4) (F93_1 x1 x5)) == 0) (.obc (.obt (.obi (.obi (.obi (.br ((!bif bif F171_0 x4 x5 x0 x1 x2 x3 then true else F171_0 x6 x7 x0 x1 x2 x3 then true else F171_0 x0 x1 x4 x5 x6 x7) && F144_0 (F79_0 (F93_0 x6 x4) (F93_1 x7 x5) (F93_0 x2 x4) (F93_1 x3 x5)) == 0) (.ob ((!bif bif F171_0 x4 x5 x0 x1 x2 x3 then true else F171_0 x6 x7 x0 x1 x2 x3 then true else F171_0 x0 x1 x4 x5 x6 x7) && F144_0 (F79_0 (F93_0 x6 x4) (F93_1 x7 x5) (F93_0 x2 x4) (F93_1 x3 x5)) == 0) (.ob ((!bif bif F171_0 x4 x5 x0 x1 x2 x3 then true else F171_0 x6 x7 x0 x1 x2 x3 then true else F171_0 x0 x1 x4 x5 x6 x7) && F144_0 (F79_0 (F93_0 x6 x4) (F93_1 x7 x5) (F93_0 x2 x4) (F93_1 x3 x5)) == 0) (.ob ((!bif bif F171_0 x4 x5 x0 x1 x2 x3 then true else F171_0 x6 x7 x0 x1 x2 x3 then true else F171_0 x0 x1 x4 x5 x6 x7) && F144_0 (F79_0 (F93_0 x6 x4) (F93_1 x7 x5) (F93_0 x2 x4) (F93_1 x3 x5)) == 0) (.obc (.obt (.obi (.ret (V.bool (bif bif bif F171_0 x4 x5 x0 x1 x2 x3 then true else F171_0 x6 x7 x0 x1 x2 x3 then true else F171_0 x0 x1 x4 x5 x6 x7 then true else F171_0 x2 x3 x4 x5 x6 x7))))))))) (.obi (.br (F144_0 (F79_0 (F93_0 x6 x4) (F93_1 x7 x5) (F93_0 x2 x4) (F93_1 x3 x5)) == 0) (.obi (.br (bif bif F171_0 x4 x5 x0 x1 x2 x3 then true else F171_0 x6 x7 x0 x1 x2 x3 then true else F171_0 x0 x1 x4 x5 x6 x7) (.ret (V.kb true)) (.ret (V.tup [])))) (.obi (.ret (V.bool (bif bif bif F171_0 x4 x5 x0 x1 x2 x3 then true else F171_0 x6 x7 x0 x1 x2 x3 then true else F171_0 x0 x1 x4 x5 x6 x7 then true else false))))))))))))))) (.obi (.br (F144_0 (F79_0 (F93_0 x6 x4) (F93_1 x7 x5) (F93_0 x0 x4) (F93_1 x1 x5)) == 0) (.obi (.br (bif F171_0 x4 x5 x0 x1 x2 x3 then true else F171_0 x6 x7 x0 x1 x2 x3) (.ret (V.kb true)) (.fail))) (.obi (.obi (.obi (.br ((!bif bif F171_0 x4 x5 x0 x1 x2 x3 then true else F171_0 x6 x7 x0 x1 x2 x3 then true else false) && F144_0 (F79_0 (F93_0 x6 x4) (F93_1 x7 x5) (F93_0 x2 x4) (F93_1 x3 x5)) == 0) (.ob ((!bif bif F171_0 x4 x5 x0 x1 x2 x3 then true else F171_0 x6 x7 x0 x1 x2 x3 then true else false) && F144_0 (F79_0 (F93_0 x6 x4) (F93_1 x7 x5) (F93_0 x2 x4) (F93_1 x3 x5)) == 0) (.ob ((!bif bif F171_0 x4 x5 x0 x1 x2 x3 then true else F171_0 x6 x7 x0 x1 x2 x3 then true else false) && F144_0 (F79_0 (F93_0 x6 x4) (F93_1 x7 x5) (F93_0 x2 x4) (F93_1 x3 x5)) == 0) (.ob ((!bif bif F171_0 x4 x5 x0 x1 x2 x3 then true else F171_0 x6 x7 x0 x1 x2 x3 then true else false) && F144_0 (F79_0 (F93_0 x6 x4) (F93_1 x7 x5) (F93_0 x2 x4) (F93_1 x3 x5)) == 0) (.obc (.obt (.obi (.ret (V.bool (bif bif bif F171_0 x4 x5 x0 x1 x2 x3 then true else F171_0 x6 x7 x0 x1 x2 x3 then true else false then true else F171_0 x2 x3 x4 x5 x6 x7))))))))) (.obi (.br (F144_0 (F79_0 (F93_0 x6 x4) (F93_1 x7 x5) (F93_0 x2 x4) (F93_1 x3 x5)) == 0) (.obi (.br (bif bif F171_0 x4 x5 x0 x1 x2 x3 then true else F171_0 x6 x7 x0 x1 x2 x3 then true else false) (.ret (V.kb true)) (.ret (V.tup [])))) (.obi (.ret (V.bool (bif bif bif F171_0 x4 x5 x0 x1 x2 x3 then true else F171_0 x6 x7 x0 x1 x2 x3 then true else false then true else false))))))))))))))))))))) (.obi (.br (F144_0 (F79_0 (F93_0 x2 x0) (F93_1 x3 x1) (F93_0 x6 x0) (F93_1 x7 x1)) == 0) (.obi (.br (F171_0 x4 x5 x0 x1 x2 x3) (.ret (V.kb true)) (.fail))) (.obi (.obi (.obi (.br ((!bif F171_0 x4 x5 x0 x1 x2 x3 then true else false) && F144_0 (F79_0 (F93_0 x6 x4) (F93_1 x7 x5) (F93_0 x0 x4) (F93_1 x1 x5)) == 0) (.ob ((!bif F171_0 x4 x5 x0 x1 x2 x3 then true else false) && F144_0 (F79_0 (F93_0 x6 x4) (F93_1 x7 x5) (F93_0 x0 x4) (F93_1 x1 x5)) == 0) (.ob ((!bif F171_0 x4 x5 x0 x1 x2 x3 then true else false) && F144_0 (F79_0 (F93_0 x6 x4) (F93_1 x7 x5) (F93_0 x0 x4) (F93_1 x1 x5)) == 0) (.ob ((!bif F171_0 x4 x5 x0 x1 x2 x3 then true else false) && F144_0 (F79_0 (F93_0 x6 x4) (F93_1 x7 x5) (F93_0 x0 x4) (F93_1 x1 x5)) == 0) (.obc (.obt (.obi (.obi (.obi (.br ((!bif bif F171_0 x4 x5 x0 x1 x2 x3 then true else false then true else F171_0 x0 x1 x4 x5 x6 x7) && F144_0 (F79_0 (F93_0 x6 x4) (F93_1 x7 x5) (F93_0 x2 x4) (F93_1 x3 x5)) == 0) (.ob ((!bif bif F171_0 x4 x5 x0 x1 x2 x3 then true else false then true else F171_0 x0 x1 x4 x5 x6 x7) && F144_0 (F79_0 (F93_0 x6 x4) (F93_1 x7 x5) (F93_0 x2 x4) (F93_1 x3 x5)) == 0) (.ob ((!bif bif F171_0 x4 x5 x0 x1 x2 x3 then true else false then true else F171_0 x0 x1 x4 x5 x6 x7) && F144_0 (F79_0 (F93_0 x6 x4) (F93_1 x7 x5) (F93_0 x2 x4) (F93_1 x3 x5)) == 0) (.ob ((!bif bif F171_0 x4 x5 x0 x1 x2 x3 then true else false then true else F171_0 x0 x1 x4 x5 x6 x7) && F144_0 (F79_0 (F93_0 x6 x4) (F93_1 x7 x5) (F93_0 x2 x4) (F93_1 x3 x5)) == 0) (.obc (.obt (.obi (.ret (V.bool (bif bif bif F171_0 x4 x5 x0 x1 x2 x3 then true else false then true else F171_0 x0 x1 x4 x5 x6 x7 then true else F171_0 x2 x3 x4 x5 x6 x7))))))))) (.obi (.br (F144_0 (F79_0 (F93_0 x6 x4) (F93_1 x7 x5) (F93_0 x2 x4) (F93_1 x3 x5)) == 0) (.obi (.br (bif bif F171_0 x4 x5 x0 x1 x2 x3 then true else false then true else F171_0 x0 x1 x4 x5 x6 x7) (.ret (V.kb true)) (.ret (V.tup [])))) (.obi (.ret (V.bool (bif bif bif F171_0 x4 x5 x0 x1 x2 x3 then true else false then true else F171_0 x0 x1 x4 x5 x6 x7 then true else false))))))))))))))) (.obi (.br (F144_0 (F79_0 (F93_0 x6 x4) (F93_1 x7 x5) (F93_0 x0 x4) (F93_1 x1 x5)) == 0) (.obi (.br (bif F171_0 x4 x5 x0 x1 x2 x3 then true else false) (.ret (V.kb true)) (.fail))) (.obi (.obi (.obi (.br ((!bif bif F171_0 x4 x5 x0 x1 x2 x3 then true else false then true else false) && F144_0 (F79_0 (F93_0 x6 x4) (F93_1 x7 x5) (F93_0 x2 x4) (F93_1 x3 x5)) == 0) (.ob ((!bif bif F171_0 x4 x5 x0 x1 x2 x3 then true else false then true else false) && F144_0 (F79_0 (F93_0 x6 x4) (F93_1 x7 x5) (F93_0 x2 x4) (F93_1 x3 x5)) == 0) (.ob ((!bif bif F171_0 x4 x5 x0 x1 x2 x3 then true else false then true else false) && F144_0 (F79_0 (F93_0 x6 x4) (F93_1 x7 x5) (F93_0 x2 x4) (F93_1 x3 x5)) == 0) (.ob ((!bif bif F171_0 x4 x5 x0 x1 x2 x3 then true else false then true else false) && F144_0 (F79_0 (F93_0 x6 x4) (F93_1 x7 x5) (F93_0 x2 x4) (F93_1 x3 x5)) == 0) (.obc (.obt (.obi (.ret (V.bool (bif bif bif F171_0 x4 x5 x0 x1 x2 x3 then true else false then true else false then true else F171_0 x2 x3 x4 x5 x6 x7))))))))) (.obi (.br (F144_0 (F79_0 (F93_0 x6 x4) (F93_1 x7 x5) (F93_0 x2 x4) (F93_1 x3 x5)) == 0) (.obi (.br (bif bif F171_0 x4 x5 x0 x1 x2 x3 then true else false then true else false) (.ret (V.kb true)) (.ret (V.tup [])))) (.obi (.ret (V.bool (bif bif bif F171_0 x4 x5 x0 x1 x2 x3 then true else false then true else false then true else false)))))))))))))))))))))))))) (.br (F144_0 (F79_0 (F93_0 x2 x0) (F93_1 x3 x1) (F93_0 x6 x0) (F93_1 x7 x1)) == 0) (.ob (F144_0 (F79_0 (F93_0 x2 x0) (F93_1 x3 x1) (F93_0 x6 x0) (F93_1 x7 x1)) == 0) (.ob (F144_0 (F79_0 (F93_0 x2 x0) (F93_1 x3 x1) (F93_0 x6 x0) (F93_1 x7 x1)) == 0) (.ob (F144_0 (F79_0 (F93_0 x2 x0) (F93_1 x3 x1) (F93_0 x6 x0) (F93_1 x7 x1)) == 0) (.obc (.obt (.obi (.obi (.br (!F171_0 x6 x7 x0 x1 x2 x3 && F144_0 (F79_0 (F93_0 x6 x4) (F93_1 x7 x5) (F93_0 x0 x4) (F93_1 x1 x5)) == 0) (.ob (!F171_0 x6 x7 x0 x1 x2 x3 && F144_0 (F79_0 (F93_0 x6 x4) (F93_1 x7 x5) (F93_0 x0 x4) (F93_1 x1 x5)) == 0) (.ob (!F171_0 x6 x7 x0 x1 x2 x3 && F144_0 (F79_0 (F93_0 x6 x4) (F93_1 x7 x5) (F93_0 x0 x4) (F93_1 x1 x5)) == 0) (.ob (!F171_0 x6 x7 x0 x1 x2 x3 && F144_0 (F79_0 (F93_0 x6 x4) (F93_1 x7 x5) (F93_0 x0 x4) (F93_1 x1 x5)) == 0) (.obc (.obt (.obi (.obi (.obi (.br ((!bif F171_0 x6 x7 x0 x1 x2 x3 then true else F171_0 x0 x1 x4 x5 x6 x7) && F144_0 (F79_0 (F93_0 x6 x4) (F93_1 x7 x5) (F93_0 x2 x4) (F93_1 x3 x5)) == 0) (.ob ((!bif F171_0 x6 x7 x0 x1 x2 x3 then true else F171_0 x0 x1 x4 x5 x6 x7) && F144_0 (F79_0 (F93_0 x6 x4) (F93_1 x7 x5) (F93_0 x2 x4) (F93_1 x3 x5)) == 0) (.ob ((!bif F171_0 x6 x7 x0 x1 x2 x3 then true else F171_0 x0 x1 x4 x5 x6 x7) && F144_0 (F79_0 (F93_0 x6 x4) (F93_1 x7 x5) (F93_0 x2 x4) (F93_1 x3 x5)) == 0) (.ob ((!bif F171_0 x6 x7 x0 x1 x2 x3 then true else F171_0 x0 x1 x4 x5 x6 x7) && F144_0 (F79_0 (F93_0 x6 x4) (F93_1 x7 x5) (F93_0 x2 x4) (F93_1 x3 x5)) == 0) (.obc (.obt (.obi (.ret (V.bool (bif bif F171_0 x6 x7 x0 x1 x2 x3 then true else F171_0 x0 x1 x4 x5 x6 x7 then true else F171_0 x2 x3 x4 x5 x6 x7))))))))) (.obi (.br (F144_0 (F79_0 (F93_0 x6 x4) (F93_1 x7 x5) (F93_0 x2 x4) (F93_1 x3 x5)) == 0) (.obi (.br (bif F171_0 x6 x7 x0 x1 x2 x3 then true else F171_0 x0 x1 x4 x5 x6 x7) (.ret (V.kb true)) (.ret (V.tup [])))) (.obi (.ret (V.bool (bif bif F171_0 x6 x7 x0 x1 x2 x3 then true else F171_0 x0 x1 x4 x5 x6 x7 then true else false))))))))))))))) (.obi (.br (F144_0 (F79_0 (F93_0 x6 x4) (F93_1 x7 x5) (F93_0 x0 x4) (F93_1 x1 x5)) == 0) (.obi (.br (F171_0 x6 x7 x0 x1 x2 x3) (.ret (V.kb true)) (.fail))) (.obi (.obi (.obi (.br ((!bif F171_0 x6 x7 x0 x1 x2 x3 then true else false) && F144_0 (F79_0 (F93_0 x6 x4) (F93_1 x7 x5) (F93_0 x2 x4) (F93_1 x3 x5)) == 0) (.ob ((!bif F171_0 x6 x7 x0 x1 x2 x3 then true else false) && F144_0 (F79_0 (F93_0 x6 x4) (F93_1 x7 x5) (F93_0 x2 x4) (F93_1 x3 x5)) == 0) (.ob ((!bif F171_0 x6 x7 x0 x1 x2 x3 then true else false) && F144_0 (F79_0 (F93_0 x6 x4) (F93_1 x7 x5) (F93_0 x2 x4) (F93_1 x3 x5)) == 0) (.ob ((!bif F171_0 x6 x7 x0 x1 x2 x3 then true else false) && F144_0 (F79_0 (F93_0 x6 x4) (F93_1 x7 x5) (F93_0 x2 x4) (F93_1 x3 x5)) == 0) (.obc (.obt (.obi (.ret (V.bool (bif bif F171_0 x6 x7 x0 x1 x2 x3 then true else false then true else F171_0 x2 x3 x4 x5 x6 x7))))))))) (.obi (.br (F144_0 (F79_0 (F93_0 x6 x4) (F93_1 x7 x5) (F93_0 x2 x4) (F93_1 x3 x5)) == 0) (.obi (.br (bif F171_0 x6 x7 x0 x1 x2 x3 then true else false) (.ret (V.kb true)) (.ret (V.tup [])))) (.obi (.ret (V.bool (bif bif F171_0 x6 x7 x0 x1 x2 x3 then true else false then true else false)))))))))))))))))))) (.br (F144_0 (F79_0 (F93_0 x6 x4) (F93_1 x7 x5) (F93_0 x0 x4) (F93_1 x1 x5)) == 0) (.ob (F144_0 (F79_0 (F93_0 x6 x4) (F93_1 x7 x5) (F93_0 x0 x4) (F93_1 x1 x5)) == 0) (.ob (F144_0 (F79_0 (F93_0 x6 x4) (F93_1 x7 x5) (F93_0 x0 x4) (F93_1 x1 x5)) == 0) (.ob (F144_0 (F79_0 (F93_0 x6 x4) (F93_1 x7 x5) (F93_0 x0 x4) (F93_1 x1 x5)) == 0) (.obc (.obt (.obi (.obi (.br (!F171_0 x0 x1 x4 x5 x6 x7 && F144_0 (F79_0 (F93_0 x6 x4) (F93_1 x7 x5) (F93_0 x2 x4) (F93_1 x3 x5)) == 0) (.ob (!F171_0 x0 x1 x4 x5 x6 x7 && F144_0 (F79_0 (F93_0 x6 x4) (F93_1 x7 x5) (F93_0 x2 x4) (F93_1 x3 x5)) == 0) (.ob (!F171_0 x0 x1 x4 x5 x6 x7 && F144_0 (F79_0 (F93_0 x6 x4) (F93_1 x7 x5) (F93_0 x2 x4) (F93_1 x3 x5)) == 0) (.ob (!F171_0 x0 x1 x4 x5 x6 x7 && F144_0 (F79_0 (F93_0 x6 x4) (F93_1 x7 x5) (F93_0 x2 x4) (F93_1 x3 x5)) == 0) (.obc (.obt (.obi (.ret (V.bool (bif F171_0 x0 x1 x4 x5 x6 x7 then true else F171_0 x2 x3 x4 x5 x6 x7))))))))) (.obi (.br (F144_0 (F79_0 (F93_0 x6 x4) (F93_1 x7 x5) (F93_0 x2 x4) (F93_1 x3 x5)) == 0) (.obi (.br (F171_0 x0 x1 x4 x5 x6 x7) (.ret (V.kb true)) (.ret (V.tup [])))) (.obi (.ret (V.bool (bif F171_0 x0 x1 x4 x5 x6 x7 then true else false)))))))))))))) (.br (F144_0 (F79_0 (F93_0 x6 x4) (F93_1 x7 x5) (F93_0 x2 x4) (F93_1 x3 x5)) == 0) (.ob (F144_0 (F79_0 (F93_0 x6 x4) (F93_1 x7 x5) (F93_0 x2 x4) (F93_1 x3 x5)) == 0) (.ob (F144_0 (F79_0 (F93_0 x6 x4) (F93_1 x7 x5) (F93_0 x2 x4) (F93_1 x3 x5)) == 0) (.ob (F144_0 (F79_0 (F93_0 x6 x4) (F93_1 x7 x5) (F93_0 x2 x4) (F93_1 x3 x5)) == 0) (.obc (.obt (.ret (V.bool (F171_0 x2 x3 x4 x5 x6 x7)))))))) (.ret (V.kb false))))))))))))))))))))))))))))))))))))))))))
def rl151 (x0 x1 x2 x3 x4 x5 x6 x7 : Int) : T (Leaf (Nat × Nat)) := runL (Nat × Nat) ctB20 u0 s151 [V.agg [V.int i64 x0, V.int i64 x1], V.agg [V.int i64 x2, V.int i64 x3], V.agg [V.int i64 x4, V.int i64 x5], V.agg [V.int i64 x6, V.int i64 x7]]
theorem f151m (x0 x1 x2 x3 x4 x5 x6 x7 : Int) : fitT noD (rl151 x0 x1 x2 x3 x4 x5 x6 x7) (m151 x0 x1 x2 x3 x4 x5 x6 x7) = toF noD (m151 x0 x1 x2 x3 x4 x5 x6 x7) := by kernel_rfl
theorem q151m (x0 x1 x2 x3 x4 x5 x6 x7 : Int) : sameT (rl151 x0 x1 x2 x3 x4 x5 x6 x7) (m151 x0 x1 x2 x3 x4 x5 x6 x7) = (rl151 x0 x1 x2 x3 x4 x5 x6 x7) := by kernel_rfl
theorem run151 (w0 : World) (x0 x1 x2 x3 x4 x5 x6 x7 : Int) {r : V} (h : evR noE (m151 x0 x1 x2 x3 x4 x5 x6 x7) r) : sat (LPof w0 (SV ctB20)) (runL (Nat × Nat) ctB20 u0 s151 [V.agg [V.int i64 x0, V.int i64 x1], V.agg [V.int i64 x2, V.int i64 x3], V.agg [V.int i64 x4, V.int i64 x5], V.agg [V.int i64 x6, V.int i64 x7]]) (topQ r) := run_ev0 (by kernel_rfl) _ (f151m x0 x1 x2 x3 x4 x5 x6 x7) (q151m x0 x1 x2 x3 x4 x5 x6 x7) h
def F151 (x0 x1 x2 x3 x4 x5 x6 x7 : Int) : Bool := (bif decide (i64.wrap (F144_0 (F79_0 (F93_0 x2 x0) (F93_1 x3 x1) (F93_0 x4 x0) (F93_1 x5 x1)) * F144_0 (F79_0 (F93_0 x2 x0) (F93_1 x3 x1) (F93_0 x6 x0) (F93_1 x7 x1))) < 0) then decide (i64.wrap (F144_0 (F79_0 (F93_0 x6 x4) (F93_1 x7 x5) (F93_0 x0 x4) (F93_1 x1 x5)) * F144_0 (F79_0 (F93_0 x6 x4) (F93_1 x7 x5) (F93_0 x2 x4) (F93_1 x3 x5))) < 0) else false) || ((F144_0 (F79_0 (F93_0 x2 x0) (F93_1 x3 x1) (F93_0 x4 x0) (F93_1 x5 x1)) == 0 && F171_0 x4 x5 x0 x1 x2 x3) || (F144_0 (F79_0 (F93_0 x2 x0) (F93_1 x3 x1) (F93_0 x6 x0) (F93_1 x7 x1)) == 0 && F171_0 x6 x7 x0 x1 x2 x3) || (F144_0 (F79_0 (F93_0 x6 x4) (F93_1 x7 x5) (F93_0 x0 x4) (F93_1 x1 x5)) == 0 && F171_0 x0 x1 x4 x5 x6 x7) || (F144_0 (F79_0 (F93_0 x6 x4) (F93_1 x7 x5) (F93_0 x2 x4) (F93_1 x3 x5)) == 0 && F171_0 x2 x3 x4 x5 x6 x7))
theorem ev151_0 (x0 x1 x2 x3 x4 x5 x6 x7 : Int) : evR noE (m151 x0 x1 x2 x3 x4 x5 x6 x7) (.bool (F151 x0 x1 x2 x3 x4 x5 x6 x7)) := by
  unfold m151 F151
  generalize hc : (bif decide (i64.wrap (F144_0 (F79_0 (F93_0 x2 x0) (F93_1 x3 x1) (F93_0 x4 x0) (F93_1 x5 x1)) * F144_0 (F79_0 (F93_0 x2 x0) (F93_1 x3 x1) (F93_0 x6 x0) (F93_1 x7 x1))) < 0) then decide (i64.wrap (F144_0 (F79_0 (F93_0 x6 x4) (F93_1 x7 x5) (F93_0 x0 x4) (F93_1 x1 x5)) * F144_0 (F79_0 (F93_0 x6 x4) (F93_1 x7 x5) (F93_0 x2 x4) (F93_1 x3 x5))) < 0) else false) = c0
  generalize hp0 : (F144_0 (F79_0 (F93_0 x2 x0) (F93_1 x3 x1) (F93_0 x4 x0) (F93_1 x5 x1)) == 0) = p0
  generalize hp1 : (F144_0 (F79_0 (F93_0 x2 x0) (F93_1 x3 x1) (F93_0 x6 x0) (F93_1 x7 x1)) == 0) = p1
  generalize hp2 : (F144_0 (F79_0 (F93_0 x6 x4) (F93_1 x7 x5) (F93_0 x0 x4) (F93_1 x1 x5)) == 0) = p2
  generalize hp3 : (F144_0 (F79_0 (F93_0 x6 x4) (F93_1 x7 x5) (F93_0 x2 x4) (F93_1 x3 x5)) == 0) = p3
  generalize hb0 : F171_0 x4 x5 x0 x1 x2 x3 = t0
  generalize hb1 : F171_0 x6 x7 x0 x1 x2 x3 = t1
  generalize hb2 : F171_0 x0 x1 x4 x5 x6 x7 = t2
  generalize hb3 : F171_0 x2 x3 x4 x5 x6 x7 = t3
  clear hc hp0 hp1 hp2 hp3 hb0 hb1 hb2 hb3
  cases c0 <;> (repeat' (first | exact evRet rfl | refine evObi ?_ | refine evObc ?_ | refine evObt ?_ | refine evOb rfl ?_ | refine evBrT rfl ?_ | refine evBrF rfl ?_))
  all_goals (cases p0 <;> (repeat' (first | exact evRet rfl | refine evObi ?_ | refine evObc ?_ | refine evObt ?_ | refine evOb rfl ?_ | refine evBrT rfl ?_ | refine evBrF rfl ?_)))
  all_goals (cases t0 <;> (repeat' (first | exact evRet rfl | refine evObi ?_ | refine evObc ?_ | refine evObt ?_ | refine evOb rfl ?_ | refine evBrT rfl ?_ | refine evBrF rfl ?_)))
  all_goals (cases p1 <;> (repeat' (first | exact evRet rfl | refine evObi ?_ | refine evObc ?_ | refine evObt ?_ | refine evOb rfl ?_ | refine evBrT rfl ?_ | refine evBrF rfl ?_)))
  all_goals (cases t1 <;> (repeat' (first | exact evRet rfl | refine evObi ?_ | refine evObc ?_ | refine evObt ?_ | refine evOb rfl ?_ | refine evBrT rfl ?_ | refine evBrF rfl ?_)))
  all_goals (cases p2 <;> (repeat' (first | exact evRet rfl | refine evObi ?_ | refine evObc ?_ | refine evObt ?_ | refine evOb rfl ?_ | refine evBrT rfl ?_ | refine evBrF rfl ?_)))
  all_goals (cases t2 <;> (repeat' (first | exact evRet rfl | refine evObi ?_ | refine evObc ?_ | refine evObt ?_ | refine evOb rfl ?_ | refine evBrT rfl ?_ | refine evBrF rfl ?_)))
  all_goals (cases p3 <;> (repeat' (first | exact evRet rfl | refine evObi ?_ | refine evObc ?_ | refine evObt ?_ | refine evOb rfl ?_ | refine evBrT rfl ?_ | refine evBrF rfl ?_)))
  all_goals (cases t3 <;> (repeat' (first | exact evRet rfl | refine evObi ?_ | refine evObc ?_ | refine evObt ?_ | refine evOb rfl ?_ | refine evBrT rfl ?_ | refine evBrF rfl ?_)))
theorem ev151 (x0 x1 x2 x3 x4 x5 x6 x7 : Int) : evR noE (m151 x0 x1 x2 x3 x4 x5 x6 x7) (.bool (F151 x0 x1 x2 x3 x4 x5 x6 x7)) := ev151_0 x0 x1 x2 x3 x4 x5 x6 x7
def C151 : PCon := mkC [.agg [.int .i64, .int .i64], .agg [.int .i64, .int .i64], .agg [.int .i64, .int .i64], .agg [.int .i64, .int .i64]] (fun _ => True) fun
  | [.agg [.int _ x0, .int _ x1], .agg [.int _ x2, .int _ x3], .agg [.int _ x4, .int _ x5], .agg [.int _ x6, .int _ x7]] => .bool (F151 x0 x1 x2 x3 x4 x5 x6 x7)
  | _ => .any
theorem ok151 : (vP C151).Ok Tryz.prog 151 := mkC_ev (J := Nat × Nat) (un := u0) tabB20 hE hI Tryz.func151 (by kernel_rfl) (by kernel_rfl) (by kernel_rfl) rfl (fun w0 ds hp => run151 w0 _ _ _ _ _ _ _ _ (ev151 _ _ _ _ _ _ _ _))
end
end Go.Dx
