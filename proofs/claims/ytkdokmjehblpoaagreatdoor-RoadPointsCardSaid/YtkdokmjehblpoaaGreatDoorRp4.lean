/- Part 4 of a proof. No conditions. -/
import Derived.Test.YtkdokmjehblpoaaGreatDoorRp3
import Derived.WalkKit
import Derived.Ground.NamesProg
import Derived.Shelf.Strings.SlTrimAscii
import Derived.Laws.MathBits
set_option maxRecDepth 100000
set_option linter.unusedVariables false
set_option linter.unusedSimpArgs false
namespace Go.Dx
open Go.IntKind (i64 u64 u8)
open Go.Sx Go.Proofs
def ctB5 : CTab := (112, .con C112) :: (118, .con C118) :: (120, .con C120) :: (133, .con C133) :: ctB4
theorem tabB5 : TabOk Tryz.prog eqs its ctB5 := .con ok112 (.con ok118 (.con ok120 (.con ok133 (tabB4))))
def m99 (n0 : Nat) (f0 : FnV) : RT Empty := .obc (.obt (.ret (V.bool (decide (0 <= F133 n0 (elV tp1 f0))))))
theorem run99 (n0 : Nat) (f0 : FnV) : Fit noD (runL JJ ctB5 u0 s99 [V.sl n0 (elV tp1 f0), V.fn 100 [] []]) (m99 n0 f0) := ⟨by kernel_rfl, by kernel_rfl⟩
def F99_0 (n0 : Nat) (f0 : FnV) : Bool := decide (0 <= F133 n0 (elV tp1 f0))
def R99 (n0 : Nat) (f0 : FnV) : V := .bool (F99_0 n0 f0)
theorem ev99 (n0 : Nat) (f0 : FnV) : evR noE (m99 n0 f0) (R99 n0 f0) := evObc (evObt (evRet (by unfold R99 F99_0; rfl)))
def C99 : PCon := mkC [.sl tp1, .fn 100 [] []] (fun _ => True) fun
 | [.sl n0 f0, .fn _ [] []] => R99 n0 f0
 | _ => .any
theorem ok99 : (vP C99).Ok Tryz.prog 99 := mkE tabB5 Tryz.func99 (by kernel_rfl) fun ds hp => rf0 (run99 ..) (ev99 _ _)
inductive S129 where
 | L0 (ia0 : Int)
def inv129 (n0 : Nat) (f0 : FnV) (s2 : ByteArray) (x3 : Int) (n4 : Nat) (f4 : FnV) (x6 : Int) : S129 -> Env × List O × Option Ex
 | .L0 ia0 => ([(8, vi ia0), (7, vi (↑n0 : Int)), (6, V.sl n0 (elV tyR f0)), (4, vi 0), (0, V.sl n0 (elV tyR f0)), (1, V.fn 112 [] [V.pd [V.str s2, vi x3, V.sl n4 (elV tp2 f4), vi x6]])], [], none)
def id129 : S129 -> JJ
 | .L0 ia0 => (0, [])
def rl129 (n0 : Nat) (f0 : FnV) (s2 : ByteArray) (x3 : Int) (n4 : Nat) (f4 : FnV) (x6 : Int) : T (Leaf JJ) := runL JJ ctB5 u0 s129 [V.sl n0 (elV tyR f0), V.fn 112 [] [V.pd [V.str s2, vi x3, V.sl n4 (elV tp2 f4), vi x6]]]
def lp129_0 (n0 : Nat) (f0 : FnV) (s2 : ByteArray) (x3 : Int) (n4 : Nat) (f4 : FnV) (x6 : Int) (cx : List Cx) : Lp JJ := lpT (atT (rl129 n0 f0 s2 x3 n4 f4 x6) [])
def lp129 (n0 : Nat) (f0 : FnV) (s2 : ByteArray) (x3 : Int) (n4 : Nat) (f4 : FnV) (x6 : Int) : JJ -> Lp JJ
 | (0, cx) => lp129_0 n0 f0 s2 x3 n4 f4 x6 cx
 | (_, cx) => lp129_0 n0 f0 s2 x3 n4 f4 x6 cx
def D129 (n0 : Nat) (f0 : FnV) (s2 : ByteArray) (x3 : Int) (n4 : Nat) (f4 : FnV) (x6 : Int) : LD JJ S129 := ⟨id129, lp129 n0 f0 s2 x3 n4 f4 x6, inv129 n0 f0 s2 x3 n4 f4 x6⟩
def st129 (n0 : Nat) (f0 : FnV) (s2 : ByteArray) (x3 : Int) (n4 : Nat) (f4 : FnV) (x6 : Int) : S129 -> RT S129
 | .L0 ia0 => .br (decide (ia0 < (↑n0 : Int))) (.ob (decide (0 <= ia0 /\ ia0 < (↑n0 : Int))) (.obc (.obt (.br (F112_0 (sv (hdV (f0 ia0.toNat))) s2) (.ret (vi ia0)) (.next [] (S129.L0 (i64.wrap (ia0 + 1))) []))))) (.ret (vi (-1)))
def m129 (n0 : Nat) (f0 : FnV) (s2 : ByteArray) (x3 : Int) (n4 : Nat) (f4 : FnV) (x6 : Int) : RT S129 := .asm (true = true -> n0 <= 9223372036854775807) (.enter [] (S129.L0 (0)) [])
theorem run129 (n0 : Nat) (f0 : FnV) (s2 : ByteArray) (x3 : Int) (n4 : Nat) (f4 : FnV) (x6 : Int) : Fits ctB5 u0 (D129 n0 f0 s2 x3 n4 f4 x6) (rl129 n0 f0 s2 x3 n4 f4 x6) (m129 n0 f0 s2 x3 n4 f4 x6) (st129 n0 f0 s2 x3 n4 f4 x6) := ⟨⟨by kernel_rfl, by kernel_rfl⟩, fun s => by cases s <;> exact ⟨by kernel_rfl, by kernel_rfl⟩⟩
def F129 (n0 : Nat) (f0 : FnV) (s2 : ByteArray) : Int   := idx n0 fun ii => F112_0 (sv (hdV (f0 ii))) s2
theorem ev129_0 (n0 : Nat) (f0 : FnV) (s2 : ByteArray) (x3 : Int) (n4 : Nat) (f4 : FnV) (x6 : Int) : evR (Ev (st129 n0 f0 s2 x3 n4 f4 x6)) (m129 n0 f0 s2 x3 n4 f4 x6) (.int .i64 (F129 n0 f0 s2)) := evAsm1 fun hn => evEnter (idx_ev hn fun i => rfl)
theorem ev129 (n0 : Nat) (f0 : FnV) (s2 : ByteArray) (x3 : Int) (n4 : Nat) (f4 : FnV) (x6 : Int) : evR (Ev (st129 n0 f0 s2 x3 n4 f4 x6)) (m129 n0 f0 s2 x3 n4 f4 x6) (.int .i64 (F129 n0 (elV tyR f0) s2)) := ev129_0 n0 f0 s2 x3 n4 f4 x6
def C129 : PCon := mkC [.sl tyR, .fn 112 [] [.pd tyR]] (fun _ => True) fun
 | [.sl n0 f0, .fn _ [] [.pd [.str s2, .int _ x3, .sl n4 f4, .int _ x6]]] => .int .i64 (F129 n0 f0 s2)
 | _ => .any
theorem ok129 : (vP C129).Ok Tryz.prog 129 := mkE tabB5 Tryz.func129 (by kernel_rfl) fun ds hp => rfs (run129 ..) (ev129 _ _ _ _ _ _ _)
inductive S148 where
 | L0 (ia0 : Int)
def inv148 (n0 : Nat) (f0 : FnV) : S148 -> Env × List O × Option Ex
 | .L0 ia0 => ([(8, vi ia0), (7, vi (↑n0 : Int)), (6, V.sl n0 (elV tp4 f0)), (4, vi 0), (0, V.sl n0 (elV tp4 f0)), (1, V.fn 118 [] [])], [], none)
def id148 : S148 -> JJ
 | .L0 ia0 => (0, [])
def rl148 (n0 : Nat) (f0 : FnV) : T (Leaf JJ) := runL JJ ctB5 u0 s148 [V.sl n0 (elV tp4 f0), V.fn 118 [] []]
def lp148_0 (n0 : Nat) (f0 : FnV) (cx : List Cx) : Lp JJ := lpT (atT (rl148 n0 f0) [])
def lp148 (n0 : Nat) (f0 : FnV) : JJ -> Lp JJ
 | (0, cx) => lp148_0 n0 f0 cx
 | (_, cx) => lp148_0 n0 f0 cx
def D148 (n0 : Nat) (f0 : FnV) : LD JJ S148 := ⟨id148, lp148 n0 f0, inv148 n0 f0⟩
def st148 (n0 : Nat) (f0 : FnV) : S148 -> RT S148
 | .L0 ia0 => .br (decide (ia0 < (↑n0 : Int))) (.ob (decide (0 <= ia0 /\ ia0 < (↑n0 : Int))) (.obc (.obt (.br (F118_0 (jv0 (f0 ia0.toNat)) (jv1 (f0 ia0.toNat)) (jv2 (f0 ia0.toNat)) (jv3 (f0 ia0.toNat))) (.ret (vi ia0)) (.next [] (S148.L0 (i64.wrap (ia0 + 1))) []))))) (.ret (vi (-1)))
def m148 (n0 : Nat) (f0 : FnV) : RT S148 := .asm (true = true -> n0 <= 9223372036854775807) (.enter [] (S148.L0 (0)) [])
theorem run148 (n0 : Nat) (f0 : FnV) : Fits ctB5 u0 (D148 n0 f0) (rl148 n0 f0) (m148 n0 f0) (st148 n0 f0) := ⟨⟨by kernel_rfl, by kernel_rfl⟩, fun s => by cases s <;> exact ⟨by kernel_rfl, by kernel_rfl⟩⟩
def F148 (n0 : Nat) (f0 : FnV) : Int   := idx n0 fun ii => F118_0 (jv0 (f0 ii)) (jv1 (f0 ii)) (jv2 (f0 ii)) (jv3 (f0 ii))
theorem ev148_0 (n0 : Nat) (f0 : FnV) : evR (Ev (st148 n0 f0)) (m148 n0 f0) (.int .i64 (F148 n0 f0)) := evAsm1 fun hn => evEnter (idx_ev hn fun i => rfl)
theorem ev148 (n0 : Nat) (f0 : FnV) : evR (Ev (st148 n0 f0)) (m148 n0 f0) (.int .i64 (F148 n0 (elV tp4 f0))) := ev148_0 n0 f0
def C148 : PCon := mkC [.sl tp4, .fn 118 [] []] (fun _ => True) fun
 | [.sl n0 f0, .fn _ [] []] => .int .i64 (F148 n0 f0)
 | _ => .any
theorem ok148 : (vP C148).Ok Tryz.prog 148 := mkE tabB5 Tryz.func148 (by kernel_rfl) fun ds hp => rfs (run148 ..) (ev148 _ _)
inductive S149 where
 | L0 (ia0 : Int)
def inv149 (n0 : Nat) (f0 : FnV) (s2 : ByteArray) (x3 x4 x5 x6 x7 : Int) : S149 -> Env × List O × Option Ex
 | .L0 ia0 => ([(8, vi ia0), (7, vi (↑n0 : Int)), (6, V.sl n0 (elV tyC f0)), (4, vi 0), (0, V.sl n0 (elV tyC f0)), (1, V.fn 120 [] [V.pd [V.str s2, vi x3, vi x4, vi x5, vi x6, vi x7]])], [], none)
def id149 : S149 -> JJ
 | .L0 ia0 => (0, [])
def rl149 (n0 : Nat) (f0 : FnV) (s2 : ByteArray) (x3 x4 x5 x6 x7 : Int) : T (Leaf JJ) := runL JJ ctB5 u0 s149 [V.sl n0 (elV tyC f0), V.fn 120 [] [V.pd [V.str s2, vi x3, vi x4, vi x5, vi x6, vi x7]]]
def lp149_0 (n0 : Nat) (f0 : FnV) (s2 : ByteArray) (x3 x4 x5 x6 x7 : Int) (cx : List Cx) : Lp JJ := lpT (atT (rl149 n0 f0 s2 x3 x4 x5 x6 x7) [])
def lp149 (n0 : Nat) (f0 : FnV) (s2 : ByteArray) (x3 x4 x5 x6 x7 : Int) : JJ -> Lp JJ
 | (0, cx) => lp149_0 n0 f0 s2 x3 x4 x5 x6 x7 cx
 | (_, cx) => lp149_0 n0 f0 s2 x3 x4 x5 x6 x7 cx
def D149 (n0 : Nat) (f0 : FnV) (s2 : ByteArray) (x3 x4 x5 x6 x7 : Int) : LD JJ S149 := ⟨id149, lp149 n0 f0 s2 x3 x4 x5 x6 x7, inv149 n0 f0 s2 x3 x4 x5 x6 x7⟩
def st149 (n0 : Nat) (f0 : FnV) (s2 : ByteArray) (x3 x4 x5 x6 x7 : Int) : S149 -> RT S149
 | .L0 ia0 => .br (decide (ia0 < (↑n0 : Int))) (.ob (decide (0 <= ia0 /\ ia0 < (↑n0 : Int))) (.obc (.obt (.br (F120_0 (sv (hdV (f0 ia0.toNat))) s2) (.ret (vi ia0)) (.next [] (S149.L0 (i64.wrap (ia0 + 1))) []))))) (.ret (vi (-1)))
def m149 (n0 : Nat) (f0 : FnV) (s2 : ByteArray) (x3 x4 x5 x6 x7 : Int) : RT S149 := .asm (true = true -> n0 <= 9223372036854775807) (.enter [] (S149.L0 (0)) [])
theorem run149 (n0 : Nat) (f0 : FnV) (s2 : ByteArray) (x3 x4 x5 x6 x7 : Int) : Fits ctB5 u0 (D149 n0 f0 s2 x3 x4 x5 x6 x7) (rl149 n0 f0 s2 x3 x4 x5 x6 x7) (m149 n0 f0 s2 x3 x4 x5 x6 x7) (st149 n0 f0 s2 x3 x4 x5 x6 x7) := ⟨⟨by kernel_rfl, by kernel_rfl⟩, fun s => by cases s <;> exact ⟨by kernel_rfl, by kernel_rfl⟩⟩
def F149 (n0 : Nat) (f0 : FnV) (s2 : ByteArray) : Int   := idx n0 fun ii => F120_0 (sv (hdV (f0 ii))) s2
theorem ev149_0 (n0 : Nat) (f0 : FnV) (s2 : ByteArray) (x3 x4 x5 x6 x7 : Int) : evR (Ev (st149 n0 f0 s2 x3 x4 x5 x6 x7)) (m149 n0 f0 s2 x3 x4 x5 x6 x7) (.int .i64 (F149 n0 f0 s2)) := evAsm1 fun hn => evEnter (idx_ev hn fun i => rfl)
theorem ev149 (n0 : Nat) (f0 : FnV) (s2 : ByteArray) (x3 x4 x5 x6 x7 : Int) : evR (Ev (st149 n0 f0 s2 x3 x4 x5 x6 x7)) (m149 n0 f0 s2 x3 x4 x5 x6 x7) (.int .i64 (F149 n0 (elV tyC f0) s2)) := ev149_0 n0 f0 s2 x3 x4 x5 x6 x7
def C149 : PCon := mkC [.sl tyC, .fn 120 [] [.pd tyC]] (fun _ => True) fun
 | [.sl n0 f0, .fn _ [] [.pd [.str s2, .int _ x3, .int _ x4, .int _ x5, .int _ x6, .int _ x7]]] => .int .i64 (F149 n0 f0 s2)
 | _ => .any
theorem ok149 : (vP C149).Ok Tryz.prog 149 := mkE tabB5 Tryz.func149 (by kernel_rfl) fun ds hp => rfs (run149 ..) (ev149 _ _ _ _ _ _ _ _)
def ctB6 : CTab := (99, .con C99) :: (129, .con C129) :: (148, .con C148) :: (149, .con C149) :: ctB5
theorem tabB6 : TabOk Tryz.prog eqs its ctB6 := .con ok99 (.con ok129 (.con ok148 (.con ok149 (tabB5))))
def m45 (n0 : Nat) (f0 : FnV) : RT Empty := .obc (.obt (.ret (V.bool (F99_0 n0 (elV tp1 f0)))))
theorem run45 (n0 : Nat) (f0 : FnV) : Fit noD (runL JJ ctB6 u0 s45 [V.sl n0 (elV tp1 f0)]) (m45 n0 f0) := ⟨by kernel_rfl, by kernel_rfl⟩
def F45_0 (n0 : Nat) (f0 : FnV) : Bool := F99_0 n0 (elV tp1 f0)
def R45 (n0 : Nat) (f0 : FnV) : V := .bool (F45_0 n0 f0)
theorem ev45 (n0 : Nat) (f0 : FnV) : evR noE (m45 n0 f0) (R45 n0 f0) := evObc (evObt (evRet (by unfold R45 F45_0; rfl)))
def C45 : PCon := mkC [.sl tp1] (fun _ => True) fun
 | [.sl n0 f0] => R45 n0 f0
 | _ => .any
theorem ok45 : (vP C45).Ok Tryz.prog 45 := mkE tabB6 Tryz.func45 (by kernel_rfl) fun ds hp => rf0 (run45 ..) (ev45 _ _)
def m90 (n0 : Nat) (f0 : FnV) (s2 : ByteArray) (x3 : Int) (n4 : Nat) (f4 : FnV) (x6 : Int) : RT Empty := .obc (.obt (.ret (V.bool (decide (0 <= F129 n0 (elV tyR f0) s2)))))
theorem run90 (n0 : Nat) (f0 : FnV) (s2 : ByteArray) (x3 : Int) (n4 : Nat) (f4 : FnV) (x6 : Int) : Fit noD (runL JJ ctB6 u0 s90 [V.sl n0 (elV tyR f0), V.fn 112 [] [V.pd [V.str s2, vi x3, V.sl n4 (elV tp2 f4), vi x6]]]) (m90 n0 f0 s2 x3 n4 f4 x6) := ⟨by kernel_rfl, by kernel_rfl⟩
def F90_0 (n0 : Nat) (f0 : FnV) (s2 : ByteArray) : Bool := decide (0 <= F129 n0 (elV tyR f0) s2)
def R90 (n0 : Nat) (f0 : FnV) (s2 : ByteArray) (x3 : Int) (n4 : Nat) (f4 : FnV) (x6 : Int) : V := .bool (F90_0 n0 f0 s2)
theorem ev90 (n0 : Nat) (f0 : FnV) (s2 : ByteArray) (x3 : Int) (n4 : Nat) (f4 : FnV) (x6 : Int) : evR noE (m90 n0 f0 s2 x3 n4 f4 x6) (R90 n0 f0 s2 x3 n4 f4 x6) := evObc (evObt (evRet (by unfold R90 F90_0; rfl)))
def C90 : PCon := mkC [.sl tyR, .fn 112 [] [.pd tyR]] (fun _ => True) fun
 | [.sl n0 f0, .fn _ [] [.pd [.str s2, .int _ x3, .sl n4 f4, .int _ x6]]] => R90 n0 f0 s2 x3 n4 f4 x6
 | _ => .any
theorem ok90 : (vP C90).Ok Tryz.prog 90 := mkE tabB6 Tryz.func90 (by kernel_rfl) fun ds hp => rf0 (run90 ..) (ev90 _ _ _ _ _ _ _)
def m119 (n0 : Nat) (f0 : FnV) : RT Empty := .obc (.obt (.ret (V.bool (decide (0 <= F148 n0 (elV tp4 f0))))))
theorem run119 (n0 : Nat) (f0 : FnV) : Fit noD (runL JJ ctB6 u0 s119 [V.sl n0 (elV tp4 f0), V.fn 118 [] []]) (m119 n0 f0) := ⟨by kernel_rfl, by kernel_rfl⟩
def F119_0 (n0 : Nat) (f0 : FnV) : Bool := decide (0 <= F148 n0 (elV tp4 f0))
def R119 (n0 : Nat) (f0 : FnV) : V := .bool (F119_0 n0 f0)
theorem ev119 (n0 : Nat) (f0 : FnV) : evR noE (m119 n0 f0) (R119 n0 f0) := evObc (evObt (evRet (by unfold R119 F119_0; rfl)))
def C119 : PCon := mkC [.sl tp4, .fn 118 [] []] (fun _ => True) fun
 | [.sl n0 f0, .fn _ [] []] => R119 n0 f0
 | _ => .any
theorem ok119 : (vP C119).Ok Tryz.prog 119 := mkE tabB6 Tryz.func119 (by kernel_rfl) fun ds hp => rf0 (run119 ..) (ev119 _ _)
def m121 (n0 : Nat) (f0 : FnV) (s2 : ByteArray) (x3 x4 x5 x6 x7 : Int) : RT Empty := .obc (.obt (.ret (V.bool (decide (0 <= F149 n0 (elV tyC f0) s2)))))
theorem run121 (n0 : Nat) (f0 : FnV) (s2 : ByteArray) (x3 x4 x5 x6 x7 : Int) : Fit noD (runL JJ ctB6 u0 s121 [V.sl n0 (elV tyC f0), V.fn 120 [] [V.pd [V.str s2, vi x3, vi x4, vi x5, vi x6, vi x7]]]) (m121 n0 f0 s2 x3 x4 x5 x6 x7) := ⟨by kernel_rfl, by kernel_rfl⟩
def F121_0 (n0 : Nat) (f0 : FnV) (s2 : ByteArray) : Bool := decide (0 <= F149 n0 (elV tyC f0) s2)
def R121 (n0 : Nat) (f0 : FnV) (s2 : ByteArray) (x3 x4 x5 x6 x7 : Int) : V := .bool (F121_0 n0 f0 s2)
theorem ev121 (n0 : Nat) (f0 : FnV) (s2 : ByteArray) (x3 x4 x5 x6 x7 : Int) : evR noE (m121 n0 f0 s2 x3 x4 x5 x6 x7) (R121 n0 f0 s2 x3 x4 x5 x6 x7) := evObc (evObt (evRet (by unfold R121 F121_0; rfl)))
def C121 : PCon := mkC [.sl tyC, .fn 120 [] [.pd tyC]] (fun _ => True) fun
 | [.sl n0 f0, .fn _ [] [.pd [.str s2, .int _ x3, .int _ x4, .int _ x5, .int _ x6, .int _ x7]]] => R121 n0 f0 s2 x3 x4 x5 x6 x7
 | _ => .any
theorem ok121 : (vP C121).Ok Tryz.prog 121 := mkE tabB6 Tryz.func121 (by kernel_rfl) fun ds hp => rf0 (run121 ..) (ev121 _ _ _ _ _ _ _ _)
def ctB7 : CTab := (45, .con C45) :: (90, .con C90) :: (119, .con C119) :: (121, .con C121) :: ctB6
theorem tabB7 : TabOk Tryz.prog eqs its ctB7 := .con ok45 (.con ok90 (.con ok119 (.con ok121 (tabB6))))
def m113 (x0 x1 : Int) : RT Empty := .obt (.obt (.obc (.obt (.ret (V.bool (F45_0 2 (elV tp1 (secF [vi x0, vi x1] 0 1))))))))
theorem run113 (x0 x1 : Int) : Fit noD (runL JJ ctB7 u0 s113 [V.agg [vi x0, vi x1]]) (m113 x0 x1) := ⟨by kernel_rfl, by kernel_rfl⟩
def F113_0 (x0 x1 : Int) : Bool := F45_0 2 (elV tp1 (secF [vi x0, vi x1] 0 1))
def R113 (x0 x1 : Int) : V := .bool (F113_0 x0 x1)
theorem ev113 (x0 x1 : Int) : evR noE (m113 x0 x1) (R113 x0 x1) := evObt (evObt (evObc (evObt (evRet (by unfold R113 F113_0; rfl)))))
def C113 : PCon := mkC [.agg tp2] (fun _ => True) fun
 | [.agg [.int _ x0, .int _ x1]] => R113 x0 x1
 | _ => .any
theorem ok113 : (vP C113).Ok Tryz.prog 113 := mkE tabB7 Tryz.func113 (by kernel_rfl) fun ds hp => rf0 (run113 ..) (ev113 _ _)
def m65 (n0 : Nat) (f0 : FnV) (x2 x3 x4 x5 x6 : Int) : RT Empty := .obc (.obt (.obi (.br (!F45_0 2 (elV tp1 (secF [vi x2, vi x3] 0 1))) (.ob (!F45_0 2 (elV tp1 (secF [vi x2, vi x3] 0 1))) (.obc (.obt (.obi (.obi (.obi (.br (!F86_0 x4 1 20000) (.ob (!F86_0 x4 1 20000) (.ob (!F86_0 x4 1 20000) (.obc (.obt (.obi (.br (!F86_0 x5 0 (i64.wrap (x6 - 1))) (.ob (!F86_0 x5 0 (i64.wrap (x6 - 1))) (.obc (.obt (.br (F86_0 x6 1 1000) (.ret (vi 7)) (.ret (vi 0)))))) (.ret (vi 7)))))))) (.ret (vi 7))))))))) (.ret (vi 7)))))
theorem run65 (n0 : Nat) (f0 : FnV) (x2 x3 x4 x5 x6 : Int) : Fit noD (runL JJ ctB7 u0 s65 [V.sl n0 (elV tyT f0), V.agg [vi x2, vi x3, vi x4, vi x5, vi x6]]) (m65 n0 f0 x2 x3 x4 x5 x6) := ⟨by kernel_rfl, by kernel_rfl⟩
def F65_0 (x2 x3 x4 x5 x6 : Int) : Int := bif !F45_0 2 (elV tp1 (secF [vi x2, vi x3] 0 1)) then bif !F86_0 x4 1 20000 then bif !F86_0 x5 0 (i64.wrap (x6 - 1)) then bif F86_0 x6 1 1000 then 7 else 0 else 7 else 7 else 7
def R65 (n0 : Nat) (f0 : FnV) (x2 x3 x4 x5 x6 : Int) : V := .int i64 (F65_0 x2 x3 x4 x5 x6)
theorem ev65 (n0 : Nat) (f0 : FnV) (x2 x3 x4 x5 x6 : Int) : evR noE (m65 n0 f0 x2 x3 x4 x5 x6) (R65 n0 f0 x2 x3 x4 x5 x6) := evObc (evObt (evObi (evBr (fun h0 => evOb (by first | assumption | (fail)) (evObc (evObt (evObi (evObi (evObi (evBr (fun h1 => evOb (by first | assumption | (fail)) (evOb (by first | assumption | (fail)) (evObc (evObt (evObi (evBr (fun h2 => evOb (by first | assumption | (fail)) (evObc (evObt (evBr (fun h3 => evRet (by unfold R65 F65_0; try rw [h0]; try rw [h1]; try rw [h2]; try rw [h3]; rfl)) (fun h3 => evRet (by unfold R65 F65_0; try rw [h0]; try rw [h1]; try rw [h2]; try rw [h3]; rfl)))))) (fun h2 => evRet (by unfold R65 F65_0; try rw [h0]; try rw [h1]; try rw [h2]; rfl)))))))) (fun h1 => evRet (by unfold R65 F65_0; try rw [h0]; try rw [h1]; rfl))))))))) (fun h0 => evRet (by unfold R65 F65_0; try rw [h0]; rfl)))))
def C65 : PCon := mkC [.sl tyT, .agg tyT] (fun _ => True) fun
 | [.sl n0 f0, .agg [.int _ x2, .int _ x3, .int _ x4, .int _ x5, .int _ x6]] => R65 n0 f0 x2 x3 x4 x5 x6
 | _ => .any
theorem ok65 : (vP C65).Ok Tryz.prog 65 := mkE tabB7 Tryz.func65 (by kernel_rfl) fun ds hp => rf0 (run65 ..) (ev65 _ _ _ _ _ _ _)
def m67 (n0 : Nat) (f0 : FnV) (x2 x3 x4 x5 : Int) (n6 : Nat) (f6 : FnV) : RT Empty := .obt (.obt (.obt (.obt (.obc (.obt (.br (F45_0 4 (elV tp1 (secF [vi x2, vi x3, vi x4, vi x5] 0 1))) (.ret (vi 7)) (.br (x2 == x4 && (x3 == x5 && true)) (.ret (vi 2)) (.asm (true = true -> n6 <= 9223372036854775807) (.br (decide (6 < (↑n6 : Int))) (.ret (vi 3)) (.obc (.obt (.br (F119_0 n6 (elV tp4 f6)) (.ret (vi 7)) (.ret (vi 0))))))))))))))
theorem run67 (n0 : Nat) (f0 : FnV) (x2 x3 x4 x5 : Int) (n6 : Nat) (f6 : FnV) : Fit noD (runL JJ ctB7 u0 s67 [V.sl n0 (elV tyF f0), V.agg [vi x2, vi x3, vi x4, vi x5, V.sl n6 (elV tp4 f6)]]) (m67 n0 f0 x2 x3 x4 x5 n6 f6) := ⟨by kernel_rfl, by kernel_rfl⟩
def F67_0 (x2 x3 x4 x5 : Int) (n6 : Nat) (f6 : FnV) : Int := bif F45_0 4 (elV tp1 (secF [vi x2, vi x3, vi x4, vi x5] 0 1)) then 7 else bif x2 == x4 && (x3 == x5 && true) then 2 else bif decide (6 < (↑n6 : Int)) then 3 else bif F119_0 n6 (elV tp4 f6) then 7 else 0
def R67 (n0 : Nat) (f0 : FnV) (x2 x3 x4 x5 : Int) (n6 : Nat) (f6 : FnV) : V := .int i64 (F67_0 x2 x3 x4 x5 n6 f6)
theorem ev67 (n0 : Nat) (f0 : FnV) (x2 x3 x4 x5 : Int) (n6 : Nat) (f6 : FnV) : evR noE (m67 n0 f0 x2 x3 x4 x5 n6 f6) (R67 n0 f0 x2 x3 x4 x5 n6 f6) := evObt (evObt (evObt (evObt (evObc (evObt (evBr (fun h0 => evRet (by unfold R67 F67_0; try rw [h0]; rfl)) (fun h0 => evBr (fun h1 => evRet (by unfold R67 F67_0; try rw [h0]; try rw [h1]; rfl)) (fun h1 => evAsm (fun a2 => evBr (fun h2 => evRet (by unfold R67 F67_0; try rw [h0]; try rw [h1]; try rw [h2]; rfl)) (fun h2 => evObc (evObt (evBr (fun h3 => evRet (by unfold R67 F67_0; try rw [h0]; try rw [h1]; try rw [h2]; try rw [h3]; rfl)) (fun h3 => evRet (by unfold R67 F67_0; try rw [h0]; try rw [h1]; try rw [h2]; try rw [h3]; rfl))))))))))))))
def C67 : PCon := mkC [.sl tyF, .agg tyF] (fun _ => True) fun
 | [.sl n0 f0, .agg [.int _ x2, .int _ x3, .int _ x4, .int _ x5, .sl n6 f6]] => R67 n0 f0 x2 x3 x4 x5 n6 f6
 | _ => .any
theorem ok67 : (vP C67).Ok Tryz.prog 67 := mkE tabB7 Tryz.func67 (by kernel_rfl) fun ds hp => rf0 (run67 ..) (ev67 _ _ _ _ _ _ _ _)
def m53 (x0 x1 x2 x3 : Int) : RT Empty := .obc (.obt (.obi (.obi (.obi (.obi (.obi (.obi (.obi (.obi (.obi (.obi (.ret (V.bool (bif bif F45_0 4 (elV tp1 (secF [vi x0, vi x1, vi x2, vi x3] 0 1)) then true else decide (x2 < x0) then true else decide (x3 < x1)))))))))))))))
theorem run53 (x0 x1 x2 x3 : Int) : Fit noD (runL JJ ctB7 u0 s53 [V.agg [vi x0, vi x1, vi x2, vi x3]]) (m53 x0 x1 x2 x3) := ⟨by kernel_rfl, by kernel_rfl⟩
def F53_0 (x0 x1 x2 x3 : Int) : Bool := bif bif F45_0 4 (elV tp1 (secF [vi x0, vi x1, vi x2, vi x3] 0 1)) then true else decide (x2 < x0) then true else decide (x3 < x1)
def R53 (x0 x1 x2 x3 : Int) : V := .bool (F53_0 x0 x1 x2 x3)
theorem ev53 (x0 x1 x2 x3 : Int) : evR noE (m53 x0 x1 x2 x3) (R53 x0 x1 x2 x3) := evObc (evObt (evObi (evObi (evObi (evObi (evObi (evObi (evObi (evObi (evObi (evObi (evRet (by unfold R53 F53_0; rfl)))))))))))))
def C53 : PCon := mkC [.agg tp4] (fun _ => True) fun
 | [.agg [.int _ x0, .int _ x1, .int _ x2, .int _ x3]] => R53 x0 x1 x2 x3
 | _ => .any
theorem ok53 : (vP C53).Ok Tryz.prog 53 := mkE tabB7 Tryz.func53 (by kernel_rfl) fun ds hp => rf0 (run53 ..) (ev53 _ _ _ _)
def F58_0 (x0 x1 x2 x3 : Int) : Bool := bif bif F51 4 (elV tp1 (secF [vi x0, vi x1, vi x2, vi x3] 0 1)) then decide (x0 <= x2) else false then decide (x1 <= x3) else false
def badN (s0 : ByteArray) (i : Nat) : Bool := bif !bif decide (97 <= ((s0.data.toList.getD i 0).toNat : Int)) then decide (((s0.data.toList.getD i 0).toNat : Int) <= 122) else false then bif (i : Int) == 0 then true else bif !bif decide (48 <= ((s0.data.toList.getD i 0).toNat : Int)) then decide (((s0.data.toList.getD i 0).toNat : Int) <= 57) else false then ((s0.data.toList.getD i 0).toNat : Int) != 45 else false else false
def F122 (s0 : ByteArray) : Bool := allB s0.size (fun i => !badN s0 i) && bif decide (0 < (s0.size : Int)) then decide ((s0.size : Int) <= 24) else false
def badW (l : List V) : Bool := bif bif bif bif bif decide (jv0 l < 0) then true else decide (jv1 l <= jv0 l) then true else decide (1000 < jv1 l) then true else decide (jv2 l < 0) then true else decide (jv3 l <= jv2 l) then true else decide (1000 < jv3 l)
def F72 (x0 x1 x2 x3 : Int) (n4 : Nat) (f4 : FnV) : Int := bif !F51 4 (elV tp1 (secF [V.int .i64 x0, V.int .i64 x1, V.int .i64 x2, V.int .i64 x3] 0 ((1 + 1 + 1 + 1 - 0) / 4))) then 7 else bif x0 == x2 && (x1 == x3 && true) then 2 else bif decide (6 < (n4 : Int)) then 3 else bif exB n4 (fun i => badW (f4 i)) then 7 else 0
def ctB8 : CTab := (113, .con C113) :: (65, .con C65) :: (67, .con C67) :: (53, .con C53) :: ctB7
theorem tabB8 : TabOk Tryz.prog eqs its ctB8 := .con ok113 (.con ok65 (.con ok67 (.con ok53 (tabB7))))
inductive S147 where
 | L0 (ia0 : Int)
def inv147 (n0 : Nat) (f0 : FnV) : S147 -> Env × List O × Option Ex
 | .L0 ia0 => ([(8, vi ia0), (7, vi (↑n0 : Int)), (6, V.sl n0 (elV tp2 f0)), (4, vi 0), (0, V.sl n0 (elV tp2 f0)), (1, V.fn 113 [] [])], [], none)
def id147 : S147 -> JJ
 | .L0 ia0 => (0, [])
def rl147 (n0 : Nat) (f0 : FnV) : T (Leaf JJ) := runL JJ ctB8 u0 s147 [V.sl n0 (elV tp2 f0), V.fn 113 [] []]
def lp147_0 (n0 : Nat) (f0 : FnV) (cx : List Cx) : Lp JJ := lpT (atT (rl147 n0 f0) [])
def lp147 (n0 : Nat) (f0 : FnV) : JJ -> Lp JJ
 | (0, cx) => lp147_0 n0 f0 cx
 | (_, cx) => lp147_0 n0 f0 cx
def D147 (n0 : Nat) (f0 : FnV) : LD JJ S147 := ⟨id147, lp147 n0 f0, inv147 n0 f0⟩
def st147 (n0 : Nat) (f0 : FnV) : S147 -> RT S147
 | .L0 ia0 => .br (decide (ia0 < (↑n0 : Int))) (.ob (decide (0 <= ia0 /\ ia0 < (↑n0 : Int))) (.obc (.obt (.br (F113_0 (jv0 (f0 ia0.toNat)) (jv1 (f0 ia0.toNat))) (.ret (vi ia0)) (.next [] (S147.L0 (i64.wrap (ia0 + 1))) []))))) (.ret (vi (-1)))
def m147 (n0 : Nat) (f0 : FnV) : RT S147 := .asm (true = true -> n0 <= 9223372036854775807) (.enter [] (S147.L0 (0)) [])
theorem run147 (n0 : Nat) (f0 : FnV) : Fits ctB8 u0 (D147 n0 f0) (rl147 n0 f0) (m147 n0 f0) (st147 n0 f0) := ⟨⟨by kernel_rfl, by kernel_rfl⟩, fun s => by cases s <;> exact ⟨by kernel_rfl, by kernel_rfl⟩⟩
def F147 (n0 : Nat) (f0 : FnV) : Int   := idx n0 fun ii => F113_0 (jv0 (f0 ii)) (jv1 (f0 ii))
theorem ev147_0 (n0 : Nat) (f0 : FnV) : evR (Ev (st147 n0 f0)) (m147 n0 f0) (.int .i64 (F147 n0 f0)) := evAsm1 fun hn => evEnter (idx_ev hn fun i => rfl)
theorem ev147 (n0 : Nat) (f0 : FnV) : evR (Ev (st147 n0 f0)) (m147 n0 f0) (.int .i64 (F147 n0 (elV tp2 f0))) := ev147_0 n0 f0
def C147 : PCon := mkC [.sl tp2, .fn 113 [] []] (fun _ => True) fun
 | [.sl n0 f0, .fn _ [] []] => .int .i64 (F147 n0 f0)
 | _ => .any
theorem ok147 : (vP C147).Ok Tryz.prog 147 := mkE tabB8 Tryz.func147 (by kernel_rfl) fun ds hp => rfs (run147 ..) (ev147 _ _)
inductive S64 where
 | L0 (ia0 : Int)
def inv64 (n0 : Nat) (f0 : FnV) : S64 -> Env × List O × Option Ex
 | .L0 ia0 => ([(11, vi ia0), (10, vi (↑n0 : Int)), (9, V.sl n0 (elV tyT f0)), (5, vi 0), (4, vi 0), (0, V.sl n0 (elV tyT f0)), (1, V.fn 65 [] [])], [], none)
def id64 : S64 -> JJ
 | .L0 ia0 => (0, [])
def rl64 (n0 : Nat) (f0 : FnV) : T (Leaf JJ) := runL JJ ctB8 u0 s64 [V.sl n0 (elV tyT f0), V.fn 65 [] []]
def lp64_0 (n0 : Nat) (f0 : FnV) (cx : List Cx) : Lp JJ := lpT (atT (rl64 n0 f0) [])
def lp64 (n0 : Nat) (f0 : FnV) : JJ -> Lp JJ
 | (0, cx) => lp64_0 n0 f0 cx
 | (_, cx) => lp64_0 n0 f0 cx
def D64 (n0 : Nat) (f0 : FnV) : LD JJ S64 := ⟨id64, lp64 n0 f0, inv64 n0 f0⟩
def st64 (n0 : Nat) (f0 : FnV) : S64 -> RT S64
 | .L0 ia0 => .br (decide (ia0 < (↑n0 : Int))) (.ob (decide (0 <= ia0 /\ ia0 < (↑n0 : Int))) (.ob (decide (0 <= ia0 /\ ia0 <= (↑n0 : Int))) (.obc (.obt (.br (F65_0 (jv0 (f0 ia0.toNat)) (jv1 (f0 ia0.toNat)) (jv2 (f0 ia0.toNat)) (jv3 (f0 ia0.toNat)) (jv4 (f0 ia0.toNat)) != 0) (.ret (V.tup [vi ia0, vi (F65_0 (jv0 (f0 ia0.toNat)) (jv1 (f0 ia0.toNat)) (jv2 (f0 ia0.toNat)) (jv3 (f0 ia0.toNat)) (jv4 (f0 ia0.toNat)))])) (.next [] (S64.L0 (i64.wrap (ia0 + 1))) [])))))) (.ret (V.tup [vi 0, vi 0]))
def m64 (n0 : Nat) (f0 : FnV) : RT S64 := .asm (true = true -> n0 <= 9223372036854775807) (.enter [] (S64.L0 (0)) [])
theorem run64 (n0 : Nat) (f0 : FnV) : Fits ctB8 u0 (D64 n0 f0) (rl64 n0 f0) (m64 n0 f0) (st64 n0 f0) := ⟨⟨by kernel_rfl, by kernel_rfl⟩, fun s => by cases s <;> exact ⟨by kernel_rfl, by kernel_rfl⟩⟩
def c64 (n0 : Nat) (f0 : FnV) (ii : Nat) : Int := (F65_0 (jv0 (f0 ii)) (jv1 (f0 ii)) (jv2 (f0 ii)) (jv3 (f0 ii)) (jv4 (f0 ii)))
def F64_0 (n0 : Nat) (f0 : FnV) : Int := firstI n0 (c64 n0 f0)
def F64_1 (n0 : Nat) (f0 : FnV) : Int := firstE n0 (c64 n0 f0)
theorem ev64_0 (n0 : Nat) (f0 : FnV) : evR (Ev (st64 n0 f0)) (m64 n0 f0) (.tup [.int .i64 (F64_0 n0 f0), .int .i64 (F64_1 n0 f0)]) := evAsm1 fun hn => evEnter (first_ev (Q := fun _ => True) (fun _ x => .obc (.obt x)) (fun i x r h hx => evObc (evObt hx)) (fun _ _ => rfl) hn (fun _ _ => trivial) fun i => rfl)
theorem ev64 (n0 : Nat) (f0 : FnV) : evR (Ev (st64 n0 f0)) (m64 n0 f0) (.tup [.int .i64 (F64_0 n0 (elV tyT f0)), .int .i64 (F64_1 n0 (elV tyT f0))]) := ev64_0 n0 f0
def C64 : PCon := mkC [.sl tyT, .fn 65 [] []] (fun _ => True) fun
 | [.sl n0 f0, .fn _ [] []] => .tup [.int .i64 (F64_0 n0 f0), .int .i64 (F64_1 n0 f0)]
 | _ => .any
theorem ok64 : (vP C64).Ok Tryz.prog 64 := mkE tabB8 Tryz.func64 (by kernel_rfl) fun ds hp => rfs (run64 ..) (ev64 _ _)
inductive S66 where
 | L0 (ia0 : Int)
def inv66 (n0 : Nat) (f0 : FnV) : S66 -> Env × List O × Option Ex
 | .L0 ia0 => ([(11, vi ia0), (10, vi (↑n0 : Int)), (9, V.sl n0 (elV tyF f0)), (5, vi 0), (4, vi 0), (0, V.sl n0 (elV tyF f0)), (1, V.fn 67 [] [])], [], none)
def id66 : S66 -> JJ
 | .L0 ia0 => (0, [])
def rl66 (n0 : Nat) (f0 : FnV) : T (Leaf JJ) := runL JJ ctB8 u0 s66 [V.sl n0 (elV tyF f0), V.fn 67 [] []]
def lp66_0 (n0 : Nat) (f0 : FnV) (cx : List Cx) : Lp JJ := lpT (atT (rl66 n0 f0) [])
def lp66 (n0 : Nat) (f0 : FnV) : JJ -> Lp JJ
 | (0, cx) => lp66_0 n0 f0 cx
 | (_, cx) => lp66_0 n0 f0 cx
def D66 (n0 : Nat) (f0 : FnV) : LD JJ S66 := ⟨id66, lp66 n0 f0, inv66 n0 f0⟩
def st66 (n0 : Nat) (f0 : FnV) : S66 -> RT S66
 | .L0 ia0 => .br (decide (ia0 < (↑n0 : Int))) (.ob (decide (0 <= ia0 /\ ia0 < (↑n0 : Int))) (.ob (decide (0 <= ia0 /\ ia0 <= (↑n0 : Int))) (.obc (.obt (.br ((F67_0 (jv0 (f0 ia0.toNat)) (jv1 (f0 ia0.toNat)) (jv2 (f0 ia0.toNat)) (jv3 (f0 ia0.toNat)) (lenV (hdV (tlV (tlV (tlV (tlV (f0 ia0.toNat))))))) fun i => views tp4 (atV (hdV (tlV (tlV (tlV (tlV (f0 ia0.toNat)))))) i)) != 0) (.ret (V.tup [vi ia0, vi (F67_0 (jv0 (f0 ia0.toNat)) (jv1 (f0 ia0.toNat)) (jv2 (f0 ia0.toNat)) (jv3 (f0 ia0.toNat)) (lenV (hdV (tlV (tlV (tlV (tlV (f0 ia0.toNat))))))) fun i => views tp4 (atV (hdV (tlV (tlV (tlV (tlV (f0 ia0.toNat)))))) i))])) (.next [] (S66.L0 (i64.wrap (ia0 + 1))) [])))))) (.ret (V.tup [vi 0, vi 0]))
def m66 (n0 : Nat) (f0 : FnV) : RT S66 := .asm (true = true -> n0 <= 9223372036854775807) (.enter [] (S66.L0 (0)) [])
theorem run66 (n0 : Nat) (f0 : FnV) : Fits ctB8 u0 (D66 n0 f0) (rl66 n0 f0) (m66 n0 f0) (st66 n0 f0) := ⟨⟨by kernel_rfl, by kernel_rfl⟩, fun s => by cases s <;> exact ⟨by kernel_rfl, by kernel_rfl⟩⟩
def c66 (n0 : Nat) (f0 : FnV) (ii : Nat) : Int := (F67_0 (jv0 (f0 ii)) (jv1 (f0 ii)) (jv2 (f0 ii)) (jv3 (f0 ii)) (lenV (hdV (tlV (tlV (tlV (tlV (f0 ii))))))) fun i => views tp4 (atV (hdV (tlV (tlV (tlV (tlV (f0 ii)))))) i))
def F66_0 (n0 : Nat) (f0 : FnV) : Int := firstI n0 (c66 n0 f0)
def F66_1 (n0 : Nat) (f0 : FnV) : Int := firstE n0 (c66 n0 f0)
theorem ev66_0 (n0 : Nat) (f0 : FnV) : evR (Ev (st66 n0 f0)) (m66 n0 f0) (.tup [.int .i64 (F66_0 n0 f0), .int .i64 (F66_1 n0 f0)]) := evAsm1 fun hn => evEnter (first_ev (Q := fun _ => True) (fun _ x => .obc (.obt x)) (fun i x r h hx => evObc (evObt hx)) (fun _ _ => rfl) hn (fun _ _ => trivial) fun i => rfl)
theorem ev66 (n0 : Nat) (f0 : FnV) : evR (Ev (st66 n0 f0)) (m66 n0 f0) (.tup [.int .i64 (F66_0 n0 (elV tyF f0)), .int .i64 (F66_1 n0 (elV tyF f0))]) := ev66_0 n0 f0
def C66 : PCon := mkC [.sl tyF, .fn 67 [] []] (fun _ => True) fun
 | [.sl n0 f0, .fn _ [] []] => .tup [.int .i64 (F66_0 n0 f0), .int .i64 (F66_1 n0 f0)]
 | _ => .any
theorem ok66 : (vP C66).Ok Tryz.prog 66 := mkE tabB8 Tryz.func66 (by kernel_rfl) fun ds hp => rfs (run66 ..) (ev66 _ _)
end Go.Dx
namespace Go.Proofs
open Go.Shelf
def Tryz.lays160_ren : Go.Shelf.Ren := ⟨fun | 160 => 146 | 232 => 165 | 231 => 164 | 227 => 166 | 234 => 168 | 233 => 167 | 236 => 170 | 235 => 169 | 228 => 185 | 271 => 188 | 151 => 187 | 197 => 186 | 120 => 195 | 152 => 194 | 260 => 193 | 137 => 197 | 119 => 198 | 224 => 199 | 225 => 200 | 217 => 201 | 266 => 202 | n => n, fun | 9 => 9 | 4 => 4 | 3 => 3 | 5 => 5 | 117 => 228 | 116 => 227 | 0 => 0 | 124 => 231 | 21 => 21 | 105 => 245 | 46 => 188 | 119 => 254 | 139 => 257 | 138 => 256 | n => n, fun | 3 => 0 | 4 => 1 | n => n⟩
theorem Tryz.lays160 : Go.Proofs.Lays.n160 Tryz.prog Tryz.lays160_ren := {
 mixed := by kernel_rfl
 f119 := Tryz.func198.trans (congrArg some (by kernel_rfl))
 f120 := Tryz.func195.trans (congrArg some (by kernel_rfl))
 f137 := Tryz.func197.trans (congrArg some (by kernel_rfl))
 f151 := Tryz.func187.trans (congrArg some (by kernel_rfl))
 f152 := Tryz.func194.trans (congrArg some (by kernel_rfl))
 f160 := Tryz.func146.trans (congrArg some (by kernel_rfl))
 f197 := Tryz.func186.trans (congrArg some (by kernel_rfl))
 f217 := Tryz.func201.trans (congrArg some (by kernel_rfl))
 f224 := Tryz.func199.trans (congrArg some (by kernel_rfl))
 f225 := Tryz.func200.trans (congrArg some (by kernel_rfl))
 f227 := Tryz.func166.trans (congrArg some (by kernel_rfl))
 f228 := Tryz.func185.trans (congrArg some (by kernel_rfl))
 f231 := Tryz.func164.trans (congrArg some (by kernel_rfl))
 f232 := Tryz.func165.trans (congrArg some (by kernel_rfl))
 f233 := Tryz.func167.trans (congrArg some (by kernel_rfl))
 f234 := Tryz.func168.trans (congrArg some (by kernel_rfl))
 f235 := Tryz.func169.trans (congrArg some (by kernel_rfl))
 f236 := Tryz.func170.trans (congrArg some (by kernel_rfl))
 f260 := Tryz.func193.trans (congrArg some (by kernel_rfl))
 f266 := Tryz.func202.trans (congrArg some (by kernel_rfl))
 f271 := Tryz.func188.trans (congrArg some (by kernel_rfl))
 t0 := Tryz.underlying0
 a0 := Tryz.isAgg0
 z0 := Tryz.sizeOf0
 v0 := Tryz.zeroValue0
 t3 := Tryz.underlying3
 a3 := Tryz.isAgg3
 z3 := Tryz.sizeOf3
 v3 := Tryz.zeroValue3
 t4 := Tryz.underlying4
 a4 := Tryz.isAgg4
 z4 := Tryz.sizeOf4
 v4 := Tryz.zeroValue4
 t5 := Tryz.underlying5
 a5 := Tryz.isAgg5
 z5 := Tryz.sizeOf5
 v5 := Tryz.zeroValue5
 t9 := Tryz.underlying9
 a9 := Tryz.isAgg9
 z9 := Tryz.sizeOf9
 v9 := Tryz.zeroValue9
 t21 := Tryz.underlying21
 a21 := Tryz.isAgg21
 z21 := Tryz.sizeOf21
 v21 := Tryz.zeroValue21
 t46 := Tryz.underlying188
 a46 := Tryz.isAgg188
 z46 := Tryz.sizeOf188
 v46 := Tryz.zeroValue188
 t105 := Tryz.underlying245
 a105 := Tryz.isAgg245
 z105 := Tryz.sizeOf245
 v105 := Tryz.zeroValue245
 t116 := Tryz.underlying227
 a116 := Tryz.isAgg227
 z116 := Tryz.sizeOf227
 t117 := Tryz.underlying228
 a117 := Tryz.isAgg228
 z117 := Tryz.sizeOf228
 v117 := Tryz.zeroValue228
 t119 := Tryz.underlying254
 a119 := Tryz.isAgg254
 z119 := Tryz.sizeOf254
 t124 := Tryz.underlying231
 a124 := Tryz.isAgg231
 z124 := Tryz.sizeOf231
 v124 := Tryz.zeroValue231
 t138 := Tryz.underlying256
 a138 := Tryz.isAgg256
 z138 := Tryz.sizeOf256
 v138 := Tryz.zeroValue256
 t139 := Tryz.underlying257
 a139 := Tryz.isAgg257
 z139 := Tryz.sizeOf257
 v139 := Tryz.zeroValue257
 g3 := by kernel_rfl
 g4 := by kernel_rfl }
end Go.Proofs
namespace Go.Dx
open Go.IntKind (i64 u64 u8)
open Go.Sx Go.Proofs Go.Shelf Go.RowKit
def cutN : ByteArray := ⟨#[97, 98, 99, 100, 101, 102, 103, 104, 105, 106, 107, 108, 109, 110, 111, 112, 113, 114, 115, 116, 117, 118, 119, 120, 121, 122, 48, 49, 50, 51, 52, 53, 54, 55, 56, 57, 45]⟩
def F146 (s c : ByteArray) : ByteArray := ⟨(Lib.trimS s.data.toList c.data.toList).toArray⟩
def C146 : PCon := mkC [.str, .str] (fun
 | [.str s, .str c] => s.size <= 9223372036854775807 /\ c = cutN
 | _ => False) fun
 | [.str s, .str c] => .str (F146 s c)
 | _ => .any
theorem trim_calls (s : ByteArray) (w : World) (hs : s.size <= 9223372036854775807) : Calls Tryz.prog 146 #[.string s, .string cutN] w fun e w' => e = .returned (.string (F146 s cutN)) /\ Below w.heap.size w w' :=
 Any.strings_Trim_laid Tryz.lays160 (by kernel_rfl) s cutN w hs (by decide) (ascii_of_all (by decide))
theorem HRel.below {B : Base} {m : Names} {lh : List LObj} {w w' : World} (h : HRel B m lh w) (hb : Below w.heap.size w w') : HRel B m lh w' := by
 obtain ⟨h1, h2, h3, h4, h5⟩ := hb
 have hsz : B.w0.heap.size <= w'.heap.size := Nat.le_trans h.size h4
 refine ⟨h1.trans h.os, h2.trans h.tape, h3.trans h.output, hsz, fun b hb => (h5 b (Nat.lt_of_lt_of_le hb h.size)).trans (h.old b hb), Nat.le_trans h.fsize h4, fun b hb ho => (h5 b (Nat.lt_of_lt_of_le hb h.fsize)).trans (h.kept b hb ho), fun k cs ty hk => ?_, h.inj, h.dom, h.dead, fun k b hk => Nat.lt_of_lt_of_le (h.rng k b hk) h4⟩
 obtain ⟨b, vs, g1, g2, g3, g4⟩ := h.loc k cs ty hk
 exact ⟨b, vs, g1, g2, (h5 b (h.rng k b g1)).trans g3, g4⟩
theorem ok146 : (vP C146).Ok Tryz.prog 146 := by
 refine ⟨fun B m lh w args vs K hrel hargs hsp => ?_, fun _ _ _ _ _ hk ⟨ds, d, p, r, h1, h2, h3, h4, h5⟩ => ⟨ds, d, p, r, h1, h2, h3, h4, hk _ _ h5⟩, fun _ _ _ _ ⟨_, _, _, _, _, _, _, _, h⟩ => h⟩
 obtain ⟨ds, d, p, r, h1, h2, ⟨h30, h3⟩, h4, h5⟩ := hsp
 simp only [C146, mkC, Option.some.injEq, Prod.mk.injEq] at h2
 obtain ⟨rfl, rfl, rfl⟩ := h2
 have hty := (fxs_ok [.str, .str] ds [] [] rfl h30).1
 simp only [hasTys, hasTy] at hty
 obtain ⟨e1, e2, e3, e4, e5⟩ := hty
 rw [e5] at e3
 rw [e3, e2, e4] at e1
 generalize sv (hdV ds) = s at e1
 generalize sv (hdV (tlV ds)) = c at e1
 subst e1
 simp only [unqs, unq] at h3 h4 h5
 obtain ⟨hs, rfl⟩ := h3
 simp only [vrs, vr] at h1
 obtain ⟨_, _, rfl, rfl, _, _, rfl, rfl, rfl⟩ := h1
 simp only [vrels, vrel] at hargs
 obtain ⟨_, _, rfl, rfl, _, _, rfl, rfl, rfl⟩ := hargs
 refine ⟨⟨_, Tryz.func146, by kernel_rfl, by kernel_rfl⟩, (trim_calls s w hs).mono fun e w' ⟨he, hb⟩ => ?_⟩
 exact ⟨_, _, m, lh, he, by simp only [toA, vrel], Ext.refl _ _, HRel.below hrel hb, h5⟩
theorem str_pos (s : ByteArray) (h : (!s.toList == (⟨#[]⟩ : ByteArray).toList) = true) : (0 : Int) < (s.size : Int) := by
 have e : (⟨#[]⟩ : ByteArray).toList = [] := by decide +kernel
 by_cases hz : s.size = 0
 ·have : s = ⟨#[]⟩ := by
   cases s with | mk d => 
   have : d = #[] := Array.eq_empty_of_size_eq_zero hz
   rw [this]
  rw [this, e] at h; cases h
 ·omega
end Go.Dx
namespace Go.Dx
open Go.IntKind (i64 u64 u8)
open Go.Sx Go.Proofs
def ctB9 : CTab := [(147, .con C147), (64, .con C64), (66, .con C66), (113, .con C113), (65, .con C65), (67, .con C67), (53, .con C53), (45, .con C45), (90, .con C90), (119, .con C119), (121, .con C121), (99, .con C99), (129, .con C129), (148, .con C148), (149, .con C149), (112, .con C112), (118, .con C118), (120, .con C120), (133, .con C133), (103, .con C103), (100, .con C100), (134, .con C134), (135, .con C135), (78, .con C78), (54, .con C54), (48, .con C48), (102, .con C102), (84, .con C84), (85, .con C85), (127, .con C127), (101, .con C101), (86, .con C86), (162, .con C162), (146, .con C146)]
theorem tabB9 : TabOk Tryz.prog eqs its ctB9 := .con ok147 (.con ok64 (.con ok66 (.con ok113 (.con ok65 (.con ok67 (.con ok53 (.con ok45 (.con ok90 (.con ok119 (.con ok121 (.con ok99 (.con ok129 (.con ok148 (.con ok149 (.con ok112 (.con ok118 (.con ok120 (.con ok133 (.con ok103 (.con ok100 (.con ok134 (.con ok135 (.con ok78 (.con ok54 (.con ok48 (.con ok102 (.con ok84 (.con ok85 (.con ok127 (.con ok101 (.con ok86 (.con ok162 (.con ok146 (.nil))))))))))))))))))))))))))))))))))
def m115 (n0 : Nat) (f0 : FnV) : RT Empty := .obc (.obt (.ret (V.bool (decide (0 <= F147 n0 (elV tp2 f0))))))
theorem run115 (n0 : Nat) (f0 : FnV) : Fit noD (runL JJ ctB9 u0 s115 [V.sl n0 (elV tp2 f0), V.fn 113 [] []]) (m115 n0 f0) := ⟨by kernel_rfl, by kernel_rfl⟩
def F115_0 (n0 : Nat) (f0 : FnV) : Bool := decide (0 <= F147 n0 (elV tp2 f0))
def R115 (n0 : Nat) (f0 : FnV) : V := .bool (F115_0 n0 f0)
theorem ev115 (n0 : Nat) (f0 : FnV) : evR noE (m115 n0 f0) (R115 n0 f0) := evObc (evObt (evRet (by unfold R115 F115_0; rfl)))
def C115 : PCon := mkC [.sl tp2, .fn 113 [] []] (fun _ => True) fun
 | [.sl n0 f0, .fn _ [] []] => R115 n0 f0
 | _ => .any
theorem ok115 : (vP C115).Ok Tryz.prog 115 := mkE tabB9 Tryz.func115 (by kernel_rfl) fun ds hp => rf0 (run115 ..) (ev115 _ _)
def m114 (s0 : ByteArray) : RT Empty := .obp (s0.size <= (9223372036854775807 : Nat) /\ ByteArray.mk (Array.mk [(97 : UInt8), (98 : UInt8), (99 : UInt8), (100 : UInt8), (101 : UInt8), (102 : UInt8), (103 : UInt8), (104 : UInt8), (105 : UInt8), (106 : UInt8), (107 : UInt8), (108 : UInt8), (109 : UInt8), (110 : UInt8), (111 : UInt8), (112 : UInt8), (113 : UInt8), (114 : UInt8), (115 : UInt8), (116 : UInt8), (117 : UInt8), (118 : UInt8), (119 : UInt8), (120 : UInt8), (121 : UInt8), (122 : UInt8), (48 : UInt8), (49 : UInt8), (50 : UInt8), (51 : UInt8), (52 : UInt8), (53 : UInt8), (54 : UInt8), (55 : UInt8), (56 : UInt8), (57 : UInt8), (45 : UInt8)]) = ByteArray.mk (Array.mk [(97 : UInt8), (98 : UInt8), (99 : UInt8), (100 : UInt8), (101 : UInt8), (102 : UInt8), (103 : UInt8), (104 : UInt8), (105 : UInt8), (106 : UInt8), (107 : UInt8), (108 : UInt8), (109 : UInt8), (110 : UInt8), (111 : UInt8), (112 : UInt8), (113 : UInt8), (114 : UInt8), (115 : UInt8), (116 : UInt8), (117 : UInt8), (118 : UInt8), (119 : UInt8), (120 : UInt8), (121 : UInt8), (122 : UInt8), (48 : UInt8), (49 : UInt8), (50 : UInt8), (51 : UInt8), (52 : UInt8), (53 : UInt8), (54 : UInt8), (55 : UInt8), (56 : UInt8), (57 : UInt8), (45 : UInt8)])) (.obt (.obi (.obi (.obi (.obi (.obi (.obi (.obj (bif bif !s0.toList == (ByteArray.mk (Array.mk [])).toList then decide ((↑s0.size : Int) <= 24) else false then (F146 s0 (ByteArray.mk (Array.mk [97, 98, 99, 100, 101, 102, 103, 104, 105, 106, 107, 108, 109, 110, 111, 112, 113, 114, 115, 116, 117, 118, 119, 120, 121, 122, 48, 49, 50, 51, 52, 53, 54, 55, 56, 57, 45]))).toList == (ByteArray.mk (Array.mk [])).toList else false) (decide ((0 : Int) <= 0 /\ 0 < (↑s0.size : Int))) (.obi (.obi (.obi (.obj (bif bif bif !s0.toList == (ByteArray.mk (Array.mk [])).toList then decide ((↑s0.size : Int) <= 24) else false then (F146 s0 (ByteArray.mk (Array.mk [97, 98, 99, 100, 101, 102, 103, 104, 105, 106, 107, 108, 109, 110, 111, 112, 113, 114, 115, 116, 117, 118, 119, 120, 121, 122, 48, 49, 50, 51, 52, 53, 54, 55, 56, 57, 45]))).toList == (ByteArray.mk (Array.mk [])).toList else false then decide (97 <= (↑(s0.data.1.getD 0 0).toNat : Int)) else false) (decide ((0 : Int) <= 0 /\ 0 < (↑s0.size : Int))) (.obi (.obi (.ret (V.bool (bif bif bif bif !s0.toList == (ByteArray.mk (Array.mk [])).toList then decide ((↑s0.size : Int) <= 24) else false then (F146 s0 (ByteArray.mk (Array.mk [97, 98, 99, 100, 101, 102, 103, 104, 105, 106, 107, 108, 109, 110, 111, 112, 113, 114, 115, 116, 117, 118, 119, 120, 121, 122, 48, 49, 50, 51, 52, 53, 54, 55, 56, 57, 45]))).toList == (ByteArray.mk (Array.mk [])).toList else false then decide (97 <= (↑(s0.data.1.getD 0 0).toNat : Int)) else false then decide ((↑(s0.data.1.getD 0 0).toNat : Int) <= 122) else false)))))))))))))))))
theorem run114 (s0 : ByteArray) : Fit noD (runL JJ ctB9 u0 s114 [V.str s0]) (m114 s0) := ⟨by kernel_rfl, by kernel_rfl⟩
def F114_0 (s0 : ByteArray) : Bool := bif bif bif bif !s0.toList == (ByteArray.mk (Array.mk [])).toList then decide ((↑s0.size : Int) <= 24) else false then (F146 s0 (ByteArray.mk (Array.mk [97, 98, 99, 100, 101, 102, 103, 104, 105, 106, 107, 108, 109, 110, 111, 112, 113, 114, 115, 116, 117, 118, 119, 120, 121, 122, 48, 49, 50, 51, 52, 53, 54, 55, 56, 57, 45]))).toList == (ByteArray.mk (Array.mk [])).toList else false then decide (97 <= (↑(s0.data.1.getD 0 0).toNat : Int)) else false then decide ((↑(s0.data.1.getD 0 0).toNat : Int) <= 122) else false
def R114 (s0 : ByteArray) : V := .bool (F114_0 s0)
theorem ev114 (s0 : ByteArray) (hp : s0.size <= 9223372036854775807) : evR noE (m114 s0) (R114 s0) := evObp (by first | assumption | (exact ⟨hp, rfl⟩)) (evObt (evObi (evObi (evObi (evObi (evObi (evObi (evObj (by first | assumption | (intro h; refine dqt ⟨Int.le_refl 0, str_pos s0 ?_⟩; cases hb : (!s0.toList == (⟨#[]⟩ : ByteArray).toList) with | true => rfl | false => (rw [hb] at h; simp at h))) (evObi (evObi (evObi (evObj (by first | assumption | (intro h; refine dqt ⟨Int.le_refl 0, str_pos s0 ?_⟩; cases hb : (!s0.toList == (⟨#[]⟩ : ByteArray).toList) with | true => rfl | false => (rw [hb] at h; simp at h))) (evObi (evObi (evRet (by unfold R114 F114_0; rfl))))))))))))))))
def C114 : PCon := mkC [.str] (fun
 | [.str s0] => s0.size <= 9223372036854775807
 | _ => False) fun
 | [.str s0] => R114 s0
 | _ => .any
theorem ok114 : (vP C114).Ok Tryz.prog 114 := mkE tabB9 Tryz.func114 (by kernel_rfl) fun ds hp => rf0 (run114 ..) (ev114 _ hp)
def colE (x y h dx dy : Int) : Int := bif bif bif bif !F51 2 (elV tp1 (secF [V.int .i64 x, V.int .i64 y] 0 ((1 + 1 - 0) / 2))) then true else !F71_0 h 1 200 then true else !F71_0 dx (-1000) 1000 then true else !F71_0 dy (-1000) 1000 then 7 else bif bif dx == 0 then dy == 0 else false then 2 else 0
def F73 (n6 : Nat) (f6 : FnV) (x8 : Int) : Int := bif !F122 (sv (hdV (f6 x8.toNat))) then 6 else bif exB x8.toNat (fun k => (sv (hdV (f6 k))).toList == (sv (hdV (f6 x8.toNat))).toList) then 5 else colE (jv1 (f6 x8.toNat)) (jv2 (f6 x8.toNat)) (jv3 (f6 x8.toNat)) (jv4 (f6 x8.toNat)) (jv5 (f6 x8.toNat))
def ctB10 : CTab := (117, .inl s117 u0) :: (116, .inl s116 u0) :: (115, .con C115) :: (114, .con C114) :: ctB9
theorem tabB10 : TabOk Tryz.prog eqs its ctB10 := .inl Tryz.func117 (by kernel_rfl) (by kernel_rfl) (by kernel_rfl) (.inl Tryz.func116 (by kernel_rfl) (by kernel_rfl) (by kernel_rfl) (.con ok115 (.con ok114 (tabB9))))
inductive S63 where
 | L0 (ia0 : Int) (fa1 : Nat -> List V)
 | L1 (ib0 : Int) (fb1 : Nat -> List V)
 | L2 (ic0 : Int) (fc1 : Nat -> List V)
 | L3 (id0 : Int) (fd1 : Nat -> List V)
 | L4 (ie0 : Int) (ne1 ne2 : Nat) (ie3 ie4 ie5 : Int) (ne6 : Nat) (ie7 ie8 ie9 ie10 : Int) (fe11 : Nat -> List V)
 | L5 (if0 : Int) (nf1 nf2 : Nat) (if3 if4 if5 : Int) (nf6 : Nat) (if7 if8 if9 if10 : Int) (ff11 : Nat -> List V)
 | L6 (ig0 : Int) (ng1 ng2 : Nat) (ig3 ig4 ig5 : Int) (ng6 : Nat) (ig7 ig8 ig9 ig10 : Int) (fg11 : Nat -> List V)
 | L7 (ih0 : Int) (nh1 nh2 : Nat) (ih3 ih4 ih5 : Int) (nh6 : Nat) (ih7 ih8 ih9 ih10 : Int) (fh11 : Nat -> List V)
def inv63 (n0 : Nat) (f0 : FnV) (s2 : ByteArray) (x3 : Int) (n4 : Nat) (f4 : FnV) (x6 : Int) : S63 -> Env × List O × Option Ex
 | .L0 ia0 fa1 => ([(3, vi ia0), (8, V.kb false), (7, vi (↑n4 : Int)), (6, V.gs 2 n4), (2, V.ns), (0, V.gs 2 n4)], [O.cells [V.str s2, vi x3, V.sl n4 (elV tp2 f4), vi x6] 54, O.hid, O.gl 2 n4 (elV tp2 fa1) 72], none)
 | .L1 ib0 fb1 => ([(3, vi ib0), (8, V.kb false), (7, vi (↑n4 : Int)), (6, V.gs 2 n4), (2, V.ns), (0, V.gs 2 n4)], [O.cells [V.str s2, vi x3, V.sl n4 (elV tp2 f4), vi x6] 54, O.hid, O.gl 2 n4 (elV tp2 fb1) 72], none)
 | .L2 ic0 fc1 => ([(3, vi ic0), (8, V.kb false), (7, vi (↑n4 : Int)), (6, V.gs 2 n4), (2, V.ns), (0, V.gs 2 n4)], [O.cells [V.str s2, vi x3, V.sl n4 (elV tp2 f4), vi x6] 54, O.hid, O.gl 2 n4 (elV tp2 fc1) 72], none)
 | .L3 id0 fd1 => ([(3, vi id0), (8, V.kb false), (7, vi (↑n4 : Int)), (6, V.gs 2 n4), (2, V.ns), (0, V.gs 2 n4)], [O.cells [V.str s2, vi x3, V.sl n4 (elV tp2 f4), vi x6] 54, O.hid, O.gl 2 n4 (elV tp2 fd1) 72], none)
 | .L4 ie0 ne1 ne2 ie3 ie4 ie5 ne6 ie7 ie8 ie9 ie10 fe11 => ([(5, vi ie0), (4, V.go 2 ne1 ne2), (28, V.go 2 ne1 ne2), (27, vi ie3), (26, V.gs 2 n4), (25, V.kb true), (24, V.agg [vi ie4, vi ie5]), (23, V.pe 2 ne6 0), (22, vi ie7), (21, vi ie3), (20, V.gs 2 n4), (19, V.agg [vi ie8, vi ie9]), (18, V.pe 2 ne1 0), (17, vi ie3), (16, V.gs 2 n4), (13, V.kb true), (12, vi (↑n4 : Int)), (11, V.gs 2 n4), (10, vi ie3), (3, vi ie10), (8, V.kb false), (7, vi (↑n4 : Int)), (6, V.gs 2 n4), (2, V.ns), (0, V.gs 2 n4)], [O.cells [V.str s2, vi x3, V.sl n4 (elV tp2 f4), vi x6] 54, O.hid, O.gl 2 n4 (elV tp2 fe11) 72], none)
 | .L5 if0 nf1 nf2 if3 if4 if5 nf6 if7 if8 if9 if10 ff11 => ([(5, vi if0), (4, V.go 2 nf1 nf2), (28, V.go 2 nf1 nf2), (27, vi if3), (26, V.gs 2 n4), (25, V.kb true), (24, V.agg [vi if4, vi if5]), (23, V.pe 2 nf6 0), (22, vi if7), (21, vi if3), (20, V.gs 2 n4), (19, V.agg [vi if8, vi if9]), (18, V.pe 2 nf1 0), (17, vi if3), (16, V.gs 2 n4), (13, V.kb true), (12, vi (↑n4 : Int)), (11, V.gs 2 n4), (10, vi if3), (3, vi if10), (8, V.kb false), (7, vi (↑n4 : Int)), (6, V.gs 2 n4), (2, V.ns), (0, V.gs 2 n4)], [O.cells [V.str s2, vi x3, V.sl n4 (elV tp2 f4), vi x6] 54, O.hid, O.gl 2 n4 (elV tp2 ff11) 72], none)
 | .L6 ig0 ng1 ng2 ig3 ig4 ig5 ng6 ig7 ig8 ig9 ig10 fg11 => ([(5, vi ig0), (4, V.go 2 ng1 ng2), (28, V.go 2 ng1 ng2), (27, vi ig3), (26, V.gs 2 n4), (25, V.kb true), (24, V.agg [vi ig4, vi ig5]), (23, V.pe 2 ng6 0), (22, vi ig7), (21, vi ig3), (20, V.gs 2 n4), (19, V.agg [vi ig8, vi ig9]), (18, V.pe 2 ng1 0), (17, vi ig3), (16, V.gs 2 n4), (13, V.kb true), (12, vi (↑n4 : Int)), (11, V.gs 2 n4), (10, vi ig3), (3, vi ig10), (8, V.kb false), (7, vi (↑n4 : Int)), (6, V.gs 2 n4), (2, V.ns), (0, V.gs 2 n4)], [O.cells [V.str s2, vi x3, V.sl n4 (elV tp2 f4), vi x6] 54, O.hid, O.gl 2 n4 (elV tp2 fg11) 72], none)
 | .L7 ih0 nh1 nh2 ih3 ih4 ih5 nh6 ih7 ih8 ih9 ih10 fh11 => ([(5, vi ih0), (4, V.go 2 nh1 nh2), (28, V.go 2 nh1 nh2), (27, vi ih3), (26, V.gs 2 n4), (25, V.kb true), (24, V.agg [vi ih4, vi ih5]), (23, V.pe 2 nh6 0), (22, vi ih7), (21, vi ih3), (20, V.gs 2 n4), (19, V.agg [vi ih8, vi ih9]), (18, V.pe 2 nh1 0), (17, vi ih3), (16, V.gs 2 n4), (13, V.kb true), (12, vi (↑n4 : Int)), (11, V.gs 2 n4), (10, vi ih3), (3, vi ih10), (8, V.kb false), (7, vi (↑n4 : Int)), (6, V.gs 2 n4), (2, V.ns), (0, V.gs 2 n4)], [O.cells [V.str s2, vi x3, V.sl n4 (elV tp2 f4), vi x6] 54, O.hid, O.gl 2 n4 (elV tp2 fh11) 72], none)
def id63 : S63 -> JJ
 | .L0 ia0 fa1 => (0, [])
 | .L1 ib0 fb1 => (1, [])
 | .L2 ic0 fc1 => (2, [])
 | .L3 id0 fd1 => (3, [])
 | .L4 ie0 ne1 ne2 ie3 ie4 ie5 ne6 ie7 ie8 ie9 ie10 fe11 => (4, [])
 | .L5 if0 nf1 nf2 if3 if4 if5 nf6 if7 if8 if9 if10 ff11 => (5, [])
 | .L6 ig0 ng1 ng2 ig3 ig4 ig5 ng6 ig7 ig8 ig9 ig10 fg11 => (6, [])
 | .L7 ih0 nh1 nh2 ih3 ih4 ih5 nh6 ih7 ih8 ih9 ih10 fh11 => (7, [])
def rl63 (n0 : Nat) (f0 : FnV) (s2 : ByteArray) (x3 : Int) (n4 : Nat) (f4 : FnV) (x6 : Int) : T (Leaf JJ) := runL JJ ctB10 u0 s63 [V.sl n0 (elV tyR f0), V.agg [V.str s2, vi x3, V.sl n4 (elV tp2 f4), vi x6]]
def lp63_0 (n0 : Nat) (f0 : FnV) (s2 : ByteArray) (x3 : Int) (n4 : Nat) (f4 : FnV) (x6 : Int) (cx : List Cx) : Lp JJ := lpT (atT (rl63 n0 f0 s2 x3 n4 f4 x6) [false, false, false, false, false, true, false, true, true, false, true, false])
def lp63_1 (n0 : Nat) (f0 : FnV) (s2 : ByteArray) (x3 : Int) (n4 : Nat) (f4 : FnV) (x6 : Int) (cx : List Cx) : Lp JJ := lpT (atT (rl63 n0 f0 s2 x3 n4 f4 x6) [false, false, false, false, false, true, false, true, true, false, false, false])
def lp63_2 (n0 : Nat) (f0 : FnV) (s2 : ByteArray) (x3 : Int) (n4 : Nat) (f4 : FnV) (x6 : Int) (cx : List Cx) : Lp JJ := lpT (atT (rl63 n0 f0 s2 x3 n4 f4 x6) [false, false, false, false, false, true, false, true, false, false, false])
def lp63_3 (n0 : Nat) (f0 : FnV) (s2 : ByteArray) (x3 : Int) (n4 : Nat) (f4 : FnV) (x6 : Int) (cx : List Cx) : Lp JJ := lpT (atT (rl63 n0 f0 s2 x3 n4 f4 x6) [false, false, false, false, false, true, false, false, false, false])
def lp63_4 (n0 : Nat) (f0 : FnV) (s2 : ByteArray) (x3 : Int) (n4 : Nat) (f4 : FnV) (x6 : Int) (cx : List Cx) : Lp JJ := lpT (atT (rdP ctB10 u0 (0, []) (lp63_0 n0 f0 s2 x3 n4 f4 x6 []) (inv63 n0 f0 s2 x3 n4 f4 x6 (.L0 (0 : Int) (fun _ => [])))) [true, true])
def lp63_5 (n0 : Nat) (f0 : FnV) (s2 : ByteArray) (x3 : Int) (n4 : Nat) (f4 : FnV) (x6 : Int) (cx : List Cx) : Lp JJ := lpT (atT (rdP ctB10 u0 (1, []) (lp63_1 n0 f0 s2 x3 n4 f4 x6 []) (inv63 n0 f0 s2 x3 n4 f4 x6 (.L1 (0 : Int) (fun _ => [])))) [true, true])
def lp63_6 (n0 : Nat) (f0 : FnV) (s2 : ByteArray) (x3 : Int) (n4 : Nat) (f4 : FnV) (x6 : Int) (cx : List Cx) : Lp JJ := lpT (atT (rdP ctB10 u0 (2, []) (lp63_2 n0 f0 s2 x3 n4 f4 x6 []) (inv63 n0 f0 s2 x3 n4 f4 x6 (.L2 (0 : Int) (fun _ => [])))) [true, true])
def lp63_7 (n0 : Nat) (f0 : FnV) (s2 : ByteArray) (x3 : Int) (n4 : Nat) (f4 : FnV) (x6 : Int) (cx : List Cx) : Lp JJ := lpT (atT (rdP ctB10 u0 (3, []) (lp63_3 n0 f0 s2 x3 n4 f4 x6 []) (inv63 n0 f0 s2 x3 n4 f4 x6 (.L3 (0 : Int) (fun _ => [])))) [true, true])
def lp63 (n0 : Nat) (f0 : FnV) (s2 : ByteArray) (x3 : Int) (n4 : Nat) (f4 : FnV) (x6 : Int) : JJ -> Lp JJ
 | (0, cx) => lp63_0 n0 f0 s2 x3 n4 f4 x6 cx
 | (1, cx) => lp63_1 n0 f0 s2 x3 n4 f4 x6 cx
 | (2, cx) => lp63_2 n0 f0 s2 x3 n4 f4 x6 cx
 | (3, cx) => lp63_3 n0 f0 s2 x3 n4 f4 x6 cx
 | (4, cx) => lp63_4 n0 f0 s2 x3 n4 f4 x6 cx
 | (5, cx) => lp63_5 n0 f0 s2 x3 n4 f4 x6 cx
 | (6, cx) => lp63_6 n0 f0 s2 x3 n4 f4 x6 cx
 | (7, cx) => lp63_7 n0 f0 s2 x3 n4 f4 x6 cx
 | (_, cx) => lp63_0 n0 f0 s2 x3 n4 f4 x6 cx
def D63 (n0 : Nat) (f0 : FnV) (s2 : ByteArray) (x3 : Int) (n4 : Nat) (f4 : FnV) (x6 : Int) : LD JJ S63 := ⟨id63, lp63 n0 f0 s2 x3 n4 f4 x6, inv63 n0 f0 s2 x3 n4 f4 x6⟩
def st63 (n0 : Nat) (f0 : FnV) (s2 : ByteArray) (x3 : Int) (n4 : Nat) (f4 : FnV) (x6 : Int) : S63 -> RT S63
 | .L0 ia0 fa1 => .br (decide (ia0 < (↑n4 : Int))) (.ob (decide (0 <= ia0 /\ ia0 < (↑n4 : Int) /\ n4 <= n4)) (.ob (decide (ia0.toNat < n4)) (.ob (decide (0 <= i64.wrap (ia0 - 1) /\ i64.wrap (ia0 - 1) < (↑n4 : Int) /\ n4 <= n4)) (.ob (decide ((i64.wrap (ia0 - 1)).toNat < n4)) (.br (jv0 (fa1 ia0.toNat) == jv0 (fa1 (i64.wrap (ia0 - 1)).toNat) && (jv1 (fa1 ia0.toNat) == jv1 (fa1 (i64.wrap (ia0 - 1)).toNat) && true)) (.ob (decide (0 <= ia0 /\ ia0 <= (↑n4 : Int))) (.enter (iR 0 3 []) (S63.L4 (1) (ia0.toNat) (n4 - ia0.toNat) (ia0) (jv0 (fa1 (i64.wrap (ia0 - 1)).toNat)) (jv1 (fa1 (i64.wrap (ia0 - 1)).toNat)) ((i64.wrap (ia0 - 1)).toNat) (i64.wrap (ia0 - 1)) (jv0 (fa1 ia0.toNat)) (jv1 (fa1 ia0.toNat)) (ia0) (elV tp2 fa1)) [⟨2, tp2, n4, elV tp2 fa1, vf_view rfl _ _⟩])) (.next (iR 0 3 []) (S63.L0 (i64.wrap (ia0 + 1)) (elV tp2 fa1)) [⟨2, tp2, n4, elV tp2 fa1, vf_view rfl _ _⟩])))))) (.asm (true = true -> n4 <= 9223372036854775807) (.br (decide ((↑n4 : Int) < (↑n4 : Int))) (.ret (vi 2)) (.obi (.obi (.asm ((x3 == 3) = true -> n4 <= 9223372036854775807) (.obi (.obi (.br (bif x3 == 3 then decide (2 < (↑n4 : Int)) else false) (.ret (vi 2)) (.ret (vi 0))))))))))
 | .L1 ib0 fb1 => .br (decide (ib0 < (↑n4 : Int))) (.ob (decide (0 <= ib0 /\ ib0 < (↑n4 : Int) /\ n4 <= n4)) (.ob (decide (ib0.toNat < n4)) (.ob (decide (0 <= i64.wrap (ib0 - 1) /\ i64.wrap (ib0 - 1) < (↑n4 : Int) /\ n4 <= n4)) (.ob (decide ((i64.wrap (ib0 - 1)).toNat < n4)) (.br (jv0 (fb1 ib0.toNat) == jv0 (fb1 (i64.wrap (ib0 - 1)).toNat) && (jv1 (fb1 ib0.toNat) == jv1 (fb1 (i64.wrap (ib0 - 1)).toNat) && true)) (.ob (decide (0 <= ib0 /\ ib0 <= (↑n4 : Int))) (.enter (iR 0 3 []) (S63.L5 (1) (ib0.toNat) (n4 - ib0.toNat) (ib0) (jv0 (fb1 (i64.wrap (ib0 - 1)).toNat)) (jv1 (fb1 (i64.wrap (ib0 - 1)).toNat)) ((i64.wrap (ib0 - 1)).toNat) (i64.wrap (ib0 - 1)) (jv0 (fb1 ib0.toNat)) (jv1 (fb1 ib0.toNat)) (ib0) (elV tp2 fb1)) [⟨2, tp2, n4, elV tp2 fb1, vf_view rfl _ _⟩])) (.next (iR 0 3 []) (S63.L1 (i64.wrap (ib0 + 1)) (elV tp2 fb1)) [⟨2, tp2, n4, elV tp2 fb1, vf_view rfl _ _⟩])))))) (.br (decide ((↑n4 : Int) < (↑n4 : Int))) (.ret (vi 2)) (.obi (.obi (.asm ((x3 == 3) = true -> n4 <= 9223372036854775807) (.obi (.obi (.br (bif x3 == 3 then decide (2 < (↑n4 : Int)) else false) (.ret (vi 2)) (.ret (vi 0)))))))))
 | .L2 ic0 fc1 => .br (decide (ic0 < (↑n4 : Int))) (.ob (decide (0 <= ic0 /\ ic0 < (↑n4 : Int) /\ n4 <= n4)) (.ob (decide (ic0.toNat < n4)) (.ob (decide (0 <= i64.wrap (ic0 - 1) /\ i64.wrap (ic0 - 1) < (↑n4 : Int) /\ n4 <= n4)) (.ob (decide ((i64.wrap (ic0 - 1)).toNat < n4)) (.br (jv0 (fc1 ic0.toNat) == jv0 (fc1 (i64.wrap (ic0 - 1)).toNat) && (jv1 (fc1 ic0.toNat) == jv1 (fc1 (i64.wrap (ic0 - 1)).toNat) && true)) (.ob (decide (0 <= ic0 /\ ic0 <= (↑n4 : Int))) (.enter (iR 0 3 []) (S63.L6 (1) (ic0.toNat) (n4 - ic0.toNat) (ic0) (jv0 (fc1 (i64.wrap (ic0 - 1)).toNat)) (jv1 (fc1 (i64.wrap (ic0 - 1)).toNat)) ((i64.wrap (ic0 - 1)).toNat) (i64.wrap (ic0 - 1)) (jv0 (fc1 ic0.toNat)) (jv1 (fc1 ic0.toNat)) (ic0) (elV tp2 fc1)) [⟨2, tp2, n4, elV tp2 fc1, vf_view rfl _ _⟩])) (.next (iR 0 3 []) (S63.L2 (i64.wrap (ic0 + 1)) (elV tp2 fc1)) [⟨2, tp2, n4, elV tp2 fc1, vf_view rfl _ _⟩])))))) (.br (decide ((↑n4 : Int) < (↑n4 : Int))) (.ret (vi 2)) (.obi (.obi (.asm ((x3 == 3) = true -> n4 <= 9223372036854775807) (.obi (.obi (.br (bif x3 == 3 then decide (2 < (↑n4 : Int)) else false) (.ret (vi 2)) (.ret (vi 0)))))))))
 | .L3 id0 fd1 => .br (decide (id0 < (↑n4 : Int))) (.ob (decide (0 <= id0 /\ id0 < (↑n4 : Int) /\ n4 <= n4)) (.ob (decide (id0.toNat < n4)) (.ob (decide (0 <= i64.wrap (id0 - 1) /\ i64.wrap (id0 - 1) < (↑n4 : Int) /\ n4 <= n4)) (.ob (decide ((i64.wrap (id0 - 1)).toNat < n4)) (.br (jv0 (fd1 id0.toNat) == jv0 (fd1 (i64.wrap (id0 - 1)).toNat) && (jv1 (fd1 id0.toNat) == jv1 (fd1 (i64.wrap (id0 - 1)).toNat) && true)) (.ob (decide (0 <= id0 /\ id0 <= (↑n4 : Int))) (.enter (iR 0 3 []) (S63.L7 (1) (id0.toNat) (n4 - id0.toNat) (id0) (jv0 (fd1 (i64.wrap (id0 - 1)).toNat)) (jv1 (fd1 (i64.wrap (id0 - 1)).toNat)) ((i64.wrap (id0 - 1)).toNat) (i64.wrap (id0 - 1)) (jv0 (fd1 id0.toNat)) (jv1 (fd1 id0.toNat)) (id0) (elV tp2 fd1)) [⟨2, tp2, n4, elV tp2 fd1, vf_view rfl _ _⟩])) (.next (iR 0 3 []) (S63.L3 (i64.wrap (id0 + 1)) (elV tp2 fd1)) [⟨2, tp2, n4, elV tp2 fd1, vf_view rfl _ _⟩])))))) (.br (decide ((↑n4 : Int) < (↑n4 : Int))) (.ret (vi 2)) (.obi (.obi (.asm ((x3 == 3) = true -> n4 <= 9223372036854775807) (.obi (.obi (.br (bif x3 == 3 then decide (2 < (↑n4 : Int)) else false) (.ret (vi 2)) (.ret (vi 0)))))))))
 | .L4 ie0 ne1 ne2 ie3 ie4 ie5 ne6 ie7 ie8 ie9 ie10 fe11 => .br (decide (ie0 < (↑ne2 : Int))) (.ob (decide (0 <= ie0 /\ ie0 < (↑ne2 : Int) /\ ne1 + ne2 <= n4)) (.ob (decide (ne1 + ie0.toNat < n4)) (.ob (decide (0 <= i64.wrap (ie0 - 1) /\ i64.wrap (ie0 - 1) < (↑ne2 : Int) /\ ne1 + ne2 <= n4)) (.ob (decide (ne1 + (i64.wrap (ie0 - 1)).toNat < n4)) (.br (!(jv0 (fe11 (ne1 + ie0.toNat)) == jv0 (fe11 (ne1 + (i64.wrap (ie0 - 1)).toNat)) && (jv1 (fe11 (ne1 + ie0.toNat)) == jv1 (fe11 (ne1 + (i64.wrap (ie0 - 1)).toNat)) && true))) (.ob (decide (0 <= ie0 /\ ie0 < (↑ne2 : Int) /\ ne1 + ne2 <= n4)) (.ob (decide (ne1 + ie0.toNat < n4)) (.ob (decide (0 <= ie10 /\ ie10 < (↑n4 : Int) /\ n4 <= n4)) (.ob (decide (ie10.toNat < n4)) (.next (iR 0 3 []) (S63.L4 (i64.wrap (ie0 + 1)) (ne1) (ne2) (ie3) (ie4) (ie5) (ne6) (ie7) (ie8) (ie9) (i64.wrap (ie10 + 1)) (fun i' => bif i'.beq ie10.toNat then [vi (jv0 (fe11 (ne1 + ie0.toNat))), vi (jv1 (fe11 (ne1 + ie0.toNat)))] else elV tp2 fe11 i')) [⟨2, tp2, n4, fun i' => bif i'.beq ie10.toNat then [vi (jv0 (fe11 (ne1 + ie0.toNat))), vi (jv1 (fe11 (ne1 + ie0.toNat)))] else elV tp2 fe11 i', vf_set rfl (vf_view rfl _ _) rfl⟩]))))) (.next (iR 0 3 []) (S63.L4 (i64.wrap (ie0 + 1)) (ne1) (ne2) (ie3) (ie4) (ie5) (ne6) (ie7) (ie8) (ie9) (ie10) (elV tp2 fe11)) [⟨2, tp2, n4, elV tp2 fe11, vf_view rfl _ _⟩])))))) (.ob (decide (0 <= ie10 /\ ie10 <= (↑n4 : Int))) (.ob (decide (0 < n4 - ie10.toNat /\ ie10.toNat + (n4 - ie10.toNat) <= n4)) (.ob (decide (0 <= ie10 /\ ie10 <= (↑n4 : Int))) (.asm (true = true -> n4 <= 9223372036854775807) (.br (decide ((↑ie10.toNat : Int) < (↑n4 : Int))) (.ret (vi 2)) (.obi (.obi (.asm ((x3 == 3) = true -> n4 <= 9223372036854775807) (.obi (.obi (.br (bif x3 == 3 then decide (2 < (↑n4 : Int)) else false) (.ret (vi 2)) (.ret (vi 0)))))))))))))
 | .L5 if0 nf1 nf2 if3 if4 if5 nf6 if7 if8 if9 if10 ff11 => .br (decide (if0 < (↑nf2 : Int))) (.ob (decide (0 <= if0 /\ if0 < (↑nf2 : Int) /\ nf1 + nf2 <= n4)) (.ob (decide (nf1 + if0.toNat < n4)) (.ob (decide (0 <= i64.wrap (if0 - 1) /\ i64.wrap (if0 - 1) < (↑nf2 : Int) /\ nf1 + nf2 <= n4)) (.ob (decide (nf1 + (i64.wrap (if0 - 1)).toNat < n4)) (.br (!(jv0 (ff11 (nf1 + if0.toNat)) == jv0 (ff11 (nf1 + (i64.wrap (if0 - 1)).toNat)) && (jv1 (ff11 (nf1 + if0.toNat)) == jv1 (ff11 (nf1 + (i64.wrap (if0 - 1)).toNat)) && true))) (.ob (decide (0 <= if0 /\ if0 < (↑nf2 : Int) /\ nf1 + nf2 <= n4)) (.ob (decide (nf1 + if0.toNat < n4)) (.ob (decide (0 <= if10 /\ if10 < (↑n4 : Int) /\ n4 <= n4)) (.ob (decide (if10.toNat < n4)) (.next (iR 0 3 []) (S63.L5 (i64.wrap (if0 + 1)) (nf1) (nf2) (if3) (if4) (if5) (nf6) (if7) (if8) (if9) (i64.wrap (if10 + 1)) (fun i' => bif i'.beq if10.toNat then [vi (jv0 (ff11 (nf1 + if0.toNat))), vi (jv1 (ff11 (nf1 + if0.toNat)))] else elV tp2 ff11 i')) [⟨2, tp2, n4, fun i' => bif i'.beq if10.toNat then [vi (jv0 (ff11 (nf1 + if0.toNat))), vi (jv1 (ff11 (nf1 + if0.toNat)))] else elV tp2 ff11 i', vf_set rfl (vf_view rfl _ _) rfl⟩]))))) (.next (iR 0 3 []) (S63.L5 (i64.wrap (if0 + 1)) (nf1) (nf2) (if3) (if4) (if5) (nf6) (if7) (if8) (if9) (if10) (elV tp2 ff11)) [⟨2, tp2, n4, elV tp2 ff11, vf_view rfl _ _⟩])))))) (.ob (decide (0 <= if10 /\ if10 <= (↑n4 : Int))) (.ob (decide (0 < n4 - if10.toNat /\ if10.toNat + (n4 - if10.toNat) <= n4)) (.ob (decide (0 <= if10 /\ if10 <= (↑n4 : Int))) (.br (decide ((↑if10.toNat : Int) < (↑n4 : Int))) (.ret (vi 2)) (.obi (.obi (.asm ((x3 == 3) = true -> n4 <= 9223372036854775807) (.obi (.obi (.br (bif x3 == 3 then decide (2 < (↑n4 : Int)) else false) (.ret (vi 2)) (.ret (vi 0))))))))))))
 | .L6 ig0 ng1 ng2 ig3 ig4 ig5 ng6 ig7 ig8 ig9 ig10 fg11 => .br (decide (ig0 < (↑ng2 : Int))) (.ob (decide (0 <= ig0 /\ ig0 < (↑ng2 : Int) /\ ng1 + ng2 <= n4)) (.ob (decide (ng1 + ig0.toNat < n4)) (.ob (decide (0 <= i64.wrap (ig0 - 1) /\ i64.wrap (ig0 - 1) < (↑ng2 : Int) /\ ng1 + ng2 <= n4)) (.ob (decide (ng1 + (i64.wrap (ig0 - 1)).toNat < n4)) (.br (!(jv0 (fg11 (ng1 + ig0.toNat)) == jv0 (fg11 (ng1 + (i64.wrap (ig0 - 1)).toNat)) && (jv1 (fg11 (ng1 + ig0.toNat)) == jv1 (fg11 (ng1 + (i64.wrap (ig0 - 1)).toNat)) && true))) (.ob (decide (0 <= ig0 /\ ig0 < (↑ng2 : Int) /\ ng1 + ng2 <= n4)) (.ob (decide (ng1 + ig0.toNat < n4)) (.ob (decide (0 <= ig10 /\ ig10 < (↑n4 : Int) /\ n4 <= n4)) (.ob (decide (ig10.toNat < n4)) (.next (iR 0 3 []) (S63.L6 (i64.wrap (ig0 + 1)) (ng1) (ng2) (ig3) (ig4) (ig5) (ng6) (ig7) (ig8) (ig9) (i64.wrap (ig10 + 1)) (fun i' => bif i'.beq ig10.toNat then [vi (jv0 (fg11 (ng1 + ig0.toNat))), vi (jv1 (fg11 (ng1 + ig0.toNat)))] else elV tp2 fg11 i')) [⟨2, tp2, n4, fun i' => bif i'.beq ig10.toNat then [vi (jv0 (fg11 (ng1 + ig0.toNat))), vi (jv1 (fg11 (ng1 + ig0.toNat)))] else elV tp2 fg11 i', vf_set rfl (vf_view rfl _ _) rfl⟩]))))) (.next (iR 0 3 []) (S63.L6 (i64.wrap (ig0 + 1)) (ng1) (ng2) (ig3) (ig4) (ig5) (ng6) (ig7) (ig8) (ig9) (ig10) (elV tp2 fg11)) [⟨2, tp2, n4, elV tp2 fg11, vf_view rfl _ _⟩])))))) (.ob (decide (0 <= ig10 /\ ig10 <= (↑n4 : Int))) (.ob (decide (0 < n4 - ig10.toNat /\ ig10.toNat + (n4 - ig10.toNat) <= n4)) (.ob (decide (0 <= ig10 /\ ig10 <= (↑n4 : Int))) (.br (decide ((↑ig10.toNat : Int) < (↑n4 : Int))) (.ret (vi 2)) (.obi (.obi (.asm ((x3 == 3) = true -> n4 <= 9223372036854775807) (.obi (.obi (.br (bif x3 == 3 then decide (2 < (↑n4 : Int)) else false) (.ret (vi 2)) (.ret (vi 0))))))))))))
 | .L7 ih0 nh1 nh2 ih3 ih4 ih5 nh6 ih7 ih8 ih9 ih10 fh11 => .br (decide (ih0 < (↑nh2 : Int))) (.ob (decide (0 <= ih0 /\ ih0 < (↑nh2 : Int) /\ nh1 + nh2 <= n4)) (.ob (decide (nh1 + ih0.toNat < n4)) (.ob (decide (0 <= i64.wrap (ih0 - 1) /\ i64.wrap (ih0 - 1) < (↑nh2 : Int) /\ nh1 + nh2 <= n4)) (.ob (decide (nh1 + (i64.wrap (ih0 - 1)).toNat < n4)) (.br (!(jv0 (fh11 (nh1 + ih0.toNat)) == jv0 (fh11 (nh1 + (i64.wrap (ih0 - 1)).toNat)) && (jv1 (fh11 (nh1 + ih0.toNat)) == jv1 (fh11 (nh1 + (i64.wrap (ih0 - 1)).toNat)) && true))) (.ob (decide (0 <= ih0 /\ ih0 < (↑nh2 : Int) /\ nh1 + nh2 <= n4)) (.ob (decide (nh1 + ih0.toNat < n4)) (.ob (decide (0 <= ih10 /\ ih10 < (↑n4 : Int) /\ n4 <= n4)) (.ob (decide (ih10.toNat < n4)) (.next (iR 0 3 []) (S63.L7 (i64.wrap (ih0 + 1)) (nh1) (nh2) (ih3) (ih4) (ih5) (nh6) (ih7) (ih8) (ih9) (i64.wrap (ih10 + 1)) (fun i' => bif i'.beq ih10.toNat then [vi (jv0 (fh11 (nh1 + ih0.toNat))), vi (jv1 (fh11 (nh1 + ih0.toNat)))] else elV tp2 fh11 i')) [⟨2, tp2, n4, fun i' => bif i'.beq ih10.toNat then [vi (jv0 (fh11 (nh1 + ih0.toNat))), vi (jv1 (fh11 (nh1 + ih0.toNat)))] else elV tp2 fh11 i', vf_set rfl (vf_view rfl _ _) rfl⟩]))))) (.next (iR 0 3 []) (S63.L7 (i64.wrap (ih0 + 1)) (nh1) (nh2) (ih3) (ih4) (ih5) (nh6) (ih7) (ih8) (ih9) (ih10) (elV tp2 fh11)) [⟨2, tp2, n4, elV tp2 fh11, vf_view rfl _ _⟩])))))) (.ob (decide (0 <= ih10 /\ ih10 <= (↑n4 : Int))) (.ob (decide (0 < n4 - ih10.toNat /\ ih10.toNat + (n4 - ih10.toNat) <= n4)) (.ob (decide (0 <= ih10 /\ ih10 <= (↑n4 : Int))) (.br (decide ((↑ih10.toNat : Int) < (↑n4 : Int))) (.ret (vi 2)) (.obi (.obi (.asm ((x3 == 3) = true -> n4 <= 9223372036854775807) (.obi (.obi (.br (bif x3 == 3 then decide (2 < (↑n4 : Int)) else false) (.ret (vi 2)) (.ret (vi 0))))))))))))
def m63 (n0 : Nat) (f0 : FnV) (s2 : ByteArray) (x3 : Int) (n4 : Nat) (f4 : FnV) (x6 : Int) : RT S63 := .obp (s2.size <= (9223372036854775807 : Nat)) (.obt (.br (!F114_0 s2) (.ret (vi 6)) (.obc (.obt (.br (F90_0 n0 (elV tyR f0) s2) (.ret (vi 5)) (.obc (.obt (.br (F86_0 x3 0 3) (.ret (vi 2)) (.asm (true = true -> n4 <= 9223372036854775807) (.br (decide ((↑n4 : Int) < 2)) (.ret (vi 4)) (.asm (true = true -> n4 <= 9223372036854775807) (.br (decide (8 < (↑n4 : Int))) (.ret (vi 3)) (.obc (.obt (.obi (.br (!F115_0 n4 (elV tp2 f4)) (.ob (!F115_0 n4 (elV tp2 f4)) (.obc (.obt (.br (F86_0 x6 100 30000) (.ret (vi 7)) (.und (.und (.und (.asm (n4 = 0) (.und (.brt (.asm (true = true -> n4 <= 9223372036854775807) (.br (decide (0 < (↑n4 : Int))) (.ret (vi 2)) (.obi (.obi (.asm ((x3 == 3) = true -> n4 <= 9223372036854775807) (.obi (.obi (.br (bif x3 == 3 then decide (2 < (↑n4 : Int)) else false) (.ret (vi 2)) (.ret (vi 0))))))))))) (.asm (true = true -> n4 <= 9223372036854775807) (.brt (.br (decide (0 < (↑n4 : Int))) (.ret (vi 2)) (.obi (.obi (.asm ((x3 == 3) = true -> n4 <= 9223372036854775807) (.obi (.obi (.br (bif x3 == 3 then decide (2 < (↑n4 : Int)) else false) (.ret (vi 2)) (.ret (vi 0))))))))))))) (.obv (allB n4 fun i => okE 2 (elV tp2 f4 i)) (allB_el rfl _ _) (.ob (decide (n4 * 16 <= 140737488355328) && !Nat.beq 16 0) (.und (.br (decide ((↑n4 : Int) < 2)) (.asm (true = true -> n4 <= 9223372036854775807) (.br (decide ((↑n4 : Int) < (↑n4 : Int))) (.ret (vi 2)) (.obi (.obi (.asm ((x3 == 3) = true -> n4 <= 9223372036854775807) (.obi (.obi (.br (bif x3 == 3 then decide (2 < (↑n4 : Int)) else false) (.ret (vi 2)) (.ret (vi 0)))))))))) (.enter (iR 0 3 []) (S63.L0 (1) (elV tp2 f4)) [⟨2, tp2, n4, elV tp2 f4, vf_view rfl _ _⟩])) (.asm (true = true -> n4 <= 9223372036854775807) (.br (decide ((↑n4 : Int) < 2)) (.br (decide ((↑n4 : Int) < (↑n4 : Int))) (.ret (vi 2)) (.obi (.obi (.asm ((x3 == 3) = true -> n4 <= 9223372036854775807) (.obi (.obi (.br (bif x3 == 3 then decide (2 < (↑n4 : Int)) else false) (.ret (vi 2)) (.ret (vi 0))))))))) (.enter (iR 0 3 []) (S63.L1 (1) (elV tp2 f4)) [⟨2, tp2, n4, elV tp2 f4, vf_view rfl _ _⟩]))))))) (.asm (true = true -> n4 <= 9223372036854775807) (.und (.asm (n4 = 0) (.brt (.br (decide (0 < (↑n4 : Int))) (.ret (vi 2)) (.obi (.obi (.asm ((x3 == 3) = true -> n4 <= 9223372036854775807) (.obi (.obi (.br (bif x3 == 3 then decide (2 < (↑n4 : Int)) else false) (.ret (vi 2)) (.ret (vi 0))))))))))) (.obv (allB n4 fun i => okE 2 (elV tp2 f4 i)) (allB_el rfl _ _) (.ob (decide (n4 * 16 <= 140737488355328) && !Nat.beq 16 0) (.br (decide ((↑n4 : Int) < 2)) (.br (decide ((↑n4 : Int) < (↑n4 : Int))) (.ret (vi 2)) (.obi (.obi (.asm ((x3 == 3) = true -> n4 <= 9223372036854775807) (.obi (.obi (.br (bif x3 == 3 then decide (2 < (↑n4 : Int)) else false) (.ret (vi 2)) (.ret (vi 0))))))))) (.enter (iR 0 3 []) (S63.L2 (1) (elV tp2 f4)) [⟨2, tp2, n4, elV tp2 f4, vf_view rfl _ _⟩]))))))) (.asm (true = true -> n4 <= 9223372036854775807) (.und (.asm (n4 = 0) (.brt (.br (decide (0 < (↑n4 : Int))) (.ret (vi 2)) (.obi (.obi (.asm ((x3 == 3) = true -> n4 <= 9223372036854775807) (.obi (.obi (.br (bif x3 == 3 then decide (2 < (↑n4 : Int)) else false) (.ret (vi 2)) (.ret (vi 0))))))))))) (.obv (allB n4 fun i => okE 2 (elV tp2 f4 i)) (allB_el rfl _ _) (.ob (decide (n4 * 16 <= 140737488355328) && !Nat.beq 16 0) (.br (decide ((↑n4 : Int) < 2)) (.br (decide ((↑n4 : Int) < (↑n4 : Int))) (.ret (vi 2)) (.obi (.obi (.asm ((x3 == 3) = true -> n4 <= 9223372036854775807) (.obi (.obi (.br (bif x3 == 3 then decide (2 < (↑n4 : Int)) else false) (.ret (vi 2)) (.ret (vi 0))))))))) (.enter (iR 0 3 []) (S63.L3 (1) (elV tp2 f4)) [⟨2, tp2, n4, elV tp2 f4, vf_view rfl _ _⟩]))))))))))) (.ret (vi 7))))))))))))))))))
theorem run63 (n0 : Nat) (f0 : FnV) (s2 : ByteArray) (x3 : Int) (n4 : Nat) (f4 : FnV) (x6 : Int) : Fits ctB10 u0 (D63 n0 f0 s2 x3 n4 f4 x6) (rl63 n0 f0 s2 x3 n4 f4 x6) (m63 n0 f0 s2 x3 n4 f4 x6) (st63 n0 f0 s2 x3 n4 f4 x6) := ⟨⟨by kernel_rfl, by kernel_rfl⟩, fun s => by cases s <;> exact ⟨by kernel_rfl, by kernel_rfl⟩⟩
def eqP (f : Nat -> List V) (i j : Nat) : Bool := jv0 (f i) == jv0 (f j) && (jv1 (f i) == jv1 (f j) && true)
def adjP (n : Nat) (f : Nat -> List V) : Bool := exB n fun i => decide (0 < i) && eqP f i (i - 1)
def tail63 (x3 : Int) (n4 : Nat) : Int := bif bif x3 == 3 then decide (2 < (n4 : Int)) else false then 2 else 0
def F63 (n0 : Nat) (f0 : FnV) (s2 : ByteArray) (x3 : Int) (n4 : Nat) (f4 : FnV) (x6 : Int) : Int := bif !F114_0 s2 then 6 else bif F90_0 n0 f0 s2 then 5 else bif F86_0 x3 0 3 then 2 else bif decide ((n4 : Int) < 2) then 4 else bif decide (8 < (n4 : Int)) then 3 else bif !!F115_0 n4 f4 then 7 else bif F86_0 x6 100 30000 then 7 else bif adjP n4 f4 then 2 else tail63 x3 n4
theorem tail63_ev {S : Type} {Nx : S -> V -> Prop} {x3 : Int} {n4 : Nat} {q : Prop} : evR Nx (.obi (.obi (.asm q (.obi (.obi (.br (bif x3 == 3 then decide (2 < (n4 : Int)) else false) (.ret (.int .i64 2)) (.ret (.int .i64 0)))))))) (.int .i64 (tail63 x3 n4)) := by
 refine evObi (evObi (evAsm fun _ => evObi (evObi (evBr (fun h => evRet ?_) (fun h => evRet ?_))))) <;> (unfold tail63; rw [h]; rfl)
theorem c63_4 (n0 : Nat) (f0 : FnV) (s2 : ByteArray) (x3 : Int) (n4 : Nat) (f4 : FnV) (x6 : Int) (h8 : n4 <= 8) (k0 : Nat) (hk : 1 <= k0) (hk' : k0 < n4) (t1 t2 t3 : Int) (t4 : Nat) (t5 t6 t7 : Int) : ∀ k2 : Nat, k2 <= n4 - k0 -> 1 <= k2 -> ∀ (k : Nat) (f : Nat -> List V), k + 1 <= k0 + k2 -> Ev (st63 n0 f0 s2 x3 n4 f4 x6) (.L4 k2 k0 (n4 - k0) t1 t2 t3 t4 t5 t6 t7 k f) (.int .i64 2) := by
 refine up_ind fun k2 hk2 ih h1 k f hkk => Ev.of rfl ?_
 have w1 : i64.wrap ((k2 : Int) - 1) = ((k2 - 1 : Nat) : Int) := by rw [wrapI (by omega) (by omega)]; omega
 have w2 : i64.wrap ((k2 : Int) + 1) = ((k2 + 1 : Nat) : Int) := by rw [wrapI (by omega) (by omega)]; omega
 have w3 : i64.wrap ((k : Int) + 1) = ((k + 1 : Nat) : Int) := by rw [wrapI (by omega) (by omega)]; omega
 refine evBr (fun h => ?_) (fun h => ?_)
 ·have hlt : k2 < n4 - k0 := by have := of_decide_eq_true h; omega
  refine evOb (dqt (by omega)) (evOb (dqt (by omega)) (evOb (dqt (by rw [w1]; omega)) (evOb (dqt (by rw [w1]; omega)) (evBr (fun _ => ?_) (fun _ => ?_)))))
  ·refine evOb (dqt (by omega)) (evOb (dqt (by omega)) (evOb (dqt (by omega)) (evOb (dqt (by omega)) (evNext ?_))))
   rw [w2, w3]
   exact ih hlt (by omega) (k + 1) _ (by omega)
  ·refine evNext ?_
   rw [w2]
   exact ih hlt (by omega) k _ (by omega)
 ·have hge : ¬ k2 < n4 - k0 := by have := of_decide_eq_false h; omega
  refine evOb (dqt (by omega)) (evOb (dqt (by omega)) (evOb (dqt (by omega)) ?_))
  try refine evAsm fun _ => ?_
  exact evBrT (dqt (by omega)) (evRet rfl)
theorem c63_0 (n0 : Nat) (f0 : FnV) (s2 : ByteArray) (x3 : Int) (n4 : Nat) (f4 : FnV) (x6 : Int) (h8 : n4 <= 8) (h2 : 2 <= n4) : ∀ i : Nat, i <= n4 -> 1 <= i -> (∀ j, j < i -> (decide (0 < j) && eqP f4 j (j - 1)) = false) -> ∀ f : Nat -> List V, (∀ i j, eqP f i j = eqP f4 i j) -> Ev (st63 n0 f0 s2 x3 n4 f4 x6) (.L0 i f) (.int .i64 (bif adjP n4 f4 then 2 else tail63 x3 n4)) := by
 refine up_ind fun i hi ih h1 hj f hf => Ev.of rfl ?_
 have w1 : i64.wrap ((i : Int) - 1) = ((i - 1 : Nat) : Int) := by rw [wrapI (by omega) (by omega)]; omega
 have w2 : i64.wrap ((i : Int) + 1) = ((i + 1 : Nat) : Int) := by rw [wrapI (by omega) (by omega)]; omega
 refine evBr (fun h => ?_) (fun h => ?_)
 ·have hlt : i < n4 := by have := of_decide_eq_true h; omega
  refine evOb (dqt (by omega)) (evOb (dqt (by omega)) (evOb (dqt (by rw [w1]; omega)) (evOb (dqt (by rw [w1]; omega)) (evBr (fun hb => ?_) (fun hb => ?_)))))
  ·have hb' : eqP f4 i (i - 1) = true := by
    rw [← hf]; rw [w1] at hb; simpa only [Int.toNat_natCast, eqP] using hb
   rw [show adjP n4 f4 = true from exB_true i hlt (by rw [hb']; simp; omega), cond_true]
   refine evOb (dqt (by omega)) (evEnter ?_)
   have := c63_4 n0 f0 s2 x3 n4 f4 x6 h8 i h1 hlt
   simp only [Int.toNat_natCast]
   exact this _ _ _ _ _ _ _ 1 (by omega) (by omega) i _ (by omega)
  ·have hb' : eqP f4 i (i - 1) = false := by
    rw [← hf]; rw [w1] at hb; simpa only [Int.toNat_natCast, eqP] using hb
   refine evNext ?_
   rw [w2]
   refine ih hlt (by omega) (fun j h3 => ?_) _ (fun a b => hf a b)
   by_cases e : j = i
   ·subst e; rw [hb', Bool.and_false]
   ·exact hj j (by omega)
 ·have : i = n4 := by have := of_decide_eq_false h; omega
  subst this
  rw [show adjP i f4 = false from exB_false hj, cond_false]
  try refine evAsm fun _ => ?_
  exact evBrGe tail63_ev
theorem c63_0' (n0 : Nat) (f0 : FnV) (s2 : ByteArray) (x3 : Int) (n4 : Nat) (f4 : FnV) (x6 : Int) (h8 : n4 <= 8) (h2 : 2 <= n4) (f : Nat -> List V) (hf : ∀ i j, eqP f i j = eqP f4 i j) : Ev (st63 n0 f0 s2 x3 n4 f4 x6) (.L0 1 f) (.int .i64 (bif adjP n4 f4 then 2 else tail63 x3 n4)) := c63_0 n0 f0 s2 x3 n4 f4 x6 h8 h2 1 (by omega) (Nat.le_refl _) (fun j hj => by
 have : j = 0 := by omega
 subst this; rfl) f hf
theorem c63_5 (n0 : Nat) (f0 : FnV) (s2 : ByteArray) (x3 : Int) (n4 : Nat) (f4 : FnV) (x6 : Int) (h8 : n4 <= 8) (k0 : Nat) (hk : 1 <= k0) (hk' : k0 < n4) (t1 t2 t3 : Int) (t4 : Nat) (t5 t6 t7 : Int) : ∀ k2 : Nat, k2 <= n4 - k0 -> 1 <= k2 -> ∀ (k : Nat) (f : Nat -> List V), k + 1 <= k0 + k2 -> Ev (st63 n0 f0 s2 x3 n4 f4 x6) (.L5 k2 k0 (n4 - k0) t1 t2 t3 t4 t5 t6 t7 k f) (.int .i64 2) := by
 refine up_ind fun k2 hk2 ih h1 k f hkk => Ev.of rfl ?_
 have w1 : i64.wrap ((k2 : Int) - 1) = ((k2 - 1 : Nat) : Int) := by rw [wrapI (by omega) (by omega)]; omega
 have w2 : i64.wrap ((k2 : Int) + 1) = ((k2 + 1 : Nat) : Int) := by rw [wrapI (by omega) (by omega)]; omega
 have w3 : i64.wrap ((k : Int) + 1) = ((k + 1 : Nat) : Int) := by rw [wrapI (by omega) (by omega)]; omega
 refine evBr (fun h => ?_) (fun h => ?_)
 ·have hlt : k2 < n4 - k0 := by have := of_decide_eq_true h; omega
  refine evOb (dqt (by omega)) (evOb (dqt (by omega)) (evOb (dqt (by rw [w1]; omega)) (evOb (dqt (by rw [w1]; omega)) (evBr (fun _ => ?_) (fun _ => ?_)))))
  ·refine evOb (dqt (by omega)) (evOb (dqt (by omega)) (evOb (dqt (by omega)) (evOb (dqt (by omega)) (evNext ?_))))
   rw [w2, w3]
   exact ih hlt (by omega) (k + 1) _ (by omega)
  ·refine evNext ?_
   rw [w2]
   exact ih hlt (by omega) k _ (by omega)
 ·have hge : ¬ k2 < n4 - k0 := by have := of_decide_eq_false h; omega
  refine evOb (dqt (by omega)) (evOb (dqt (by omega)) (evOb (dqt (by omega)) ?_))
  try refine evAsm fun _ => ?_
  exact evBrT (dqt (by omega)) (evRet rfl)
theorem c63_1 (n0 : Nat) (f0 : FnV) (s2 : ByteArray) (x3 : Int) (n4 : Nat) (f4 : FnV) (x6 : Int) (h8 : n4 <= 8) (h2 : 2 <= n4) : ∀ i : Nat, i <= n4 -> 1 <= i -> (∀ j, j < i -> (decide (0 < j) && eqP f4 j (j - 1)) = false) -> ∀ f : Nat -> List V, (∀ i j, eqP f i j = eqP f4 i j) -> Ev (st63 n0 f0 s2 x3 n4 f4 x6) (.L1 i f) (.int .i64 (bif adjP n4 f4 then 2 else tail63 x3 n4)) := by
 refine up_ind fun i hi ih h1 hj f hf => Ev.of rfl ?_
 have w1 : i64.wrap ((i : Int) - 1) = ((i - 1 : Nat) : Int) := by rw [wrapI (by omega) (by omega)]; omega
 have w2 : i64.wrap ((i : Int) + 1) = ((i + 1 : Nat) : Int) := by rw [wrapI (by omega) (by omega)]; omega
 refine evBr (fun h => ?_) (fun h => ?_)
 ·have hlt : i < n4 := by have := of_decide_eq_true h; omega
  refine evOb (dqt (by omega)) (evOb (dqt (by omega)) (evOb (dqt (by rw [w1]; omega)) (evOb (dqt (by rw [w1]; omega)) (evBr (fun hb => ?_) (fun hb => ?_)))))
  ·have hb' : eqP f4 i (i - 1) = true := by
    rw [← hf]; rw [w1] at hb; simpa only [Int.toNat_natCast, eqP] using hb
   rw [show adjP n4 f4 = true from exB_true i hlt (by rw [hb']; simp; omega), cond_true]
   refine evOb (dqt (by omega)) (evEnter ?_)
   have := c63_5 n0 f0 s2 x3 n4 f4 x6 h8 i h1 hlt
   simp only [Int.toNat_natCast]
   exact this _ _ _ _ _ _ _ 1 (by omega) (by omega) i _ (by omega)
  ·have hb' : eqP f4 i (i - 1) = false := by
    rw [← hf]; rw [w1] at hb; simpa only [Int.toNat_natCast, eqP] using hb
   refine evNext ?_
   rw [w2]
   refine ih hlt (by omega) (fun j h3 => ?_) _ (fun a b => hf a b)
   by_cases e : j = i
   ·subst e; rw [hb', Bool.and_false]
   ·exact hj j (by omega)
 ·have : i = n4 := by have := of_decide_eq_false h; omega
  subst this
  rw [show adjP i f4 = false from exB_false hj, cond_false]
  try refine evAsm fun _ => ?_
  exact evBrGe tail63_ev
theorem c63_1' (n0 : Nat) (f0 : FnV) (s2 : ByteArray) (x3 : Int) (n4 : Nat) (f4 : FnV) (x6 : Int) (h8 : n4 <= 8) (h2 : 2 <= n4) (f : Nat -> List V) (hf : ∀ i j, eqP f i j = eqP f4 i j) : Ev (st63 n0 f0 s2 x3 n4 f4 x6) (.L1 1 f) (.int .i64 (bif adjP n4 f4 then 2 else tail63 x3 n4)) := c63_1 n0 f0 s2 x3 n4 f4 x6 h8 h2 1 (by omega) (Nat.le_refl _) (fun j hj => by
 have : j = 0 := by omega
 subst this; rfl) f hf
theorem c63_6 (n0 : Nat) (f0 : FnV) (s2 : ByteArray) (x3 : Int) (n4 : Nat) (f4 : FnV) (x6 : Int) (h8 : n4 <= 8) (k0 : Nat) (hk : 1 <= k0) (hk' : k0 < n4) (t1 t2 t3 : Int) (t4 : Nat) (t5 t6 t7 : Int) : ∀ k2 : Nat, k2 <= n4 - k0 -> 1 <= k2 -> ∀ (k : Nat) (f : Nat -> List V), k + 1 <= k0 + k2 -> Ev (st63 n0 f0 s2 x3 n4 f4 x6) (.L6 k2 k0 (n4 - k0) t1 t2 t3 t4 t5 t6 t7 k f) (.int .i64 2) := by
 refine up_ind fun k2 hk2 ih h1 k f hkk => Ev.of rfl ?_
 have w1 : i64.wrap ((k2 : Int) - 1) = ((k2 - 1 : Nat) : Int) := by rw [wrapI (by omega) (by omega)]; omega
 have w2 : i64.wrap ((k2 : Int) + 1) = ((k2 + 1 : Nat) : Int) := by rw [wrapI (by omega) (by omega)]; omega
 have w3 : i64.wrap ((k : Int) + 1) = ((k + 1 : Nat) : Int) := by rw [wrapI (by omega) (by omega)]; omega
 refine evBr (fun h => ?_) (fun h => ?_)
 ·have hlt : k2 < n4 - k0 := by have := of_decide_eq_true h; omega
  refine evOb (dqt (by omega)) (evOb (dqt (by omega)) (evOb (dqt (by rw [w1]; omega)) (evOb (dqt (by rw [w1]; omega)) (evBr (fun _ => ?_) (fun _ => ?_)))))
  ·refine evOb (dqt (by omega)) (evOb (dqt (by omega)) (evOb (dqt (by omega)) (evOb (dqt (by omega)) (evNext ?_))))
   rw [w2, w3]
   exact ih hlt (by omega) (k + 1) _ (by omega)
  ·refine evNext ?_
   rw [w2]
   exact ih hlt (by omega) k _ (by omega)
 ·have hge : ¬ k2 < n4 - k0 := by have := of_decide_eq_false h; omega
  refine evOb (dqt (by omega)) (evOb (dqt (by omega)) (evOb (dqt (by omega)) ?_))
  try refine evAsm fun _ => ?_
  exact evBrT (dqt (by omega)) (evRet rfl)
theorem c63_2 (n0 : Nat) (f0 : FnV) (s2 : ByteArray) (x3 : Int) (n4 : Nat) (f4 : FnV) (x6 : Int) (h8 : n4 <= 8) (h2 : 2 <= n4) : ∀ i : Nat, i <= n4 -> 1 <= i -> (∀ j, j < i -> (decide (0 < j) && eqP f4 j (j - 1)) = false) -> ∀ f : Nat -> List V, (∀ i j, eqP f i j = eqP f4 i j) -> Ev (st63 n0 f0 s2 x3 n4 f4 x6) (.L2 i f) (.int .i64 (bif adjP n4 f4 then 2 else tail63 x3 n4)) := by
 refine up_ind fun i hi ih h1 hj f hf => Ev.of rfl ?_
 have w1 : i64.wrap ((i : Int) - 1) = ((i - 1 : Nat) : Int) := by rw [wrapI (by omega) (by omega)]; omega
 have w2 : i64.wrap ((i : Int) + 1) = ((i + 1 : Nat) : Int) := by rw [wrapI (by omega) (by omega)]; omega
 refine evBr (fun h => ?_) (fun h => ?_)
 ·have hlt : i < n4 := by have := of_decide_eq_true h; omega
  refine evOb (dqt (by omega)) (evOb (dqt (by omega)) (evOb (dqt (by rw [w1]; omega)) (evOb (dqt (by rw [w1]; omega)) (evBr (fun hb => ?_) (fun hb => ?_)))))
  ·have hb' : eqP f4 i (i - 1) = true := by
    rw [← hf]; rw [w1] at hb; simpa only [Int.toNat_natCast, eqP] using hb
   rw [show adjP n4 f4 = true from exB_true i hlt (by rw [hb']; simp; omega), cond_true]
   refine evOb (dqt (by omega)) (evEnter ?_)
   have := c63_6 n0 f0 s2 x3 n4 f4 x6 h8 i h1 hlt
   simp only [Int.toNat_natCast]
   exact this _ _ _ _ _ _ _ 1 (by omega) (by omega) i _ (by omega)
  ·have hb' : eqP f4 i (i - 1) = false := by
    rw [← hf]; rw [w1] at hb; simpa only [Int.toNat_natCast, eqP] using hb
   refine evNext ?_
   rw [w2]
   refine ih hlt (by omega) (fun j h3 => ?_) _ (fun a b => hf a b)
   by_cases e : j = i
   ·subst e; rw [hb', Bool.and_false]
   ·exact hj j (by omega)
 ·have : i = n4 := by have := of_decide_eq_false h; omega
  subst this
  rw [show adjP i f4 = false from exB_false hj, cond_false]
  try refine evAsm fun _ => ?_
  exact evBrGe tail63_ev
theorem c63_2' (n0 : Nat) (f0 : FnV) (s2 : ByteArray) (x3 : Int) (n4 : Nat) (f4 : FnV) (x6 : Int) (h8 : n4 <= 8) (h2 : 2 <= n4) (f : Nat -> List V) (hf : ∀ i j, eqP f i j = eqP f4 i j) : Ev (st63 n0 f0 s2 x3 n4 f4 x6) (.L2 1 f) (.int .i64 (bif adjP n4 f4 then 2 else tail63 x3 n4)) := c63_2 n0 f0 s2 x3 n4 f4 x6 h8 h2 1 (by omega) (Nat.le_refl _) (fun j hj => by
 have : j = 0 := by omega
 subst this; rfl) f hf
theorem c63_7 (n0 : Nat) (f0 : FnV) (s2 : ByteArray) (x3 : Int) (n4 : Nat) (f4 : FnV) (x6 : Int) (h8 : n4 <= 8) (k0 : Nat) (hk : 1 <= k0) (hk' : k0 < n4) (t1 t2 t3 : Int) (t4 : Nat) (t5 t6 t7 : Int) : ∀ k2 : Nat, k2 <= n4 - k0 -> 1 <= k2 -> ∀ (k : Nat) (f : Nat -> List V), k + 1 <= k0 + k2 -> Ev (st63 n0 f0 s2 x3 n4 f4 x6) (.L7 k2 k0 (n4 - k0) t1 t2 t3 t4 t5 t6 t7 k f) (.int .i64 2) := by
 refine up_ind fun k2 hk2 ih h1 k f hkk => Ev.of rfl ?_
 have w1 : i64.wrap ((k2 : Int) - 1) = ((k2 - 1 : Nat) : Int) := by rw [wrapI (by omega) (by omega)]; omega
 have w2 : i64.wrap ((k2 : Int) + 1) = ((k2 + 1 : Nat) : Int) := by rw [wrapI (by omega) (by omega)]; omega
 have w3 : i64.wrap ((k : Int) + 1) = ((k + 1 : Nat) : Int) := by rw [wrapI (by omega) (by omega)]; omega
 refine evBr (fun h => ?_) (fun h => ?_)
 ·have hlt : k2 < n4 - k0 := by have := of_decide_eq_true h; omega
  refine evOb (dqt (by omega)) (evOb (dqt (by omega)) (evOb (dqt (by rw [w1]; omega)) (evOb (dqt (by rw [w1]; omega)) (evBr (fun _ => ?_) (fun _ => ?_)))))
  ·refine evOb (dqt (by omega)) (evOb (dqt (by omega)) (evOb (dqt (by omega)) (evOb (dqt (by omega)) (evNext ?_))))
   rw [w2, w3]
   exact ih hlt (by omega) (k + 1) _ (by omega)
  ·refine evNext ?_
   rw [w2]
   exact ih hlt (by omega) k _ (by omega)
 ·have hge : ¬ k2 < n4 - k0 := by have := of_decide_eq_false h; omega
  refine evOb (dqt (by omega)) (evOb (dqt (by omega)) (evOb (dqt (by omega)) ?_))
  try refine evAsm fun _ => ?_
  exact evBrT (dqt (by omega)) (evRet rfl)
theorem c63_3 (n0 : Nat) (f0 : FnV) (s2 : ByteArray) (x3 : Int) (n4 : Nat) (f4 : FnV) (x6 : Int) (h8 : n4 <= 8) (h2 : 2 <= n4) : ∀ i : Nat, i <= n4 -> 1 <= i -> (∀ j, j < i -> (decide (0 < j) && eqP f4 j (j - 1)) = false) -> ∀ f : Nat -> List V, (∀ i j, eqP f i j = eqP f4 i j) -> Ev (st63 n0 f0 s2 x3 n4 f4 x6) (.L3 i f) (.int .i64 (bif adjP n4 f4 then 2 else tail63 x3 n4)) := by
 refine up_ind fun i hi ih h1 hj f hf => Ev.of rfl ?_
 have w1 : i64.wrap ((i : Int) - 1) = ((i - 1 : Nat) : Int) := by rw [wrapI (by omega) (by omega)]; omega
 have w2 : i64.wrap ((i : Int) + 1) = ((i + 1 : Nat) : Int) := by rw [wrapI (by omega) (by omega)]; omega
 refine evBr (fun h => ?_) (fun h => ?_)
 ·have hlt : i < n4 := by have := of_decide_eq_true h; omega
  refine evOb (dqt (by omega)) (evOb (dqt (by omega)) (evOb (dqt (by rw [w1]; omega)) (evOb (dqt (by rw [w1]; omega)) (evBr (fun hb => ?_) (fun hb => ?_)))))
  ·have hb' : eqP f4 i (i - 1) = true := by
    rw [← hf]; rw [w1] at hb; simpa only [Int.toNat_natCast, eqP] using hb
   rw [show adjP n4 f4 = true from exB_true i hlt (by rw [hb']; simp; omega), cond_true]
   refine evOb (dqt (by omega)) (evEnter ?_)
   have := c63_7 n0 f0 s2 x3 n4 f4 x6 h8 i h1 hlt
   simp only [Int.toNat_natCast]
   exact this _ _ _ _ _ _ _ 1 (by omega) (by omega) i _ (by omega)
  ·have hb' : eqP f4 i (i - 1) = false := by
    rw [← hf]; rw [w1] at hb; simpa only [Int.toNat_natCast, eqP] using hb
   refine evNext ?_
   rw [w2]
   refine ih hlt (by omega) (fun j h3 => ?_) _ (fun a b => hf a b)
   by_cases e : j = i
   ·subst e; rw [hb', Bool.and_false]
   ·exact hj j (by omega)
 ·have : i = n4 := by have := of_decide_eq_false h; omega
  subst this
  rw [show adjP i f4 = false from exB_false hj, cond_false]
  try refine evAsm fun _ => ?_
  exact evBrGe tail63_ev
theorem c63_3' (n0 : Nat) (f0 : FnV) (s2 : ByteArray) (x3 : Int) (n4 : Nat) (f4 : FnV) (x6 : Int) (h8 : n4 <= 8) (h2 : 2 <= n4) (f : Nat -> List V) (hf : ∀ i j, eqP f i j = eqP f4 i j) : Ev (st63 n0 f0 s2 x3 n4 f4 x6) (.L3 1 f) (.int .i64 (bif adjP n4 f4 then 2 else tail63 x3 n4)) := c63_3 n0 f0 s2 x3 n4 f4 x6 h8 h2 1 (by omega) (Nat.le_refl _) (fun j hj => by
 have : j = 0 := by omega
 subst this; rfl) f hf
theorem ev63_0 (n0 : Nat) (f0 : FnV) (s2 : ByteArray) (x3 : Int) (n4 : Nat) (f4 : FnV) (x6 : Int) (hp : s2.size <= 9223372036854775807) : evR (Ev (st63 n0 f0 s2 x3 n4 f4 x6)) (m63 n0 f0 s2 x3 n4 f4 x6) (.int .i64 (F63 n0 f0 s2 x3 n4 f4 x6)) := by
 unfold F63
 refine evObp hp (evObt ?_)
 refine evBr (fun h => evRet (by rw [h]; rfl)) (fun h => ?_)
 rw [h, cond_false]
 refine evObc (evObt (evBr (fun h => evRet (by rw [show F90_0 n0 f0 s2 = true from h]; rfl)) (fun h => ?_)))
 rw [show F90_0 n0 f0 s2 = false from h, cond_false]
 refine evObc (evObt (evBr (fun h => evRet (by rw [h]; rfl)) (fun h => ?_)))
 rw [h, cond_false]
 refine evAsm1 fun hn => evBr (fun h => evRet (by rw [h]; rfl)) (fun h2 => ?_)
 rw [h2, cond_false]
 refine evAsm1 fun hn => evBr (fun h => evRet (by rw [h]; rfl)) (fun h8 => ?_)
 rw [h8, cond_false]
 have h2 : 2 <= n4 := by have := of_decide_eq_false h2; omega
 have h8 : n4 <= 8 := by have := of_decide_eq_false h8; omega
 have e2 : decide ((n4 : Int) < 2) = false := dqf (by omega)
 refine evObc (evObt (evObi (evBr (fun h => ?_) (fun h => evRet (by rw [show (!!F115_0 n4 f4) = true from by rw [show (!F115_0 n4 f4) = false from h]; rfl]; rfl)))))
 rw [show (!!F115_0 n4 f4) = false from by rw [show (!F115_0 n4 f4) = true from h]; rfl, cond_false]
 refine evOb h (evObc (evObt (evBr (fun h => evRet (by rw [h]; rfl)) (fun h => ?_))))
 rw [h, cond_false]
 have h16 : (decide (n4 * 16 <= 140737488355328) && !Nat.beq 16 0) = true := by rw [dqt (show n4 * 16 <= 140737488355328 by omega)]; rfl
 have hne : n4 = 0 -> False := by omega
 have hi : ∀ i j, eqP (elV tp2 f4) i j = eqP f4 i j := fun _ _ => rfl
 repeat' (first
  | exact evAsm (fun h0 => (hne h0).elim)
  | exact evEnter (c63_0' _ _ _ _ _ _ _ h8 h2 _ hi)
  | exact evEnter (c63_1' _ _ _ _ _ _ _ h8 h2 _ hi)
  | exact evEnter (c63_2' _ _ _ _ _ _ _ h8 h2 _ hi)
  | exact evEnter (c63_3' _ _ _ _ _ _ _ h8 h2 _ hi)
  | refine evUnd ?_ ?_
  | refine evAsm (fun _ => ?_)
  | refine evObv ?_
  | refine evOb h16 ?_
  | refine evBrF e2 ?_
  | refine evBrF rfl ?_
  | refine evBrT rfl ?_)
theorem ev63 (n0 : Nat) (f0 : FnV) (s2 : ByteArray) (x3 : Int) (n4 : Nat) (f4 : FnV) (x6 : Int) (hp : s2.size <= 9223372036854775807) : evR (Ev (st63 n0 f0 s2 x3 n4 f4 x6)) (m63 n0 f0 s2 x3 n4 f4 x6) (.int .i64 (F63 n0 (elV tyR f0) s2 x3 n4 (elV tp2 f4) x6)) := ev63_0 n0 f0 s2 x3 n4 f4 x6 hp
def C63 : PCon := mkC [.sl tyR, .agg tyR] (fun
 | [.sl n0 f0, .agg [.str s2, .int _ x3, .sl n4 f4, .int _ x6]] => s2.size <= 9223372036854775807
 | _ => False) fun
 | [.sl n0 f0, .agg [.str s2, .int _ x3, .sl n4 f4, .int _ x6]] => .int .i64 (F63 n0 f0 s2 x3 n4 f4 x6)
 | _ => .any
theorem ok63 : (vP C63).Ok Tryz.prog 63 := mkE tabB10 Tryz.func63 (by kernel_rfl) fun ds hp => rfs (run63 ..) (ev63 _ _ _ _ _ _ _ hp)
def m69 (n0 : Nat) (f0 : FnV) (s2 : ByteArray) (x3 x4 x5 x6 x7 : Int) : RT Empty := .obp (s2.size <= (9223372036854775807 : Nat)) (.obt (.br (!F114_0 s2) (.ret (vi 6)) (.obc (.obt (.br (F121_0 n0 (elV tyC f0) s2) (.ret (vi 5)) (.obc (.obt (.obi (.br (!F45_0 2 (elV tp1 (secF [vi x3, vi x4] 0 1))) (.ob (!F45_0 2 (elV tp1 (secF [vi x3, vi x4] 0 1))) (.obc (.obt (.obi (.br (!F86_0 x5 1 200) (.ob (!F86_0 x5 1 200) (.obc (.obt (.obi (.br (!F86_0 x6 (-1000) 1000) (.ob (!F86_0 x6 (-1000) 1000) (.obc (.obt (.br (F86_0 x7 (-1000) 1000) (.ret (vi 7)) (.obi (.obi (.obi (.br (bif x6 == 0 then x7 == 0 else false) (.ret (vi 2)) (.ret (vi 0)))))))))) (.ret (vi 7))))))) (.ret (vi 7))))))) (.ret (vi 7)))))))))))
theorem run69 (n0 : Nat) (f0 : FnV) (s2 : ByteArray) (x3 x4 x5 x6 x7 : Int) : Fit noD (runL JJ ctB10 u0 s69 [V.sl n0 (elV tyC f0), V.agg [V.str s2, vi x3, vi x4, vi x5, vi x6, vi x7]]) (m69 n0 f0 s2 x3 x4 x5 x6 x7) := ⟨by kernel_rfl, by kernel_rfl⟩
def F69_0 (n0 : Nat) (f0 : FnV) (s2 : ByteArray) (x3 x4 x5 x6 x7 : Int) : Int := bif !F114_0 s2 then 6 else bif F121_0 n0 (elV tyC f0) s2 then 5 else bif !F45_0 2 (elV tp1 (secF [vi x3, vi x4] 0 1)) then bif !F86_0 x5 1 200 then bif !F86_0 x6 (-1000) 1000 then bif F86_0 x7 (-1000) 1000 then 7 else bif bif x6 == 0 then x7 == 0 else false then 2 else 0 else 7 else 7 else 7
def R69 (n0 : Nat) (f0 : FnV) (s2 : ByteArray) (x3 x4 x5 x6 x7 : Int) : V := .int i64 (F69_0 n0 f0 s2 x3 x4 x5 x6 x7)
theorem ev69 (n0 : Nat) (f0 : FnV) (s2 : ByteArray) (x3 x4 x5 x6 x7 : Int) (hp : s2.size <= 9223372036854775807) : evR noE (m69 n0 f0 s2 x3 x4 x5 x6 x7) (R69 n0 f0 s2 x3 x4 x5 x6 x7) := evObp (by first | assumption | (exact hp)) (evObt (evBr (fun h0 => evRet (by unfold R69 F69_0; try rw [h0]; rfl)) (fun h0 => evObc (evObt (evBr (fun h1 => evRet (by unfold R69 F69_0; try rw [h0]; try rw [h1]; rfl)) (fun h1 => evObc (evObt (evObi (evBr (fun h2 => evOb (by first | assumption | (fail)) (evObc (evObt (evObi (evBr (fun h3 => evOb (by first | assumption | (fail)) (evObc (evObt (evObi (evBr (fun h4 => evOb (by first | assumption | (fail)) (evObc (evObt (evBr (fun h5 => evRet (by unfold R69 F69_0; try rw [h0]; try rw [h1]; try rw [h2]; try rw [h3]; try rw [h4]; try rw [h5]; rfl)) (fun h5 => evObi (evObi (evObi (evBr (fun h6 => evRet (by unfold R69 F69_0; try rw [h0]; try rw [h1]; try rw [h2]; try rw [h3]; try rw [h4]; try rw [h5]; try rw [h6]; rfl)) (fun h6 => evRet (by unfold R69 F69_0; try rw [h0]; try rw [h1]; try rw [h2]; try rw [h3]; try rw [h4]; try rw [h5]; try rw [h6]; rfl)))))))))) (fun h4 => evRet (by unfold R69 F69_0; try rw [h0]; try rw [h1]; try rw [h2]; try rw [h3]; try rw [h4]; rfl))))))) (fun h3 => evRet (by unfold R69 F69_0; try rw [h0]; try rw [h1]; try rw [h2]; try rw [h3]; rfl))))))) (fun h2 => evRet (by unfold R69 F69_0; try rw [h0]; try rw [h1]; try rw [h2]; rfl)))))))))))
def C69 : PCon := mkC [.sl tyC, .agg tyC] (fun
 | [.sl n0 f0, .agg [.str s2, .int _ x3, .int _ x4, .int _ x5, .int _ x6, .int _ x7]] => s2.size <= 9223372036854775807
 | _ => False) fun
 | [.sl n0 f0, .agg [.str s2, .int _ x3, .int _ x4, .int _ x5, .int _ x6, .int _ x7]] => R69 n0 f0 s2 x3 x4 x5 x6 x7
 | _ => .any
theorem ok69 : (vP C69).Ok Tryz.prog 69 := mkE tabB10 Tryz.func69 (by kernel_rfl) fun ds hp => rf0 (run69 ..) (ev69 _ _ _ _ _ _ _ _ hp)
noncomputable section
def ctB11 : CTab := (63, .con C63) :: (69, .con C69) :: ctB10
theorem tabB11 : TabOk Tryz.prog eqs its ctB11 := .con ok63 (.con ok69 (tabB10))
def ptOk (x y : Int) : Bool := F51 2 (elV tp1 (secF [V.int .i64 x, V.int .i64 y] 0 ((1 + 1 - 0) / 2)))
def roadE (k : Int) (n : Nat) (f : Nat -> List V) (h : Int) : Int := bif !F71_0 k 0 3 then 2 else bif decide ((n : Int) < 2) then 4 else bif decide (8 < (n : Int)) then 3 else bif exB n (fun i => !ptOk (jv0 (f i)) (jv1 (f i))) then 7 else bif !F71_0 h 100 30000 then 7 else bif adjP n f then 2 else tail63 k n
def F70 (n0 : Nat) (f0 : FnV) (x8 : Int) : Int := bif !F122 (sv (hdV (f0 x8.toNat))) then 6 else bif exB x8.toNat (fun k => (sv (hdV (f0 k))).toList == (sv (hdV (f0 x8.toNat))).toList) then 5 else roadE (jv1 (f0 x8.toNat)) (lenV (hdV (tlV (tlV (f0 x8.toNat))))) (atV (hdV (tlV (tlV (f0 x8.toNat))))) (jv3 (f0 x8.toNat))
inductive S62 where
 | L0 (ia0 : Int)
def inv62 (n0 : Nat) (f0 : FnV) : S62 -> Env × List O × Option Ex
 | .L0 ia0 => ([(11, vi ia0), (10, vi (↑n0 : Int)), (9, V.sl n0 (elV tyR f0)), (5, vi 0), (4, vi 0), (0, V.sl n0 (elV tyR f0)), (1, V.fn 63 [] [])], [], none)
def id62 : S62 -> JJ
 | .L0 ia0 => (0, [])
def rl62 (n0 : Nat) (f0 : FnV) : T (Leaf JJ) := runL JJ ctB11 u0 s62 [V.sl n0 (elV tyR f0), V.fn 63 [] []]
def lp62_0 (n0 : Nat) (f0 : FnV) (cx : List Cx) : Lp JJ := lpT (atT (rl62 n0 f0) [])
def lp62 (n0 : Nat) (f0 : FnV) : JJ -> Lp JJ
 | (0, cx) => lp62_0 n0 f0 cx
 | (_, cx) => lp62_0 n0 f0 cx
def D62 (n0 : Nat) (f0 : FnV) : LD JJ S62 := ⟨id62, lp62 n0 f0, inv62 n0 f0⟩
def st62 (n0 : Nat) (f0 : FnV) : S62 -> RT S62
 | .L0 ia0 => .br (decide (ia0 < (↑n0 : Int))) (.ob (decide (0 <= ia0 /\ ia0 < (↑n0 : Int))) (.ob (decide (0 <= ia0 /\ ia0 <= (↑n0 : Int))) (.obp ((sv (hdV (f0 ia0.toNat))).size <= (9223372036854775807 : Nat)) (.obt (.br (F63 (ia0.toNat - 0) (fun i => elV tyR f0 (0 + i)) (sv (hdV (f0 ia0.toNat))) (jv1 (f0 ia0.toNat)) (lenV (hdV (tlV (tlV (f0 ia0.toNat))))) (fun i => views tp2 (atV (hdV (tlV (tlV (f0 ia0.toNat)))) i)) (jv3 (f0 ia0.toNat)) != 0) (.ret (V.tup [vi ia0, vi (F63 (ia0.toNat - 0) (fun i => elV tyR f0 (0 + i)) (sv (hdV (f0 ia0.toNat))) (jv1 (f0 ia0.toNat)) (lenV (hdV (tlV (tlV (f0 ia0.toNat))))) (fun i => views tp2 (atV (hdV (tlV (tlV (f0 ia0.toNat)))) i)) (jv3 (f0 ia0.toNat)))])) (.next [] (S62.L0 (i64.wrap (ia0 + 1))) [])))))) (.ret (V.tup [vi 0, vi 0]))
def m62 (n0 : Nat) (f0 : FnV) : RT S62 := .asm (true = true -> n0 <= 9223372036854775807) (.enter [] (S62.L0 (0)) [])
theorem run62 (n0 : Nat) (f0 : FnV) : Fits ctB11 u0 (D62 n0 f0) (rl62 n0 f0) (m62 n0 f0) (st62 n0 f0) := ⟨⟨by kernel_rfl, by kernel_rfl⟩, fun s => by cases s <;> exact ⟨by kernel_rfl, by kernel_rfl⟩⟩
def c62 (n0 : Nat) (f0 : FnV) (ii : Nat) : Int := (F63 (ii - 0) (fun i => elV tyR f0 (0 + i)) (sv (hdV (f0 ii))) (jv1 (f0 ii)) (lenV (hdV (tlV (tlV (f0 ii))))) (fun i => views tp2 (atV (hdV (tlV (tlV (f0 ii)))) i)) (jv3 (f0 ii)))
def F62_0 (n0 : Nat) (f0 : FnV) : Int := firstI n0 (c62 n0 f0)
def F62_1 (n0 : Nat) (f0 : FnV) : Int := firstE n0 (c62 n0 f0)
theorem ev62_0 (n0 : Nat) (f0 : FnV) (hp : SzOk n0 f0) : evR (Ev (st62 n0 f0)) (m62 n0 f0) (.tup [.int .i64 (F62_0 n0 f0), .int .i64 (F62_1 n0 f0)]) := evAsm1 fun hn => evEnter (first_ev (Q := fun i => (sv (hdV (f0 i))).size <= 9223372036854775807) (fun i x => .obp ((sv (hdV (f0 i))).size <= 9223372036854775807) (.obt x)) (fun i x r h hx => evObp h (evObt hx)) (fun _ _ => rfl) hn hp fun i => rfl)
theorem ev62 (n0 : Nat) (f0 : FnV) (hp : SzOk n0 (elV tyR f0)) : evR (Ev (st62 n0 f0)) (m62 n0 f0) (.tup [.int .i64 (F62_0 n0 (elV tyR f0)), .int .i64 (F62_1 n0 (elV tyR f0))]) := ev62_0 n0 f0 hp
def C62 : PCon := mkC [.sl tyR, .fn 63 [] []] (fun
 | [.sl n0 f0, .fn _ [] []] => SzOk n0 f0
 | _ => False) fun
 | [.sl n0 f0, .fn _ [] []] => .tup [.int .i64 (F62_0 n0 f0), .int .i64 (F62_1 n0 f0)]
 | _ => .any
theorem ok62 : (vP C62).Ok Tryz.prog 62 := mkE tabB11 Tryz.func62 (by kernel_rfl) fun ds hp => rfs (run62 ..) (ev62 _ _ hp)
inductive S68 where
 | L0 (ia0 : Int)
def inv68 (n0 : Nat) (f0 : FnV) : S68 -> Env × List O × Option Ex
 | .L0 ia0 => ([(11, vi ia0), (10, vi (↑n0 : Int)), (9, V.sl n0 (elV tyC f0)), (5, vi 0), (4, vi 0), (0, V.sl n0 (elV tyC f0)), (1, V.fn 69 [] [])], [], none)
def id68 : S68 -> JJ
 | .L0 ia0 => (0, [])
def rl68 (n0 : Nat) (f0 : FnV) : T (Leaf JJ) := runL JJ ctB11 u0 s68 [V.sl n0 (elV tyC f0), V.fn 69 [] []]
def lp68_0 (n0 : Nat) (f0 : FnV) (cx : List Cx) : Lp JJ := lpT (atT (rl68 n0 f0) [])
def lp68 (n0 : Nat) (f0 : FnV) : JJ -> Lp JJ
 | (0, cx) => lp68_0 n0 f0 cx
 | (_, cx) => lp68_0 n0 f0 cx
def D68 (n0 : Nat) (f0 : FnV) : LD JJ S68 := ⟨id68, lp68 n0 f0, inv68 n0 f0⟩
def st68 (n0 : Nat) (f0 : FnV) : S68 -> RT S68
 | .L0 ia0 => .br (decide (ia0 < (↑n0 : Int))) (.ob (decide (0 <= ia0 /\ ia0 < (↑n0 : Int))) (.ob (decide (0 <= ia0 /\ ia0 <= (↑n0 : Int))) (.obp ((sv (hdV (f0 ia0.toNat))).size <= (9223372036854775807 : Nat)) (.obt (.br (F69_0 (ia0.toNat - 0) (fun i => elV tyC f0 (0 + i)) (sv (hdV (f0 ia0.toNat))) (jv1 (f0 ia0.toNat)) (jv2 (f0 ia0.toNat)) (jv3 (f0 ia0.toNat)) (jv4 (f0 ia0.toNat)) (jv5 (f0 ia0.toNat)) != 0) (.ret (V.tup [vi ia0, vi (F69_0 (ia0.toNat - 0) (fun i => elV tyC f0 (0 + i)) (sv (hdV (f0 ia0.toNat))) (jv1 (f0 ia0.toNat)) (jv2 (f0 ia0.toNat)) (jv3 (f0 ia0.toNat)) (jv4 (f0 ia0.toNat)) (jv5 (f0 ia0.toNat)))])) (.next [] (S68.L0 (i64.wrap (ia0 + 1))) [])))))) (.ret (V.tup [vi 0, vi 0]))
def m68 (n0 : Nat) (f0 : FnV) : RT S68 := .asm (true = true -> n0 <= 9223372036854775807) (.enter [] (S68.L0 (0)) [])
theorem run68 (n0 : Nat) (f0 : FnV) : Fits ctB11 u0 (D68 n0 f0) (rl68 n0 f0) (m68 n0 f0) (st68 n0 f0) := ⟨⟨by kernel_rfl, by kernel_rfl⟩, fun s => by cases s <;> exact ⟨by kernel_rfl, by kernel_rfl⟩⟩
def c68 (n0 : Nat) (f0 : FnV) (ii : Nat) : Int := (F69_0 (ii - 0) (fun i => elV tyC f0 (0 + i)) (sv (hdV (f0 ii))) (jv1 (f0 ii)) (jv2 (f0 ii)) (jv3 (f0 ii)) (jv4 (f0 ii)) (jv5 (f0 ii)))
def F68_0 (n0 : Nat) (f0 : FnV) : Int := firstI n0 (c68 n0 f0)
def F68_1 (n0 : Nat) (f0 : FnV) : Int := firstE n0 (c68 n0 f0)
theorem ev68_0 (n0 : Nat) (f0 : FnV) (hp : SzOk n0 f0) : evR (Ev (st68 n0 f0)) (m68 n0 f0) (.tup [.int .i64 (F68_0 n0 f0), .int .i64 (F68_1 n0 f0)]) := evAsm1 fun hn => evEnter (first_ev (Q := fun i => (sv (hdV (f0 i))).size <= 9223372036854775807) (fun i x => .obp ((sv (hdV (f0 i))).size <= 9223372036854775807) (.obt x)) (fun i x r h hx => evObp h (evObt hx)) (fun _ _ => rfl) hn hp fun i => rfl)
theorem ev68 (n0 : Nat) (f0 : FnV) (hp : SzOk n0 (elV tyC f0)) : evR (Ev (st68 n0 f0)) (m68 n0 f0) (.tup [.int .i64 (F68_0 n0 (elV tyC f0)), .int .i64 (F68_1 n0 (elV tyC f0))]) := ev68_0 n0 f0 hp
def C68 : PCon := mkC [.sl tyC, .fn 69 [] []] (fun
 | [.sl n0 f0, .fn _ [] []] => SzOk n0 f0
 | _ => False) fun
 | [.sl n0 f0, .fn _ [] []] => .tup [.int .i64 (F68_0 n0 f0), .int .i64 (F68_1 n0 f0)]
 | _ => .any
theorem ok68 : (vP C68).Ok Tryz.prog 68 := mkE tabB11 Tryz.func68 (by kernel_rfl) fun ds hp => rfs (run68 ..) (ev68 _ _ hp)
end
noncomputable section
def ctB12 : CTab := (62, .con C62) :: (68, .con C68) :: ctB11
theorem tabB12 : TabOk Tryz.prog eqs its ctB12 := .con ok62 (.con ok68 (tabB11))
def treeE (x y a z w : Int) : Int := bif !!ptOk x y then (bif (bif bif bif !F71_0 a 1 20000 then true else decide (z < 0) then true else decide (w <= z) then true else decide (1000 < w)) then 7 else 0) else 7
def r24 (n : Nat) (c : Nat -> Int) (k : Int) (z : Int × Int × Int) : Int × Int × Int := bif firstE n c != 0 then (k, firstI n c, firstE n c) else z
def cR (n0 : Nat) (f0 : FnV) (i : Nat) : Int := F70 n0 (elV tyR f0) (i : Int)
def cT (f2 : FnV) (i : Nat) : Int := treeE (jv0 (f2 i)) (jv1 (f2 i)) (jv2 (f2 i)) (jv3 (f2 i)) (jv4 (f2 i))
def cF (f4 : FnV) (i : Nat) : Int := F72 (jv0 (f4 i)) (jv1 (f4 i)) (jv2 (f4 i)) (jv3 (f4 i)) (lenV (hdV (tlV (tlV (tlV (tlV (f4 i))))))) fun j => views tp4 (atV (hdV (tlV (tlV (tlV (tlV (f4 i)))))) j)
def cC (n6 : Nat) (f6 : FnV) (i : Nat) : Int := F73 n6 (elV tyC f6) (i : Int)
def z3 (n6 : Nat) (f6 : FnV) : Int × Int × Int := r24 n6 (cC n6 f6) 4 (0, 0, 0)
def z2 (n4 : Nat) (f4 : FnV) (n6 : Nat) (f6 : FnV) : Int × Int × Int := r24 n4 (cF f4) 3 (z3 n6 f6)
def z1 (n2 : Nat) (f2 : FnV) (n4 : Nat) (f4 : FnV) (n6 : Nat) (f6 : FnV) : Int × Int × Int := r24 n2 (cT f2) 2 (z2 n4 f4 n6 f6)
def long (n0 : Nat) (f0 : FnV) (n2 : Nat) (f2 : FnV) (n4 : Nat) (f4 : FnV) (n6 : Nat) (f6 : FnV) : Bool := bif bif bif decide (8 < (n0 : Int)) then true else decide (12 < (n2 : Int)) then true else decide (8 < (n4 : Int)) then true else decide (24 < (n6 : Int))
def F24 (n0 : Nat) (f0 : FnV) (n2 : Nat) (f2 : FnV) (n4 : Nat) (f4 : FnV) (n6 : Nat) (f6 : FnV) : Int × Int × Int := bif long n0 f0 n2 f2 n4 f4 n6 f6 then (0, 0, 3) else r24 n0 (cR n0 f0) 1 (z1 n2 f2 n4 f4 n6 f6)
def F24_2 (n0 : Nat) (f0 : FnV) (n2 : Nat) (f2 : FnV) (n4 : Nat) (f4 : FnV) (n6 : Nat) (f6 : FnV) : Int := (F24 n0 f0 n2 f2 n4 f4 n6 f6).2.2
def m23 (n0 : Nat) (f0 : FnV) (n2 : Nat) (f2 : FnV) (n4 : Nat) (f4 : FnV) (n6 : Nat) (f6 : FnV) : RT Empty := .asm (true = true -> n0 <= 9223372036854775807) (.obi (.obi (.asm ((!decide (8 < (↑n0 : Int))) = true -> n2 <= 9223372036854775807) (.obi (.obi (.obi (.obi (.asm ((!bif decide (8 < (↑n0 : Int)) then true else decide (12 < (↑n2 : Int))) = true -> n4 <= 9223372036854775807) (.obi (.obi (.obi (.obi (.asm ((!bif bif decide (8 < (↑n0 : Int)) then true else decide (12 < (↑n2 : Int)) then true else decide (8 < (↑n4 : Int))) = true -> n6 <= 9223372036854775807) (.obi (.obi (.br (bif bif bif decide (8 < (↑n0 : Int)) then true else decide (12 < (↑n2 : Int)) then true else decide (8 < (↑n4 : Int)) then true else decide (24 < (↑n6 : Int))) (.ret (V.tup [vi 0, vi 0, vi 3])) (.obp (∀ (i : Nat), i < n0 -> (sv (hdV (f0 i))).size <= (9223372036854775807 : Nat)) (.obt (.br (F62_1 n0 (elV tyR f0) != 0) (.ret (V.tup [vi 1, vi (F62_0 n0 (elV tyR f0)), vi (F62_1 n0 (elV tyR f0))])) (.obc (.obt (.br (F64_1 n2 (elV tyT f2) != 0) (.ret (V.tup [vi 2, vi (F64_0 n2 (elV tyT f2)), vi (F64_1 n2 (elV tyT f2))])) (.obc (.obt (.br (F66_1 n4 (elV tyF f4) != 0) (.ret (V.tup [vi 3, vi (F66_0 n4 (elV tyF f4)), vi (F66_1 n4 (elV tyF f4))])) (.obp (∀ (i : Nat), i < n6 -> (sv (hdV (f6 i))).size <= (9223372036854775807 : Nat)) (.obt (.br (F68_1 n6 (elV tyC f6) != 0) (.ret (V.tup [vi 4, vi (F68_0 n6 (elV tyC f6)), vi (F68_1 n6 (elV tyC f6))])) (.ret (V.tup [vi 0, vi 0, vi 0]))))))))))))))))))))))))))))))
theorem run23 (n0 : Nat) (f0 : FnV) (n2 : Nat) (f2 : FnV) (n4 : Nat) (f4 : FnV) (n6 : Nat) (f6 : FnV) : Fit noD (runL JJ ctB12 u0 s23 [scV n0 f0 n2 f2 n4 f4 n6 f6]) (m23 n0 f0 n2 f2 n4 f4 n6 f6) := ⟨by kernel_rfl, by kernel_rfl⟩
def F23_0 (n0 : Nat) (f0 : FnV) (n2 : Nat) (f2 : FnV) (n4 : Nat) (f4 : FnV) (n6 : Nat) (f6 : FnV) : Int := bif bif bif bif decide (8 < (↑n0 : Int)) then true else decide (12 < (↑n2 : Int)) then true else decide (8 < (↑n4 : Int)) then true else decide (24 < (↑n6 : Int)) then 0 else bif F62_1 n0 (elV tyR f0) != 0 then 1 else bif F64_1 n2 (elV tyT f2) != 0 then 2 else bif F66_1 n4 (elV tyF f4) != 0 then 3 else bif F68_1 n6 (elV tyC f6) != 0 then 4 else 0
def F23_1 (n0 : Nat) (f0 : FnV) (n2 : Nat) (f2 : FnV) (n4 : Nat) (f4 : FnV) (n6 : Nat) (f6 : FnV) : Int := bif bif bif bif decide (8 < (↑n0 : Int)) then true else decide (12 < (↑n2 : Int)) then true else decide (8 < (↑n4 : Int)) then true else decide (24 < (↑n6 : Int)) then 0 else bif F62_1 n0 (elV tyR f0) != 0 then F62_0 n0 (elV tyR f0) else bif F64_1 n2 (elV tyT f2) != 0 then F64_0 n2 (elV tyT f2) else bif F66_1 n4 (elV tyF f4) != 0 then F66_0 n4 (elV tyF f4) else bif F68_1 n6 (elV tyC f6) != 0 then F68_0 n6 (elV tyC f6) else 0
def F23_2 (n0 : Nat) (f0 : FnV) (n2 : Nat) (f2 : FnV) (n4 : Nat) (f4 : FnV) (n6 : Nat) (f6 : FnV) : Int := bif bif bif bif decide (8 < (↑n0 : Int)) then true else decide (12 < (↑n2 : Int)) then true else decide (8 < (↑n4 : Int)) then true else decide (24 < (↑n6 : Int)) then 3 else bif F62_1 n0 (elV tyR f0) != 0 then F62_1 n0 (elV tyR f0) else bif F64_1 n2 (elV tyT f2) != 0 then F64_1 n2 (elV tyT f2) else bif F66_1 n4 (elV tyF f4) != 0 then F66_1 n4 (elV tyF f4) else bif F68_1 n6 (elV tyC f6) != 0 then F68_1 n6 (elV tyC f6) else 0
def R23 (n0 : Nat) (f0 : FnV) (n2 : Nat) (f2 : FnV) (n4 : Nat) (f4 : FnV) (n6 : Nat) (f6 : FnV) : V := .tup [.int i64 (F23_0 n0 f0 n2 f2 n4 f4 n6 f6), .int i64 (F23_1 n0 f0 n2 f2 n4 f4 n6 f6), .int i64 (F23_2 n0 f0 n2 f2 n4 f4 n6 f6)]
theorem ev23 (n0 : Nat) (f0 : FnV) (n2 : Nat) (f2 : FnV) (n4 : Nat) (f4 : FnV) (n6 : Nat) (f6 : FnV) (hp : SzOk n0 f0 /\ SzOk n6 f6) : evR noE (m23 n0 f0 n2 f2 n4 f4 n6 f6) (R23 n0 f0 n2 f2 n4 f4 n6 f6) := evAsm (fun a0 => evObi (evObi (evAsm (fun a0 => evObi (evObi (evObi (evObi (evAsm (fun a0 => evObi (evObi (evObi (evObi (evAsm (fun a0 => evObi (evObi (evBr (fun h0 => evRet (by unfold R23 F23_0 F23_1 F23_2; try rw [h0]; rfl)) (fun h0 => evObp (by first | assumption | ((first | exact hp.1 | exact hp.2))) (evObt (evBr (fun h1 => evRet (by unfold R23 F23_0 F23_1 F23_2; try rw [h0]; try rw [h1]; rfl)) (fun h1 => evObc (evObt (evBr (fun h2 => evRet (by unfold R23 F23_0 F23_1 F23_2; try rw [h0]; try rw [h1]; try rw [h2]; rfl)) (fun h2 => evObc (evObt (evBr (fun h3 => evRet (by unfold R23 F23_0 F23_1 F23_2; try rw [h0]; try rw [h1]; try rw [h2]; try rw [h3]; rfl)) (fun h3 => evObp (by first | assumption | ((first | exact hp.1 | exact hp.2))) (evObt (evBr (fun h4 => evRet (by unfold R23 F23_0 F23_1 F23_2; try rw [h0]; try rw [h1]; try rw [h2]; try rw [h3]; try rw [h4]; rfl)) (fun h4 => evRet (by unfold R23 F23_0 F23_1 F23_2; try rw [h0]; try rw [h1]; try rw [h2]; try rw [h3]; try rw [h4]; rfl))))))))))))))))))))))))))))))
def C23 : PCon := mkC [.agg [.sl tyR, .sl tyT, .sl tyF, .sl tyC]] (fun
 | [.agg [.sl n0 f0, .sl n2 f2, .sl n4 f4, .sl n6 f6]] => SzOk n0 f0 /\ SzOk n6 f6
 | _ => False) fun
 | [.agg [.sl n0 f0, .sl n2 f2, .sl n4 f4, .sl n6 f6]] => R23 n0 f0 n2 f2 n4 f4 n6 f6
 | _ => .any
theorem ok23 : (vP C23).Ok Tryz.prog 23 := mkE tabB12 Tryz.func23 (by kernel_rfl) fun ds hp => rf0 (run23 ..) (ev23 _ _ _ _ _ _ _ _ hp)
end
noncomputable section
def ctB13 : CTab := (23, .con C23) :: ctB12
theorem tabB13 : TabOk Tryz.prog eqs its ctB13 := .con ok23 (tabB12)
inductive S44 where
 | L0 (ia0 ia1 : Int)
def inv44 (n0 : Nat) (f0 : FnV) (n2 : Nat) (f2 : FnV) (n4 : Nat) (f4 : FnV) (n6 : Nat) (f6 : FnV) (n8 : Nat) (f8 : FnV) : S44 -> Env × List O × Option Ex
 | .L0 ia0 ia1 => ([(8, vi ia0), (7, vi ia1), (6, vi (F23_1 n0 (elV tyR f0) n2 (elV tyT f2) n4 (elV tyF f4) n6 (elV tyC f6))), (5, vi (F23_0 n0 (elV tyR f0) n2 (elV tyT f2) n4 (elV tyF f4) n6 (elV tyC f6))), (14, vi (F23_2 n0 (elV tyR f0) n2 (elV tyT f2) n4 (elV tyF f4) n6 (elV tyC f6))), (13, vi (F23_1 n0 (elV tyR f0) n2 (elV tyT f2) n4 (elV tyF f4) n6 (elV tyC f6))), (12, vi (F23_0 n0 (elV tyR f0) n2 (elV tyT f2) n4 (elV tyF f4) n6 (elV tyC f6))), (9, V.tup [vi (F23_0 n0 (elV tyR f0) n2 (elV tyT f2) n4 (elV tyF f4) n6 (elV tyC f6)), vi (F23_1 n0 (elV tyR f0) n2 (elV tyT f2) n4 (elV tyF f4) n6 (elV tyC f6)), vi (F23_2 n0 (elV tyR f0) n2 (elV tyT f2) n4 (elV tyF f4) n6 (elV tyC f6))]), (11, V.tup [vi (F23_0 n0 (elV tyR f0) n2 (elV tyT f2) n4 (elV tyF f4) n6 (elV tyC f6)), vi (F23_1 n0 (elV tyR f0) n2 (elV tyT f2) n4 (elV tyF f4) n6 (elV tyC f6)), vi (F23_2 n0 (elV tyR f0) n2 (elV tyT f2) n4 (elV tyF f4) n6 (elV tyC f6))]), (10, scV n0 f0 n2 f2 n4 f4 n6 f6), (4, vi 0), (2, V.pl 0 0), (0, scV n0 f0 n2 f2 n4 f4 n6 f6), (1, V.sl n8 (elV tp1 f8))], [O.cells [V.sl n0 (elV tyR f0), V.sl n2 (elV tyT f2), V.sl n4 (elV tyF f4), V.sl n6 (elV tyC f6)] 27], none)
def id44 : S44 -> JJ
 | .L0 ia0 ia1 => (0, [])
def rl44 (n0 : Nat) (f0 : FnV) (n2 : Nat) (f2 : FnV) (n4 : Nat) (f4 : FnV) (n6 : Nat) (f6 : FnV) (n8 : Nat) (f8 : FnV) : T (Leaf JJ) := runL JJ ctB13 u0 s44 [scV n0 f0 n2 f2 n4 f4 n6 f6, V.sl n8 (elV tp1 f8)]
def lp44_0 (n0 : Nat) (f0 : FnV) (n2 : Nat) (f2 : FnV) (n4 : Nat) (f4 : FnV) (n6 : Nat) (f6 : FnV) (n8 : Nat) (f8 : FnV) (cx : List Cx) : Lp JJ := lpT (atT (rl44 n0 f0 n2 f2 n4 f4 n6 f6 n8 f8) [])
def lp44 (n0 : Nat) (f0 : FnV) (n2 : Nat) (f2 : FnV) (n4 : Nat) (f4 : FnV) (n6 : Nat) (f6 : FnV) (n8 : Nat) (f8 : FnV) : JJ -> Lp JJ
 | (0, cx) => lp44_0 n0 f0 n2 f2 n4 f4 n6 f6 n8 f8 cx
 | (_, cx) => lp44_0 n0 f0 n2 f2 n4 f4 n6 f6 n8 f8 cx
def D44 (n0 : Nat) (f0 : FnV) (n2 : Nat) (f2 : FnV) (n4 : Nat) (f4 : FnV) (n6 : Nat) (f6 : FnV) (n8 : Nat) (f8 : FnV) : LD JJ S44 := ⟨id44, lp44 n0 f0 n2 f2 n4 f4 n6 f6 n8 f8, inv44 n0 f0 n2 f2 n4 f4 n6 f6 n8 f8⟩
def st44 (n0 : Nat) (f0 : FnV) (n2 : Nat) (f2 : FnV) (n4 : Nat) (f4 : FnV) (n6 : Nat) (f6 : FnV) (n8 : Nat) (f8 : FnV) : S44 -> RT S44
 | .L0 ia0 ia1 => .asm (true = true -> n8 <= 9223372036854775807) (.obi (.obi (.br (bif decide (ia0 < (↑n8 : Int)) then ia1 == 0 else false) (.ob (decide (0 <= ia0 /\ ia0 < (↑n8 : Int))) (.ob (decide (0 <= i64.wrap (ia0 + 1) /\ i64.wrap (ia0 + 1) < (↑n8 : Int))) (.obc (.obt (.br (F86_0 (jv0 (f8 ia0.toNat)) 0 (i64.wrap (jv0 (f8 (i64.wrap (ia0 + 1)).toNat) - 1))) (.next [some (some 0)] (S44.L0 (i64.wrap (ia0 + 2)) (4)) []) (.next [some (some 0)] (S44.L0 (i64.wrap (ia0 + 2)) (ia1)) [])))))) (.ret (vi ia1)))))
def m44 (n0 : Nat) (f0 : FnV) (n2 : Nat) (f2 : FnV) (n4 : Nat) (f4 : FnV) (n6 : Nat) (f6 : FnV) (n8 : Nat) (f8 : FnV) : RT S44 := .obp ((∀ (i : Nat), i < n0 -> (sv (hdV (f0 i))).size <= (9223372036854775807 : Nat)) /\ ∀ (i : Nat), i < n6 -> (sv (hdV (f6 i))).size <= (9223372036854775807 : Nat)) (.obt (.enter [some (some 0)] (S44.L0 (0) (F23_2 n0 (elV tyR f0) n2 (elV tyT f2) n4 (elV tyF f4) n6 (elV tyC f6))) []))
theorem run44 (n0 : Nat) (f0 : FnV) (n2 : Nat) (f2 : FnV) (n4 : Nat) (f4 : FnV) (n6 : Nat) (f6 : FnV) (n8 : Nat) (f8 : FnV) : Fits ctB13 u0 (D44 n0 f0 n2 f2 n4 f4 n6 f6 n8 f8) (rl44 n0 f0 n2 f2 n4 f4 n6 f6 n8 f8) (m44 n0 f0 n2 f2 n4 f4 n6 f6 n8 f8) (st44 n0 f0 n2 f2 n4 f4 n6 f6 n8 f8) := ⟨⟨by kernel_rfl, by kernel_rfl⟩, fun s => by cases s <;> exact ⟨by kernel_rfl, by kernel_rfl⟩⟩
def outI (f8 : FnV) (k : Nat) : Bool := F86_0 (jv0 (f8 (2 * k))) 0 (i64.wrap (jv0 (f8 (2 * k + 1)) - 1))
def outs (n8 : Nat) (f8 : FnV) (e : Int) : Int := bif e == 0 then (bif exB (n8 / 2) (outI f8) then 4 else 0) else e
def F44 (n0 : Nat) (f0 : FnV) (n2 : Nat) (f2 : FnV) (n4 : Nat) (f4 : FnV) (n6 : Nat) (f6 : FnV) (n8 : Nat) (f8 : FnV) : Int := outs n8 f8 (F23_2 n0 (elV tyR f0) n2 (elV tyT f2) n4 (elV tyF f4) n6 (elV tyC f6))
theorem c44_1 (n0 : Nat) (f0 : FnV) (n2 : Nat) (f2 : FnV) (n4 : Nat) (f4 : FnV) (n6 : Nat) (f6 : FnV) (n8 : Nat) (f8 : FnV) (i e : Int) (he : (e == 0) = false) : Ev (st44 n0 f0 n2 f2 n4 f4 n6 f6 n8 f8) (.L0 i e) (.int .i64 e) := Ev.of rfl (evAsm fun _ => evObi (evObi (evBrF (by rw [he]; cases decide (i < (n8 : Int)) <;> rfl) (evRet rfl))))
theorem c44_0 (n0 : Nat) (f0 : FnV) (n2 : Nat) (f2 : FnV) (n4 : Nat) (f4 : FnV) (n6 : Nat) (f6 : FnV) (n8 : Nat) (f8 : FnV) (hm : n8 % 2 = 0) (hn : n8 <= 100) : ∀ k : Nat, k <= n8 / 2 -> (∀ j, j < k -> outI f8 j = false) -> Ev (st44 n0 f0 n2 f2 n4 f4 n6 f6 n8 f8) (.L0 ((2 * k : Nat) : Int) 0) (.int .i64 (bif exB (n8 / 2) (outI f8) then 4 else 0)) := by
 refine up_ind fun k hk ih hj => Ev.of rfl (evAsm fun _ => evObi (evObi (evBr (fun h => ?_) (fun h => ?_))))
 ·have hlt : 2 * k < n8 := by
   by_cases hh : ((2 * k : Nat) : Int) < (n8 : Int)
   ·omega
   ·rw [dqf hh] at h; cases h
  have w1 : i64.wrap (((2 * k : Nat) : Int) + 1) = ((2 * k + 1 : Nat) : Int) := by rw [wrapI (by omega) (by omega)]; omega
  have w2 : i64.wrap (((2 * k : Nat) : Int) + 2) = ((2 * (k + 1) : Nat) : Int) := by rw [wrapI (by omega) (by omega)]; omega
  refine evOb (dqt (by omega)) (evOb (dqt (by rw [w1]; omega)) (evObc (evObt (evBr (fun hb => evNext ?_) (fun hb => evNext ?_)))))
  ·rw [w1] at hb
   simp only [Int.toNat_natCast] at hb
   rw [exB_true (p := outI f8) k (by omega) hb, cond_true]
   exact c44_1 n0 f0 n2 f2 n4 f4 n6 f6 n8 f8 _ 4 rfl
  ·rw [w1] at hb
   simp only [Int.toNat_natCast] at hb
   rw [w2]
   refine ih (by omega) (fun j h3 => ?_)
   by_cases e : j = k
   ·subst e; exact hb
   ·exact hj j (by omega)
 ·have e : k = n8 / 2 := by
   by_cases hh : ((2 * k : Nat) : Int) < (n8 : Int)
   ·rw [dqt hh] at h; cases h
   ·omega
  rw [show exB (n8 / 2) (outI f8) = false from exB_false fun j h => hj j (by omega)]
  exact evRet rfl
theorem c44_2 (n0 : Nat) (f0 : FnV) (n2 : Nat) (f2 : FnV) (n4 : Nat) (f4 : FnV) (n6 : Nat) (f6 : FnV) (n8 : Nat) (f8 : FnV) (hm : n8 % 2 = 0) (hn : n8 <= 100) (e : Int) : Ev (st44 n0 f0 n2 f2 n4 f4 n6 f6 n8 f8) (.L0 0 e) (.int .i64 (outs n8 f8 e)) := by
 unfold outs
 cases he : e == 0 with
 | false => exact c44_1 n0 f0 n2 f2 n4 f4 n6 f6 n8 f8 0 e he
 | true =>
   have : e = 0 := eq_of_beq he
   subst this
   exact c44_0 n0 f0 n2 f2 n4 f4 n6 f6 n8 f8 hm hn 0 (by omega) (fun j h => by omega)
theorem ev44_0 (n0 : Nat) (f0 : FnV) (n2 : Nat) (f2 : FnV) (n4 : Nat) (f4 : FnV) (n6 : Nat) (f6 : FnV) (n8 : Nat) (f8 : FnV) (hp : (SzOk n0 f0 /\ SzOk n6 f6) /\ n8 % 2 = 0 /\ n8 <= 100) : evR (Ev (st44 n0 f0 n2 f2 n4 f4 n6 f6 n8 f8)) (m44 n0 f0 n2 f2 n4 f4 n6 f6 n8 f8) (.int .i64 (F44 n0 f0 n2 f2 n4 f4 n6 f6 n8 f8)) := evObp hp.1 (evObt (evEnter (c44_2 n0 f0 n2 f2 n4 f4 n6 f6 n8 f8 hp.2.1 hp.2.2 _)))
theorem ev44 (n0 : Nat) (f0 : FnV) (n2 : Nat) (f2 : FnV) (n4 : Nat) (f4 : FnV) (n6 : Nat) (f6 : FnV) (n8 : Nat) (f8 : FnV) (hp : (SzOk n0 (elV tyR f0) /\ SzOk n6 (elV tyC f6)) /\ n8 % 2 = 0 /\ n8 <= 100) : evR (Ev (st44 n0 f0 n2 f2 n4 f4 n6 f6 n8 f8)) (m44 n0 f0 n2 f2 n4 f4 n6 f6 n8 f8) (.int .i64 (F44 n0 (elV tyR f0) n2 (elV tyT f2) n4 (elV tyF f4) n6 (elV tyC f6) n8 (elV tp1 f8))) := ev44_0 n0 f0 n2 f2 n4 f4 n6 f6 n8 f8 hp
def C44 : PCon := mkC [.agg [.sl tyR, .sl tyT, .sl tyF, .sl tyC], .sl tp1] (fun
 | [.agg [.sl n0 f0, .sl n2 f2, .sl n4 f4, .sl n6 f6], .sl n8 f8] => (SzOk n0 f0 /\ SzOk n6 f6) /\ n8 % 2 = 0 /\ n8 <= 100
 | _ => False) fun
 | [.agg [.sl n0 f0, .sl n2 f2, .sl n4 f4, .sl n6 f6], .sl n8 f8] => .int .i64 (F44 n0 f0 n2 f2 n4 f4 n6 f6 n8 f8)
 | _ => .any
theorem ok44 : (vP C44).Ok Tryz.prog 44 := mkE tabB13 Tryz.func44 (by kernel_rfl) fun ds hp => rfs (run44 ..) (ev44 _ _ _ _ _ _ _ _ _ _ hp)
def F91_0 (n0 : Nat) (f0 : FnV) (n2 : Nat) (f2 : FnV) (n4 : Nat) (f4 : FnV) (n6 : Nat) (f6 : FnV) : Int := F24_2 n0 (elV tyR f0) n2 (elV tyT f2) n4 (elV tyF f4) n6 (elV tyC f6)
end
noncomputable section
def ctB14 : CTab := (44, .con C44) :: ctB13
theorem tabB14 : TabOk Tryz.prog eqs its ctB14 := .con ok44 (tabB13)
def F50_0 (n0 : Nat) (f0 : FnV) (n2 : Nat) (f2 : FnV) (n4 : Nat) (f4 : FnV) (n6 : Nat) (f6 : FnV) (x8 x9 : Int) : Int := bif bif F91_0 n0 (elV tyR f0) n2 (elV tyT f2) n4 (elV tyF f4) n6 (elV tyC f6) == 0 then bif decide (x8 < 0) then true else decide (x9 <= x8) else false then 4 else F91_0 n0 (elV tyR f0) n2 (elV tyT f2) n4 (elV tyF f4) n6 (elV tyC f6)
end
end Go.Dx
namespace Go.Dx
open Go.IntKind (i64 u64 u8)
open Go.Sx
noncomputable section
theorem outI_in {i : Int} {m : Nat} {f8 : Nat -> List V} {k : Nat} (hm : m <= 9223372036854775807) (h1 : jv0 (f8 (2 * k)) = i) (h2 : jv0 (f8 (2 * k + 1)) = (m : Int)) (h : outI f8 k = false) : 0 <= i /\ i < m := by
 unfold outI F86_0 at h
 rw [h1, h2, wrapI (by omega) (by omega)] at h
 cases hb : decide (i < 0) with
 | true => rw [hb] at h; cases h
 | false =>
   rw [hb, cond_false] at h
   have a := of_decide_eq_false hb
   have b := of_decide_eq_false h
   omega
theorem outs_in {n8 : Nat} {f8 : Nat -> List V} {e : Int} (h : outs n8 f8 e = 0) : e = 0 /\ ∀ k, k < n8 / 2 -> outI f8 k = false := by
 unfold outs at h
 cases he : e == 0 with
 | false =>
   rw [he, cond_false] at h
   subst h; cases he
 | true =>
   rw [he, cond_true] at h
   refine ⟨eq_of_beq he, fun k hk => ?_⟩
   cases ho : outI f8 k with
   | false => rfl
   | true => rw [exB_true k hk ho] at h; cases h
section
variable {n0 : Nat} {f0 : Nat -> List V} {n2 : Nat} {f2 : Nat -> List V} {n4 : Nat} {f4 : Nat -> List V} {n6 : Nat} {f6 : Nat -> List V} {i j : Int} {m l : Nat}
theorem k44_2 (hm : m <= 9223372036854775807) (h : F44 n0 f0 n2 f2 n4 f4 n6 f6 2 (elV tp1 (secF [vi i, vi m] 0 1)) = 0) : 0 <= i /\ i < m :=
 outI_in (k := 0) hm rfl rfl ((outs_in h).2 0 (by omega))
theorem k44_4 (hm : m <= 9223372036854775807) (hl : l <= 9223372036854775807) (h : F44 n0 f0 n2 f2 n4 f4 n6 f6 4 (elV tp1 (secF [vi i, vi m, vi j, vi l] 0 1)) = 0) : (0 <= i /\ i < m) /\ (0 <= j /\ j < l) :=
 ⟨outI_in (k := 0) hm rfl rfl ((outs_in h).2 0 (by omega)), outI_in (k := 1) hl rfl rfl ((outs_in h).2 1 (by omega))⟩
theorem k50 (h : F50_0 n0 f0 n2 f2 n4 f4 n6 f6 i j = 0) : 0 <= i /\ i < j := by
 unfold F50_0 at h
 generalize F91_0 _ _ _ _ _ _ _ _ = e at h
 cases he : e == 0 with
 | false => rw [he] at h; simp only [cond_false] at h; subst h; cases he
 | true =>
   rw [he, cond_true] at h
   cases hb : decide (i < 0) with
   | true => rw [hb] at h; cases h
   | false =>
     rw [hb, cond_false] at h
     cases hc : decide (j <= i) with
     | true => rw [hc] at h; cases h
     | false => have := of_decide_eq_false hb; have := of_decide_eq_false hc; omega
end
end
end Go.Dx
namespace Go.Dx
open Go.IntKind (i64 u64 u8)
open Go.Sx Go.Proofs
noncomputable section
def ctB15 : CTab := ctB14
theorem tabB15 : TabOk Tryz.prog eqs its ctB15 := tabB14
attribute [local irreducible] F44 F50_0 F91_0
end
end Go.Dx
namespace Go.Dx
open Go.IntKind (i64 u64 u8)
open Go.Sx Go.Proofs
noncomputable section
def ctB16 : CTab := ctB15
theorem tabB16 : TabOk Tryz.prog eqs its ctB16 := tabB15
def m140 (x0 x1 x2 x3 : Int) : RT Empty := .br (x0 != x2) (.ret (vi (i64.wrap (x0 - x2)))) (.ret (vi (i64.wrap (x1 - x3))))
theorem run140 (x0 x1 x2 x3 : Int) : Fit noD (runL JJ ctB16 u0 s140 [V.agg [vi x0, vi x1], V.agg [vi x2, vi x3]]) (m140 x0 x1 x2 x3) := ⟨by kernel_rfl, by kernel_rfl⟩
def F140_0 (x0 x1 x2 x3 : Int) : Int := bif x0 != x2 then i64.wrap (x0 - x2) else i64.wrap (x1 - x3)
def R140 (x0 x1 x2 x3 : Int) : V := .int i64 (F140_0 x0 x1 x2 x3)
theorem ev140 (x0 x1 x2 x3 : Int) : evR noE (m140 x0 x1 x2 x3) (R140 x0 x1 x2 x3) := evBr (fun h0 => evRet (by unfold R140 F140_0; try rw [h0]; rfl)) (fun h0 => evRet (by unfold R140 F140_0; try rw [h0]; rfl))
def C140 : PCon := mkC [.agg tp2, .agg tp2] (fun _ => True) fun
 | [.agg [.int _ x0, .int _ x1], .agg [.int _ x2, .int _ x3]] => R140 x0 x1 x2 x3
 | _ => .any
theorem ok140 : (vP C140).Ok Tryz.prog 140 := mkE tabB16 Tryz.func140 (by kernel_rfl) fun ds hp => rf0 (run140 ..) (ev140 _ _ _ _)
def m49 (x0 x1 x2 x3 x4 x5 x6 x7 : Int) (b8 : Bool) (x9 x10 : Int) : RT Empty := .obi (.br (!b8) (.ob (!b8) (.ob (!b8) (.ob (!b8) (.obc (.obt (.obc (.obt (.obc (.obt (.ret (V.bool (F103_0 (F102_0 x0 x2 x9 x3) (F102_1 x1 x2 x10 x3) (F102_0 x0 x2 x9 x4) (F102_1 x1 x2 x10 x4) x5 x6 x7)))))))))))) (.ret (V.kb false)))
theorem run49 (x0 x1 x2 x3 x4 x5 x6 x7 : Int) (b8 : Bool) (x9 x10 : Int) : Fit noD (runL JJ ctB16 u0 s49 [V.agg [vi x0, vi x1, vi x2, vi x3, vi x4, vi x5, vi x6, vi x7, V.bool b8], V.agg [vi x9, vi x10]]) (m49 x0 x1 x2 x3 x4 x5 x6 x7 b8 x9 x10) := ⟨by kernel_rfl, by kernel_rfl⟩
def F49_0 (x0 x1 x2 x3 x4 x5 x6 x7 : Int) (b8 : Bool) (x9 x10 : Int) : Bool := bif !b8 then F103_0 (F102_0 x0 x2 x9 x3) (F102_1 x1 x2 x10 x3) (F102_0 x0 x2 x9 x4) (F102_1 x1 x2 x10 x4) x5 x6 x7 else false
def R49 (x0 x1 x2 x3 x4 x5 x6 x7 : Int) (b8 : Bool) (x9 x10 : Int) : V := .bool (F49_0 x0 x1 x2 x3 x4 x5 x6 x7 b8 x9 x10)
theorem ev49 (x0 x1 x2 x3 x4 x5 x6 x7 : Int) (b8 : Bool) (x9 x10 : Int) : evR noE (m49 x0 x1 x2 x3 x4 x5 x6 x7 b8 x9 x10) (R49 x0 x1 x2 x3 x4 x5 x6 x7 b8 x9 x10) := evObi (evBr (fun h0 => evOb (by first | assumption | (fail)) (evOb (by first | assumption | (fail)) (evOb (by first | assumption | (fail)) (evObc (evObt (evObc (evObt (evObc (evObt (evRet (by unfold R49 F49_0; try rw [h0]; rfl))))))))))) (fun h0 => evRet (by unfold R49 F49_0; try rw [h0]; rfl)))
def C49 : PCon := mkC [.agg [.int .i64, .int .i64, .int .i64, .int .i64, .int .i64, .int .i64, .int .i64, .int .i64, .bool], .agg tp2] (fun _ => True) fun
 | [.agg [.int _ x0, .int _ x1, .int _ x2, .int _ x3, .int _ x4, .int _ x5, .int _ x6, .int _ x7, .bool b8], .agg [.int _ x9, .int _ x10]] => R49 x0 x1 x2 x3 x4 x5 x6 x7 b8 x9 x10
 | _ => .any
theorem ok49 : (vP C49).Ok Tryz.prog 49 := mkE tabB16 Tryz.func49 (by kernel_rfl) fun ds hp => rf0 (run49 ..) (ev49 _ _ _ _ _ _ _ _ _ _ _)
def m123 (x0 x1 x2 x3 x4 x5 x6 : Int) : RT Empty := .obc (.obt (.ret (V.bool (F103_0 x0 x1 x2 x3 (i64.wrap (2 * x5)) (i64.wrap (2 * x6)) x4))))
theorem run123 (x0 x1 x2 x3 x4 x5 x6 : Int) : Fit noD (runL JJ ctB16 u0 s123 [V.agg [vi x0, vi x1, vi x2, vi x3, vi x4], vi x5, vi x6]) (m123 x0 x1 x2 x3 x4 x5 x6) := ⟨by kernel_rfl, by kernel_rfl⟩
def F123_0 (x0 x1 x2 x3 x4 x5 x6 : Int) : Bool := F103_0 x0 x1 x2 x3 (i64.wrap (2 * x5)) (i64.wrap (2 * x6)) x4
def R123 (x0 x1 x2 x3 x4 x5 x6 : Int) : V := .bool (F123_0 x0 x1 x2 x3 x4 x5 x6)
theorem ev123 (x0 x1 x2 x3 x4 x5 x6 : Int) : evR noE (m123 x0 x1 x2 x3 x4 x5 x6) (R123 x0 x1 x2 x3 x4 x5 x6) := evObc (evObt (evRet (by unfold R123 F123_0; rfl)))
def C123 : PCon := mkC [.agg tyT, .int .i64, .int .i64] (fun _ => True) fun
 | [.agg [.int _ x0, .int _ x1, .int _ x2, .int _ x3, .int _ x4], .int _ x5, .int _ x6] => R123 x0 x1 x2 x3 x4 x5 x6
 | _ => .any
theorem ok123 : (vP C123).Ok Tryz.prog 123 := mkE tabB16 Tryz.func123 (by kernel_rfl) fun ds hp => rf0 (run123 ..) (ev123 _ _ _ _ _ _ _)
end
noncomputable section
def ctB16a : CTab := (140, .con C140) :: (49, .con C49) :: (123, .con C123) :: ctB16
theorem tabB16a : TabOk Tryz.prog eqs its ctB16a := .con ok140 (.con ok49 (.con ok123 (tabB16)))
def u5 : Unr := fun _ => 5
def m145 (x0 x1 x2 x3 x4 x5 x6 x7 x8 : Int) : RT Empty := .obi (.obi (.obi (.obi (.obi (.obi (.obi (.obi (.obi (.obi (.obi (.obi (.obi (.obi (.obi (.obi (.obi (.obi (.obi (.obi (.obi (.obi (.obi (.obi (.obi (.obi (.obi (.obi (.obi (.obi (.obi (.obi (.obi (.obi (.obi (.obi (.obi (.obi (.obi (.br (bif bif bif decide (max x0 x2 < i64.wrap (2 * x5)) then true else decide (i64.wrap (2 * x7) < min x0 x2) then true else decide (max x1 x3 < i64.wrap (2 * x6)) then true else decide (i64.wrap (2 * x8) < min x1 x3)) (.ret (V.kb false)) (.obc (.obt (.brt (.obt (.obc (.obt (.obc (.obt (.brt (.obt (.obc (.obt (.obc (.obt (.obi (.obi (.obi (.obi (.brt (.obt (.obc (.obt (.obc (.obt (.obi (.obi (.obi (.obi (.brt (.obt (.obc (.obt (.obc (.obt (.obi (.obi (.obi (.obi (.brf (.obi (.ret (V.bool (bif bif bif bif decide (0 <= F78_0 x0 x1 x2 x3 (F101_0 x5 2) (F101_1 x6 2)) then true else decide (0 <= F78_0 x0 x1 x2 x3 (F101_0 x7 2) (F101_1 x6 2)) then true else decide (0 <= F78_0 x0 x1 x2 x3 (F101_0 x7 2) (F101_1 x8 2)) then true else decide (0 <= F78_0 x0 x1 x2 x3 (F101_0 x5 2) (F101_1 x8 2)) then bif bif bif decide (F78_0 x0 x1 x2 x3 (F101_0 x5 2) (F101_1 x6 2) <= 0) then true else decide (F78_0 x0 x1 x2 x3 (F101_0 x7 2) (F101_1 x6 2) <= 0) then true else decide (F78_0 x0 x1 x2 x3 (F101_0 x7 2) (F101_1 x8 2) <= 0) then true else decide (F78_0 x0 x1 x2 x3 (F101_0 x5 2) (F101_1 x8 2) <= 0) else false))))))))))))))))))))))))))))))))))))))))))))))))))))))))))))))))))))))))))))))))))
theorem run145 (x0 x1 x2 x3 x4 x5 x6 x7 x8 : Int) : Fit noD (runL JJ ctB16a u5 s145 [V.agg [vi x0, vi x1, vi x2, vi x3, vi x4], V.agg [vi x5, vi x6, vi x7, vi x8]]) (m145 x0 x1 x2 x3 x4 x5 x6 x7 x8) := ⟨by kernel_rfl, by kernel_rfl⟩
def F145_0 (x0 x1 x2 x3 x5 x6 x7 x8 : Int) : Bool := bif bif bif bif decide (max x0 x2 < i64.wrap (2 * x5)) then true else decide (i64.wrap (2 * x7) < min x0 x2) then true else decide (max x1 x3 < i64.wrap (2 * x6)) then true else decide (i64.wrap (2 * x8) < min x1 x3) then false else bif bif bif bif decide (0 <= F78_0 x0 x1 x2 x3 (F101_0 x5 2) (F101_1 x6 2)) then true else decide (0 <= F78_0 x0 x1 x2 x3 (F101_0 x7 2) (F101_1 x6 2)) then true else decide (0 <= F78_0 x0 x1 x2 x3 (F101_0 x7 2) (F101_1 x8 2)) then true else decide (0 <= F78_0 x0 x1 x2 x3 (F101_0 x5 2) (F101_1 x8 2)) then bif bif bif decide (F78_0 x0 x1 x2 x3 (F101_0 x5 2) (F101_1 x6 2) <= 0) then true else decide (F78_0 x0 x1 x2 x3 (F101_0 x7 2) (F101_1 x6 2) <= 0) then true else decide (F78_0 x0 x1 x2 x3 (F101_0 x7 2) (F101_1 x8 2) <= 0) then true else decide (F78_0 x0 x1 x2 x3 (F101_0 x5 2) (F101_1 x8 2) <= 0) else false
def R145 (x0 x1 x2 x3 x4 x5 x6 x7 x8 : Int) : V := .bool (F145_0 x0 x1 x2 x3 x5 x6 x7 x8)
theorem ev145 (x0 x1 x2 x3 x4 x5 x6 x7 x8 : Int) : evR noE (m145 x0 x1 x2 x3 x4 x5 x6 x7 x8) (R145 x0 x1 x2 x3 x4 x5 x6 x7 x8) := evObi (evObi (evObi (evObi (evObi (evObi (evObi (evObi (evObi (evObi (evObi (evObi (evObi (evObi (evObi (evObi (evObi (evObi (evObi (evObi (evObi (evObi (evObi (evObi (evObi (evObi (evObi (evObi (evObi (evObi (evObi (evObi (evObi (evObi (evObi (evObi (evObi (evObi (evObi (evBr (fun h0 => evRet (by unfold R145 F145_0; try rw [h0]; rfl)) (fun h0 => evObc (evObt (evBrt (evObt (evObc (evObt (evObc (evObt (evBrt (evObt (evObc (evObt (evObc (evObt (evObi (evObi (evObi (evObi (evBrt (evObt (evObc (evObt (evObc (evObt (evObi (evObi (evObi (evObi (evBrt (evObt (evObc (evObt (evObc (evObt (evObi (evObi (evObi (evObi (evBrf (evObi (evRet (by unfold R145 F145_0; try rw [h0]; rfl)))))))))))))))))))))))))))))))))))))))))))))))))))))))))))))))))))))))))))))))))
def C145 : PCon := mkC [.agg tyT, .agg tp4] (fun _ => True) fun
 | [.agg [.int _ x0, .int _ x1, .int _ x2, .int _ x3, .int _ x4], .agg [.int _ x5, .int _ x6, .int _ x7, .int _ x8]] => R145 x0 x1 x2 x3 x4 x5 x6 x7 x8
 | _ => .any
theorem ok145 : (vP C145).Ok Tryz.prog 145 := mkE tabB16a Tryz.func145 (by kernel_rfl) fun ds hp => rf0 (run145 ..) (ev145 _ _ _ _ _ _ _ _ _)
end
noncomputable section
def ctB16b : CTab := (145, .con C145) :: ctB16a
theorem tabB16b : TabOk Tryz.prog eqs its ctB16b := .con ok145 (tabB16a)
def m111 (x0 x1 x2 x3 x4 x5 x6 x7 x8 : Int) : RT Empty := .obc (.obt (.brt (.obt (.obc (.obt (.br (F123_0 x0 x1 x2 x3 x4 x5 x6) (.brt (.obt (.obc (.obt (.br (F123_0 x0 x1 x2 x3 x4 x7 x6) (.brt (.obt (.obc (.obt (.br (F123_0 x0 x1 x2 x3 x4 x7 x8) (.brt (.obt (.obc (.obt (.br (F123_0 x0 x1 x2 x3 x4 x5 x8) (.brf (.brt (.ret (vi 2)))) (.brf (.brf (.brt (.ret (vi 1)))))))))) (.brt (.obt (.obc (.obt (.br (F123_0 x0 x1 x2 x3 x4 x5 x8) (.brf (.brf (.brt (.ret (vi 1))))) (.brf (.brf (.brt (.ret (vi 1))))))))))))))) (.brt (.obt (.obc (.obt (.br (F123_0 x0 x1 x2 x3 x4 x7 x8) (.brt (.obt (.obc (.obt (.br (F123_0 x0 x1 x2 x3 x4 x5 x8) (.brf (.brf (.brt (.ret (vi 1))))) (.brf (.brf (.brt (.ret (vi 1)))))))))) (.brt (.obt (.obc (.obt (.br (F123_0 x0 x1 x2 x3 x4 x5 x8) (.brf (.brf (.brt (.ret (vi 1))))) (.brf (.brf (.brt (.ret (vi 1)))))))))))))))))))) (.brt (.obt (.obc (.obt (.br (F123_0 x0 x1 x2 x3 x4 x7 x6) (.brt (.obt (.obc (.obt (.br (F123_0 x0 x1 x2 x3 x4 x7 x8) (.brt (.obt (.obc (.obt (.br (F123_0 x0 x1 x2 x3 x4 x5 x8) (.brf (.brf (.brt (.ret (vi 1))))) (.brf (.brf (.brt (.ret (vi 1)))))))))) (.brt (.obt (.obc (.obt (.br (F123_0 x0 x1 x2 x3 x4 x5 x8) (.brf (.brf (.brt (.ret (vi 1))))) (.brf (.brf (.brt (.ret (vi 1))))))))))))))) (.brt (.obt (.obc (.obt (.br (F123_0 x0 x1 x2 x3 x4 x7 x8) (.brt (.obt (.obc (.obt (.br (F123_0 x0 x1 x2 x3 x4 x5 x8) (.brf (.brf (.brt (.ret (vi 1))))) (.brf (.brf (.brt (.ret (vi 1)))))))))) (.brt (.obt (.obc (.obt (.br (F123_0 x0 x1 x2 x3 x4 x5 x8) (.brf (.brf (.brt (.ret (vi 1))))) (.brf (.brf (.brf (.brt (.obt (.obc (.obt (.br (decide (F85_0 (max (max (i64.wrap (i64.wrap (2 * x5) - x0)) 0) (i64.wrap (x0 - i64.wrap (2 * x7)))) (max (max (i64.wrap (i64.wrap (2 * x6) - x1)) 0) (i64.wrap (x1 - i64.wrap (2 * x8)))) (max (max (i64.wrap (i64.wrap (2 * x5) - x0)) 0) (i64.wrap (x0 - i64.wrap (2 * x7)))) (max (max (i64.wrap (i64.wrap (2 * x6) - x1)) 0) (i64.wrap (x1 - i64.wrap (2 * x8)))) <= i64.wrap (x4 * x4))) (.ret (vi 1)) (.brt (.obt (.obc (.obt (.br (decide (F85_0 (max (max (i64.wrap (i64.wrap (2 * x5) - x2)) 0) (i64.wrap (x2 - i64.wrap (2 * x7)))) (max (max (i64.wrap (i64.wrap (2 * x6) - x3)) 0) (i64.wrap (x3 - i64.wrap (2 * x8)))) (max (max (i64.wrap (i64.wrap (2 * x5) - x2)) 0) (i64.wrap (x2 - i64.wrap (2 * x7)))) (max (max (i64.wrap (i64.wrap (2 * x6) - x3)) 0) (i64.wrap (x3 - i64.wrap (2 * x8)))) <= i64.wrap (x4 * x4))) (.ret (vi 1)) (.brf (.obc (.obt (.br (F145_0 x0 x1 x2 x3 x5 x6 x7 x8) (.ret (vi 1)) (.ret (vi 0))))))))))))))))))))))))))))))))))))))))
theorem run111 (x0 x1 x2 x3 x4 x5 x6 x7 x8 : Int) : Fit noD (runL JJ ctB16b u5 s111 [V.agg [vi x0, vi x1, vi x2, vi x3, vi x4], V.agg [vi x5, vi x6, vi x7, vi x8]]) (m111 x0 x1 x2 x3 x4 x5 x6 x7 x8) := ⟨by kernel_rfl, by kernel_rfl⟩
def F111_0 (x0 x1 x2 x3 x4 x5 x6 x7 x8 : Int) : Int := bif F123_0 x0 x1 x2 x3 x4 x5 x6 then bif F123_0 x0 x1 x2 x3 x4 x7 x6 then bif F123_0 x0 x1 x2 x3 x4 x7 x8 then bif F123_0 x0 x1 x2 x3 x4 x5 x8 then 2 else 1 else 1 else 1 else bif F123_0 x0 x1 x2 x3 x4 x7 x6 then 1 else bif F123_0 x0 x1 x2 x3 x4 x7 x8 then 1 else bif F123_0 x0 x1 x2 x3 x4 x5 x8 then 1 else bif decide (F85_0 (max (max (i64.wrap (i64.wrap (2 * x5) - x0)) 0) (i64.wrap (x0 - i64.wrap (2 * x7)))) (max (max (i64.wrap (i64.wrap (2 * x6) - x1)) 0) (i64.wrap (x1 - i64.wrap (2 * x8)))) (max (max (i64.wrap (i64.wrap (2 * x5) - x0)) 0) (i64.wrap (x0 - i64.wrap (2 * x7)))) (max (max (i64.wrap (i64.wrap (2 * x6) - x1)) 0) (i64.wrap (x1 - i64.wrap (2 * x8)))) <= i64.wrap (x4 * x4)) then 1 else bif decide (F85_0 (max (max (i64.wrap (i64.wrap (2 * x5) - x2)) 0) (i64.wrap (x2 - i64.wrap (2 * x7)))) (max (max (i64.wrap (i64.wrap (2 * x6) - x3)) 0) (i64.wrap (x3 - i64.wrap (2 * x8)))) (max (max (i64.wrap (i64.wrap (2 * x5) - x2)) 0) (i64.wrap (x2 - i64.wrap (2 * x7)))) (max (max (i64.wrap (i64.wrap (2 * x6) - x3)) 0) (i64.wrap (x3 - i64.wrap (2 * x8)))) <= i64.wrap (x4 * x4)) then 1 else bif F145_0 x0 x1 x2 x3 x5 x6 x7 x8 then 1 else 0
def R111 (x0 x1 x2 x3 x4 x5 x6 x7 x8 : Int) : V := .int i64 (F111_0 x0 x1 x2 x3 x4 x5 x6 x7 x8)
theorem ev111 (x0 x1 x2 x3 x4 x5 x6 x7 x8 : Int) : evR noE (m111 x0 x1 x2 x3 x4 x5 x6 x7 x8) (R111 x0 x1 x2 x3 x4 x5 x6 x7 x8) := evObc (evObt (evBrt (evObt (evObc (evObt (evBr (fun h0 => evBrt (evObt (evObc (evObt (evBr (fun h1 => evBrt (evObt (evObc (evObt (evBr (fun h2 => evBrt (evObt (evObc (evObt (evBr (fun h3 => evBrf (evBrt (evRet (by unfold R111 F111_0; try rw [h0]; try rw [h1]; try rw [h2]; try rw [h3]; rfl)))) (fun h3 => evBrf (evBrf (evBrt (evRet (by unfold R111 F111_0; try rw [h0]; try rw [h1]; try rw [h2]; try rw [h3]; rfl)))))))))) (fun h2 => evBrt (evObt (evObc (evObt (evBr (fun h3 => evBrf (evBrf (evBrt (evRet (by unfold R111 F111_0; try rw [h0]; try rw [h1]; try rw [h2]; try rw [h3]; rfl))))) (fun h3 => evBrf (evBrf (evBrt (evRet (by unfold R111 F111_0; try rw [h0]; try rw [h1]; try rw [h2]; try rw [h3]; rfl))))))))))))))) (fun h1 => evBrt (evObt (evObc (evObt (evBr (fun h2 => evBrt (evObt (evObc (evObt (evBr (fun h3 => evBrf (evBrf (evBrt (evRet (by unfold R111 F111_0; try rw [h0]; try rw [h1]; try rw [h2]; try rw [h3]; rfl))))) (fun h3 => evBrf (evBrf (evBrt (evRet (by unfold R111 F111_0; try rw [h0]; try rw [h1]; try rw [h2]; try rw [h3]; rfl)))))))))) (fun h2 => evBrt (evObt (evObc (evObt (evBr (fun h3 => evBrf (evBrf (evBrt (evRet (by unfold R111 F111_0; try rw [h0]; try rw [h1]; try rw [h2]; try rw [h3]; rfl))))) (fun h3 => evBrf (evBrf (evBrt (evRet (by unfold R111 F111_0; try rw [h0]; try rw [h1]; try rw [h2]; try rw [h3]; rfl)))))))))))))))))))) (fun h0 => evBrt (evObt (evObc (evObt (evBr (fun h1 => evBrt (evObt (evObc (evObt (evBr (fun h2 => evBrt (evObt (evObc (evObt (evBr (fun h3 => evBrf (evBrf (evBrt (evRet (by unfold R111 F111_0; try rw [h0]; try rw [h1]; try rw [h2]; try rw [h3]; rfl))))) (fun h3 => evBrf (evBrf (evBrt (evRet (by unfold R111 F111_0; try rw [h0]; try rw [h1]; try rw [h2]; try rw [h3]; rfl)))))))))) (fun h2 => evBrt (evObt (evObc (evObt (evBr (fun h3 => evBrf (evBrf (evBrt (evRet (by unfold R111 F111_0; try rw [h0]; try rw [h1]; try rw [h2]; try rw [h3]; rfl))))) (fun h3 => evBrf (evBrf (evBrt (evRet (by unfold R111 F111_0; try rw [h0]; try rw [h1]; try rw [h2]; try rw [h3]; rfl))))))))))))))) (fun h1 => evBrt (evObt (evObc (evObt (evBr (fun h2 => evBrt (evObt (evObc (evObt (evBr (fun h3 => evBrf (evBrf (evBrt (evRet (by unfold R111 F111_0; try rw [h0]; try rw [h1]; try rw [h2]; try rw [h3]; rfl))))) (fun h3 => evBrf (evBrf (evBrt (evRet (by unfold R111 F111_0; try rw [h0]; try rw [h1]; try rw [h2]; try rw [h3]; rfl)))))))))) (fun h2 => evBrt (evObt (evObc (evObt (evBr (fun h3 => evBrf (evBrf (evBrt (evRet (by unfold R111 F111_0; try rw [h0]; try rw [h1]; try rw [h2]; try rw [h3]; rfl))))) (fun h3 => evBrf (evBrf (evBrf (evBrt (evObt (evObc (evObt (evBr (fun h4 => evRet (by unfold R111 F111_0; try rw [h0]; try rw [h1]; try rw [h2]; try rw [h3]; try rw [h4]; rfl)) (fun h4 => evBrt (evObt (evObc (evObt (evBr (fun h5 => evRet (by unfold R111 F111_0; try rw [h0]; try rw [h1]; try rw [h2]; try rw [h3]; try rw [h4]; try rw [h5]; rfl)) (fun h5 => evBrf (evObc (evObt (evBr (fun h6 => evRet (by unfold R111 F111_0; try rw [h0]; try rw [h1]; try rw [h2]; try rw [h3]; try rw [h4]; try rw [h5]; try rw [h6]; rfl)) (fun h6 => evRet (by unfold R111 F111_0; try rw [h0]; try rw [h1]; try rw [h2]; try rw [h3]; try rw [h4]; try rw [h5]; try rw [h6]; rfl))))))))))))))))))))))))))))))))))))))))
def C111 : PCon := mkC [.agg tyT, .agg tp4] (fun _ => True) fun
 | [.agg [.int _ x0, .int _ x1, .int _ x2, .int _ x3, .int _ x4], .agg [.int _ x5, .int _ x6, .int _ x7, .int _ x8]] => R111 x0 x1 x2 x3 x4 x5 x6 x7 x8
 | _ => .any
theorem ok111 : (vP C111).Ok Tryz.prog 111 := mkE tabB16b Tryz.func111 (by kernel_rfl) fun ds hp => rf0 (run111 ..) (ev111 _ _ _ _ _ _ _ _ _)
def m56 (x0 x1 x2 x3 x4 x5 x6 x7 x8 x9 : Int) (b10 : Bool) : RT Empty := .obc (.obt (.ret (V.bool !F49_0 x2 x3 x4 x5 x6 x7 x8 x9 b10 x0 x1)))
theorem run56 (x0 x1 x2 x3 x4 x5 x6 x7 x8 x9 : Int) (b10 : Bool) : Fit noD (runL JJ ctB16b u0 s56 [V.agg [vi x0, vi x1], V.pd [vi x2, vi x3, vi x4, vi x5, vi x6, vi x7, vi x8, vi x9, V.bool b10]]) (m56 x0 x1 x2 x3 x4 x5 x6 x7 x8 x9 b10) := ⟨by kernel_rfl, by kernel_rfl⟩
def F56_0 (x0 x1 x2 x3 x4 x5 x6 x7 x8 x9 : Int) (b10 : Bool) : Bool := !F49_0 x2 x3 x4 x5 x6 x7 x8 x9 b10 x0 x1
def R56 (x0 x1 x2 x3 x4 x5 x6 x7 x8 x9 : Int) (b10 : Bool) : V := .bool (F56_0 x0 x1 x2 x3 x4 x5 x6 x7 x8 x9 b10)
theorem ev56 (x0 x1 x2 x3 x4 x5 x6 x7 x8 x9 : Int) (b10 : Bool) : evR noE (m56 x0 x1 x2 x3 x4 x5 x6 x7 x8 x9 b10) (R56 x0 x1 x2 x3 x4 x5 x6 x7 x8 x9 b10) := evObc (evObt (evRet (by unfold R56 F56_0; rfl)))
def C56 : PCon := mkC [.agg tp2, .pd [.int .i64, .int .i64, .int .i64, .int .i64, .int .i64, .int .i64, .int .i64, .int .i64, .bool]] (fun _ => True) fun
 | [.agg [.int _ x0, .int _ x1], .pd [.int _ x2, .int _ x3, .int _ x4, .int _ x5, .int _ x6, .int _ x7, .int _ x8, .int _ x9, .bool b10]] => R56 x0 x1 x2 x3 x4 x5 x6 x7 x8 x9 b10
 | _ => .any
theorem ok56 : (vP C56).Ok Tryz.prog 56 := mkE tabB16b Tryz.func56 (by kernel_rfl) fun ds hp => rf0 (run56 ..) (ev56 _ _ _ _ _ _ _ _ _ _ _)
def m47 (x0 x1 x2 x3 x4 : Int) (n5 : Nat) (f5 : FnV) (n7 : Nat) (f7 : FnV) (n9 : Nat) (f9 : FnV) (n11 : Nat) (f11 : FnV) (x13 x14 x15 : Int) : RT Empty := .ob (decide (0 <= x13 /\ x13 < (↑n11 : Int))) (.obc (.obt (.obc (.obt (.ret (V.bool (F49_0 (jv1 (f11 x13.toNat)) (jv2 (f11 x13.toNat)) (jv3 (f11 x13.toNat)) (F48_0 (jv3 (f11 x13.toNat)) x4) (F48_1 (jv3 (f11 x13.toNat)) x3) (F48_2 (jv3 (f11 x13.toNat)) x0) (F48_3 (jv3 (f11 x13.toNat)) x1) (F48_4 (jv3 (f11 x13.toNat)) x2) (F48_5 (jv3 (f11 x13.toNat)) x3) x14 x15)))))))
theorem run47 (x0 x1 x2 x3 x4 : Int) (n5 : Nat) (f5 : FnV) (n7 : Nat) (f7 : FnV) (n9 : Nat) (f9 : FnV) (n11 : Nat) (f11 : FnV) (x13 x14 x15 : Int) : Fit noD (runL JJ ctB16b u0 s47 [V.agg [vi x0, vi x1, vi x2, vi x3, vi x4], V.pd [V.sl n5 (elV tyR f5), V.sl n7 (elV tyT f7), V.sl n9 (elV tyF f9), V.sl n11 (elV tyC f11)], V.pd [vi x13], V.pd [vi x14], V.pd [vi x15]]) (m47 x0 x1 x2 x3 x4 n5 f5 n7 f7 n9 f9 n11 f11 x13 x14 x15) := ⟨by kernel_rfl, by kernel_rfl⟩
def F47_0 (x0 x1 x2 x3 x4 : Int) (f11 : FnV) (x13 x14 x15 : Int) : Bool := F49_0 (jv1 (f11 x13.toNat)) (jv2 (f11 x13.toNat)) (jv3 (f11 x13.toNat)) (F48_0 (jv3 (f11 x13.toNat)) x4) (F48_1 (jv3 (f11 x13.toNat)) x3) (F48_2 (jv3 (f11 x13.toNat)) x0) (F48_3 (jv3 (f11 x13.toNat)) x1) (F48_4 (jv3 (f11 x13.toNat)) x2) (F48_5 (jv3 (f11 x13.toNat)) x3) x14 x15
def R47 (x0 x1 x2 x3 x4 : Int) (n5 : Nat) (f5 : FnV) (n7 : Nat) (f7 : FnV) (n9 : Nat) (f9 : FnV) (n11 : Nat) (f11 : FnV) (x13 x14 x15 : Int) : V := .bool (F47_0 x0 x1 x2 x3 x4 f11 x13 x14 x15)
theorem ev47 (x0 x1 x2 x3 x4 : Int) (n5 : Nat) (f5 : FnV) (n7 : Nat) (f7 : FnV) (n9 : Nat) (f9 : FnV) (n11 : Nat) (f11 : FnV) (x13 x14 x15 : Int) (hp : 0 <= x13 /\ x13 < (n11 : Int)) : evR noE (m47 x0 x1 x2 x3 x4 n5 f5 n7 f7 n9 f9 n11 f11 x13 x14 x15) (R47 x0 x1 x2 x3 x4 n5 f5 n7 f7 n9 f9 n11 f11 x13 x14 x15) := evOb (by first | assumption | (exact dqt hp)) (evObc (evObt (evObc (evObt (evRet (by unfold R47 F47_0; rfl))))))
def C47 : PCon := mkC [.agg tyT, .pd [.sl tyR, .sl tyT, .sl tyF, .sl tyC], .pd tp1, .pd tp1, .pd tp1] (fun
 | [.agg [.int _ x0, .int _ x1, .int _ x2, .int _ x3, .int _ x4], .pd [.sl n5 f5, .sl n7 f7, .sl n9 f9, .sl n11 f11], .pd [.int _ x13], .pd [.int _ x14], .pd [.int _ x15]] => 0 <= x13 /\ x13 < (n11 : Int)
 | _ => False) fun
 | [.agg [.int _ x0, .int _ x1, .int _ x2, .int _ x3, .int _ x4], .pd [.sl n5 f5, .sl n7 f7, .sl n9 f9, .sl n11 f11], .pd [.int _ x13], .pd [.int _ x14], .pd [.int _ x15]] => R47 x0 x1 x2 x3 x4 n5 f5 n7 f7 n9 f9 n11 f11 x13 x14 x15
 | _ => .any
theorem ok47 : (vP C47).Ok Tryz.prog 47 := mkE tabB16b Tryz.func47 (by kernel_rfl) fun ds hp => rf0 (run47 ..) (ev47 _ _ _ _ _ _ _ _ _ _ _ _ _ _ _ _ hp)
end
end Go.Dx
namespace Go.Dx
open Go.IntKind (i64 u64 u8)
open Go.Sx
section
variable {S : Type} {step : S -> RT S}
theorem idx_evW {L : Int -> S} {n : Nat} {p : Nat -> Bool} {Q : Nat -> Prop} {ρ : Rho} (W : Nat -> RT S -> RT S) (hW : ∀ i x r, Q i -> evR (Ev step) x r -> evR (Ev step) (W i x) r) (hWn : ∀ i x, noAll (W i x) = noAll x) (hn : n <= 9223372036854775807) (hQ : ∀ i, i < n -> Q i)
 (hst : ∀ i : Nat, step (L i) = .br (decide ((i : Int) < (n : Int))) (.ob (decide (0 <= (i : Int) /\ (i : Int) < (n : Int))) (W i (.br (p i) (.ret (.int .i64 i)) (.next ρ (L (i64.wrap ((i : Int) + 1))) [])))) (.ret (.int .i64 (-1)))) :
 Ev step (L 0) (.int .i64 (idx n p)) :=
 scan hn p (P := fun i => Ev step (L i) (.int .i64 (idx n p))) (fun i hlt hj next => Ev.of (by rw [hst]; simp only [noAll, hWn, Bool.and_self]) (by
  rw [hst]
  refine evBrLt hlt (evObLt hlt (hW i _ _ (hQ i hlt) (evBr (fun hb => evRet ?_) (fun hb => evNext (next hb)))))
  rw [idx_some hb hlt hj])) (fun hj => Ev.of (by rw [hst]; simp only [noAll, hWn, Bool.and_self]) (by
  rw [hst]
  refine evBrGe (evRet ?_)
  rw [idx_none hj]))
end
end Go.Dx
namespace Go.Dx
open Go.IntKind (i64 u64 u8)
open Go.Sx
def maxTo (p : Nat -> Int) : Nat -> Int
 | 0 => 0
 | k + 1 => max (maxTo p k) (p k)
section
variable {S : Type} {step : S -> RT S}
theorem pieces_ev {L : Int -> Nat -> Int -> S} {n : Nat} {p : Nat -> Int} {ρ : Rho} {l : Nat} (hn : n <= 9223372036854775807)
 (hst : ∀ (i : Nat) (a : Int), i64.wrap ((i : Int) + 1) = ((i + 1 : Nat) : Int) -> step (L i l a) = .br (decide ((i : Int) < i64.wrap ((n : Int) - 1))) (.ob (decide (0 <= (i : Int) /\ (i : Int) < (n : Int))) (.ob (decide (0 <= i64.wrap ((i : Int) + 1) /\ i64.wrap ((i : Int) + 1) < (n : Int))) (.obt (.obt (.obt (.obt (.obc (.obt (.next ρ (L (i64.wrap ((i : Int) + 1)) l (max a (p i))) [])))))))) ) (.ret (.int .i64 a))) :
 Ev step (L 0 l 0) (.int .i64 (maxTo p (n - 1))) := by
 have w0 : i64.wrap ((n : Int) - 1) = (n : Int) - 1 := wrapI (by omega) (by omega)
 have key := up_ind (n := n - 1) (P := fun i => Ev step (L i l (maxTo p i)) (.int .i64 (maxTo p (n - 1)))) fun i hi ih => by
  have w1 : i64.wrap ((i : Int) + 1) = ((i + 1 : Nat) : Int) := by rw [wrapI (by omega) (by omega)]; omega
  refine Ev.of (by rw [hst i _ w1]; rfl) ?_
  rw [hst i _ w1]
  by_cases hlt : i < n - 1
  ·refine evBrT (decide_eq_true (by rw [w0]; omega)) (evOb (decide_eq_true (by omega)) (evOb (decide_eq_true (by rw [w1]; omega)) (evObt (evObt (evObt (evObt (evObc (evObt (evNext ?_)))))))))
   rw [w1]; exact ih hlt
  ·refine evBrF (decide_eq_false (by rw [w0]; omega)) (evRet ?_)
   have : i = n - 1 := by omega
   subst this; rfl
 exact key 0 (Nat.zero_le _)
theorem pieces_ex {L : Int -> Nat -> S} {n : Nat} {p : Nat -> Bool} {ρ : Rho} {l : Nat} (hn : n <= 9223372036854775807)
 (hst : ∀ i : Nat, i64.wrap ((i : Int) + 1) = ((i + 1 : Nat) : Int) -> step (L i l) = .br (decide ((i : Int) < i64.wrap ((n : Int) - 1))) (.ob (decide (0 <= (i : Int) /\ (i : Int) < (n : Int))) (.ob (decide (0 <= i64.wrap ((i : Int) + 1) /\ i64.wrap ((i : Int) + 1) < (n : Int))) (.obt (.obt (.obt (.obt (.obc (.obt (.br (p i) (.ret (.kb true)) (.next ρ (L (i64.wrap ((i : Int) + 1)) l) []))))))))) ) (.ret (.kb false))) :
 Ev step (L 0 l) (.bool (exB (n - 1) p)) := by
 have w0 : i64.wrap ((n : Int) - 1) = (n : Int) - 1 := wrapI (by omega) (by omega)
 have key := up_ind (n := n - 1) (P := fun i => (∀ j, j < i -> p j = false) -> Ev step (L i l) (.bool (exB (n - 1) p))) fun i hi ih hj => by
  have w1 : i64.wrap ((i : Int) + 1) = ((i + 1 : Nat) : Int) := by rw [wrapI (by omega) (by omega)]; omega
  refine Ev.of (by rw [hst i w1]; rfl) ?_
  rw [hst i w1]
  by_cases hlt : i < n - 1
  ·refine evBrT (decide_eq_true (by rw [w0]; omega)) (evOb (decide_eq_true (by omega)) (evOb (decide_eq_true (by rw [w1]; omega)) (evObt (evObt (evObt (evObt (evObc (evObt (evBr (fun hb => evRet ?_) (fun hb => evNext ?_))))))))))
   ·rw [exB_true i hlt hb]; rfl
   ·rw [w1]; exact ih hlt fun j h1 => by
     by_cases e : j = i
     ·subst e; exact hb
     ·exact hj j (by omega)
  ·refine evBrF (decide_eq_false (by rw [w0]; omega)) (evRet ?_)
   have : i = n - 1 := by omega
   subst this
   rw [exB_false hj]; rfl
 exact key 0 (Nat.zero_le _) fun j hj => by omega
end
end Go.Dx
namespace Go.Dx
open Go.IntKind (i64 u64 u8)
open Go.Sx
end Go.Dx
namespace Go.Dx
open Go.IntKind (i64 u64 u8)
theorem maxTo_ge {p : Nat -> Int} {i : Nat} : ∀ {n : Nat}, i < n -> p i <= maxTo p n
 | n + 1, h => by
   simp only [maxTo]
   by_cases e : i = n
   ·subst e; omega
   ·have := maxTo_ge (p := p) (i := i) (n := n) (by omega); omega
theorem maxTo_le {p : Nat -> Int} {B : Int} (hB : 0 <= B) : ∀ {n : Nat}, (∀ i, i < n -> p i <= B) -> maxTo p n <= B
 | 0, _ => hB
 | n + 1, h => by
   simp only [maxTo]
   have := maxTo_le (p := p) hB (n := n) fun i hi => h i (by omega)
   have := h n (by omega); omega
end Go.Dx
namespace Go.Dx
open Go.IntKind (i64 u64 u8)
open Go.Sx Go.Proofs
noncomputable section
def ctB16c : CTab := (111, .con C111) :: (56, .con C56) :: (47, .con C47) :: ctB16b
theorem tabB16c : TabOk Tryz.prog eqs its ctB16c := .con ok111 (.con ok56 (.con ok47 (tabB16b)))
inductive S108 where
 | L0 (ia0 : Int)
def inv108 (n0 : Nat) (f0 : FnV) (x2 x3 x4 x5 x6 x7 x8 x9 : Int) (b10 : Bool) : S108 -> Env × List O × Option Ex
 | .L0 ia0 => ([(8, vi ia0), (7, vi (↑n0 : Int)), (6, V.sl n0 (elV tp2 f0)), (4, vi 0), (0, V.sl n0 (elV tp2 f0)), (1, V.fn 56 [] [V.pd [vi x2, vi x3, vi x4, vi x5, vi x6, vi x7, vi x8, vi x9, V.bool b10]])], [], none)
def id108 : S108 -> JJ
 | .L0 ia0 => (0, [])
def rl108 (n0 : Nat) (f0 : FnV) (x2 x3 x4 x5 x6 x7 x8 x9 : Int) (b10 : Bool) : T (Leaf JJ) := runL JJ ctB16c u0 s108 [V.sl n0 (elV tp2 f0), V.fn 56 [] [V.pd [vi x2, vi x3, vi x4, vi x5, vi x6, vi x7, vi x8, vi x9, V.bool b10]]]
def lp108_0 (n0 : Nat) (f0 : FnV) (x2 x3 x4 x5 x6 x7 x8 x9 : Int) (b10 : Bool) (cx : List Cx) : Lp JJ := lpT (atT (rl108 n0 f0 x2 x3 x4 x5 x6 x7 x8 x9 b10) [])
def lp108 (n0 : Nat) (f0 : FnV) (x2 x3 x4 x5 x6 x7 x8 x9 : Int) (b10 : Bool) : JJ -> Lp JJ
 | (0, cx) => lp108_0 n0 f0 x2 x3 x4 x5 x6 x7 x8 x9 b10 cx
 | (_, cx) => lp108_0 n0 f0 x2 x3 x4 x5 x6 x7 x8 x9 b10 cx
def D108 (n0 : Nat) (f0 : FnV) (x2 x3 x4 x5 x6 x7 x8 x9 : Int) (b10 : Bool) : LD JJ S108 := ⟨id108, lp108 n0 f0 x2 x3 x4 x5 x6 x7 x8 x9 b10, inv108 n0 f0 x2 x3 x4 x5 x6 x7 x8 x9 b10⟩
def st108 (n0 : Nat) (f0 : FnV) (x2 x3 x4 x5 x6 x7 x8 x9 : Int) (b10 : Bool) : S108 -> RT S108
 | .L0 ia0 => .br (decide (ia0 < (↑n0 : Int))) (.ob (decide (0 <= ia0 /\ ia0 < (↑n0 : Int))) (.obc (.obt (.br (F56_0 (jv0 (f0 ia0.toNat)) (jv1 (f0 ia0.toNat)) x2 x3 x4 x5 x6 x7 x8 x9 b10) (.ret (vi ia0)) (.next [] (S108.L0 (i64.wrap (ia0 + 1))) []))))) (.ret (vi (-1)))
def m108 (n0 : Nat) (f0 : FnV) (x2 x3 x4 x5 x6 x7 x8 x9 : Int) (b10 : Bool) : RT S108 := .asm (true = true -> n0 <= 9223372036854775807) (.enter [] (S108.L0 (0)) [])
theorem run108 (n0 : Nat) (f0 : FnV) (x2 x3 x4 x5 x6 x7 x8 x9 : Int) (b10 : Bool) : Fits ctB16c u0 (D108 n0 f0 x2 x3 x4 x5 x6 x7 x8 x9 b10) (rl108 n0 f0 x2 x3 x4 x5 x6 x7 x8 x9 b10) (m108 n0 f0 x2 x3 x4 x5 x6 x7 x8 x9 b10) (st108 n0 f0 x2 x3 x4 x5 x6 x7 x8 x9 b10) := ⟨⟨by kernel_rfl, by kernel_rfl⟩, fun s => by cases s <;> exact ⟨by kernel_rfl, by kernel_rfl⟩⟩
def F108 (n0 : Nat) (f0 : FnV) (x2 x3 x4 x5 x6 x7 x8 x9 : Int) (b10 : Bool) : Int   := idx n0 fun ii => F56_0 (jv0 (f0 ii)) (jv1 (f0 ii)) x2 x3 x4 x5 x6 x7 x8 x9 b10
theorem ev108_0 (n0 : Nat) (f0 : FnV) (x2 x3 x4 x5 x6 x7 x8 x9 : Int) (b10 : Bool) : evR (Ev (st108 n0 f0 x2 x3 x4 x5 x6 x7 x8 x9 b10)) (m108 n0 f0 x2 x3 x4 x5 x6 x7 x8 x9 b10) (.int .i64 (F108 n0 f0 x2 x3 x4 x5 x6 x7 x8 x9 b10)) := evAsm1 fun hn => evEnter (idx_ev hn fun i => rfl)
theorem ev108 (n0 : Nat) (f0 : FnV) (x2 x3 x4 x5 x6 x7 x8 x9 : Int) (b10 : Bool) : evR (Ev (st108 n0 f0 x2 x3 x4 x5 x6 x7 x8 x9 b10)) (m108 n0 f0 x2 x3 x4 x5 x6 x7 x8 x9 b10) (.int .i64 (F108 n0 (elV tp2 f0) x2 x3 x4 x5 x6 x7 x8 x9 b10)) := ev108_0 n0 f0 x2 x3 x4 x5 x6 x7 x8 x9 b10
def C108 : PCon := mkC [.sl tp2, .fn 56 [] [.pd [.int .i64, .int .i64, .int .i64, .int .i64, .int .i64, .int .i64, .int .i64, .int .i64, .bool]]] (fun _ => True) fun
 | [.sl n0 f0, .fn _ [] [.pd [.int _ x2, .int _ x3, .int _ x4, .int _ x5, .int _ x6, .int _ x7, .int _ x8, .int _ x9, .bool b10]]] => .int .i64 (F108 n0 f0 x2 x3 x4 x5 x6 x7 x8 x9 b10)
 | _ => .any
theorem ok108 : (vP C108).Ok Tryz.prog 108 := mkE tabB16c Tryz.func108 (by kernel_rfl) fun ds hp => rfs (run108 ..) (ev108 _ _ _ _ _ _ _ _ _ _ _)
inductive S46 where
 | L0 (ia0 : Int)
def inv46 (n0 : Nat) (f0 : FnV) (n2 : Nat) (f2 : FnV) (n4 : Nat) (f4 : FnV) (n6 : Nat) (f6 : FnV) (n8 : Nat) (f8 : FnV) (x10 x11 x12 : Int) : S46 -> Env × List O × Option Ex
 | .L0 ia0 => ([(8, vi ia0), (7, vi (↑n0 : Int)), (6, V.sl n0 (elV tyT f0)), (4, vi 0), (0, V.sl n0 (elV tyT f0)), (1, V.fn 47 [] [V.pd [V.sl n2 (elV tyR f2), V.sl n4 (elV tyT f4), V.sl n6 (elV tyF f6), V.sl n8 (elV tyC f8)], V.pd [vi x10], V.pd [vi x11], V.pd [vi x12]])], [], none)
def id46 : S46 -> JJ
 | .L0 ia0 => (0, [])
def rl46 (n0 : Nat) (f0 : FnV) (n2 : Nat) (f2 : FnV) (n4 : Nat) (f4 : FnV) (n6 : Nat) (f6 : FnV) (n8 : Nat) (f8 : FnV) (x10 x11 x12 : Int) : T (Leaf JJ) := runL JJ ctB16c u0 s46 [V.sl n0 (elV tyT f0), V.fn 47 [] [V.pd [V.sl n2 (elV tyR f2), V.sl n4 (elV tyT f4), V.sl n6 (elV tyF f6), V.sl n8 (elV tyC f8)], V.pd [vi x10], V.pd [vi x11], V.pd [vi x12]]]
def lp46_0 (n0 : Nat) (f0 : FnV) (n2 : Nat) (f2 : FnV) (n4 : Nat) (f4 : FnV) (n6 : Nat) (f6 : FnV) (n8 : Nat) (f8 : FnV) (x10 x11 x12 : Int) (cx : List Cx) : Lp JJ := lpT (atT (rl46 n0 f0 n2 f2 n4 f4 n6 f6 n8 f8 x10 x11 x12) [])
def lp46 (n0 : Nat) (f0 : FnV) (n2 : Nat) (f2 : FnV) (n4 : Nat) (f4 : FnV) (n6 : Nat) (f6 : FnV) (n8 : Nat) (f8 : FnV) (x10 x11 x12 : Int) : JJ -> Lp JJ
 | (0, cx) => lp46_0 n0 f0 n2 f2 n4 f4 n6 f6 n8 f8 x10 x11 x12 cx
 | (_, cx) => lp46_0 n0 f0 n2 f2 n4 f4 n6 f6 n8 f8 x10 x11 x12 cx
def D46 (n0 : Nat) (f0 : FnV) (n2 : Nat) (f2 : FnV) (n4 : Nat) (f4 : FnV) (n6 : Nat) (f6 : FnV) (n8 : Nat) (f8 : FnV) (x10 x11 x12 : Int) : LD JJ S46 := ⟨id46, lp46 n0 f0 n2 f2 n4 f4 n6 f6 n8 f8 x10 x11 x12, inv46 n0 f0 n2 f2 n4 f4 n6 f6 n8 f8 x10 x11 x12⟩
def st46 (n0 : Nat) (f0 : FnV) (n2 : Nat) (f2 : FnV) (n4 : Nat) (f4 : FnV) (n6 : Nat) (f6 : FnV) (n8 : Nat) (f8 : FnV) (x10 x11 x12 : Int) : S46 -> RT S46
 | .L0 ia0 => .br (decide (ia0 < (↑n0 : Int))) (.ob (decide (0 <= ia0 /\ ia0 < (↑n0 : Int))) (.obp ((0 : Int) <= x10 /\ x10 < (↑n8 : Int)) (.obt (.br (F47_0 (jv0 (f0 ia0.toNat)) (jv1 (f0 ia0.toNat)) (jv2 (f0 ia0.toNat)) (jv3 (f0 ia0.toNat)) (jv4 (f0 ia0.toNat)) (elV tyC f8) x10 x11 x12) (.ret (vi ia0)) (.next [] (S46.L0 (i64.wrap (ia0 + 1))) []))))) (.ret (vi (-1)))
def m46 (n0 : Nat) (f0 : FnV) (n2 : Nat) (f2 : FnV) (n4 : Nat) (f4 : FnV) (n6 : Nat) (f6 : FnV) (n8 : Nat) (f8 : FnV) (x10 x11 x12 : Int) : RT S46 := .asm (true = true -> n0 <= 9223372036854775807) (.enter [] (S46.L0 (0)) [])
theorem run46 (n0 : Nat) (f0 : FnV) (n2 : Nat) (f2 : FnV) (n4 : Nat) (f4 : FnV) (n6 : Nat) (f6 : FnV) (n8 : Nat) (f8 : FnV) (x10 x11 x12 : Int) : Fits ctB16c u0 (D46 n0 f0 n2 f2 n4 f4 n6 f6 n8 f8 x10 x11 x12) (rl46 n0 f0 n2 f2 n4 f4 n6 f6 n8 f8 x10 x11 x12) (m46 n0 f0 n2 f2 n4 f4 n6 f6 n8 f8 x10 x11 x12) (st46 n0 f0 n2 f2 n4 f4 n6 f6 n8 f8 x10 x11 x12) := ⟨⟨by kernel_rfl, by kernel_rfl⟩, fun s => by cases s <;> exact ⟨by kernel_rfl, by kernel_rfl⟩⟩
def F46 (n0 : Nat) (f0 f8 : FnV) (x10 x11 x12 : Int) : Int   := idx n0 fun ii => F47_0 (jv0 (f0 ii)) (jv1 (f0 ii)) (jv2 (f0 ii)) (jv3 (f0 ii)) (jv4 (f0 ii)) (elV tyC f8) x10 x11 x12
theorem ev46_0 (n0 : Nat) (f0 : FnV) (n2 : Nat) (f2 : FnV) (n4 : Nat) (f4 : FnV) (n6 : Nat) (f6 : FnV) (n8 : Nat) (f8 : FnV) (x10 x11 x12 : Int) (hp : 0 <= x10 /\ x10 < (n8 : Int)) : evR (Ev (st46 n0 f0 n2 f2 n4 f4 n6 f6 n8 f8 x10 x11 x12)) (m46 n0 f0 n2 f2 n4 f4 n6 f6 n8 f8 x10 x11 x12) (.int .i64 (F46 n0 f0 f8 x10 x11 x12)) := evAsm1 fun hn => evEnter (idx_evW (Q := fun ii => (0 : Int) <= x10 /\ x10 < (↑n8 : Int)) (fun ii x => .obp ((0 : Int) <= x10 /\ x10 < (↑n8 : Int)) (.obt x)) (fun i x r h hx => evObp h (evObt hx)) (fun _ _ => rfl) hn (fun _ _ => hp) fun i => rfl)
theorem ev46 (n0 : Nat) (f0 : FnV) (n2 : Nat) (f2 : FnV) (n4 : Nat) (f4 : FnV) (n6 : Nat) (f6 : FnV) (n8 : Nat) (f8 : FnV) (x10 x11 x12 : Int) (hp : 0 <= x10 /\ x10 < (n8 : Int)) : evR (Ev (st46 n0 f0 n2 f2 n4 f4 n6 f6 n8 f8 x10 x11 x12)) (m46 n0 f0 n2 f2 n4 f4 n6 f6 n8 f8 x10 x11 x12) (.int .i64 (F46 n0 (elV tyT f0) (elV tyC f8) x10 x11 x12)) := ev46_0 n0 f0 n2 f2 n4 f4 n6 f6 n8 f8 x10 x11 x12 hp
def C46 : PCon := mkC [.sl tyT, .fn 47 [] [.pd [.sl tyR, .sl tyT, .sl tyF, .sl tyC], .pd tp1, .pd tp1, .pd tp1]] (fun
 | [.sl n0 f0, .fn _ [] [.pd [.sl n2 f2, .sl n4 f4, .sl n6 f6, .sl n8 f8], .pd [.int _ x10], .pd [.int _ x11], .pd [.int _ x12]]] => 0 <= x10 /\ x10 < (n8 : Int)
 | _ => False) fun
 | [.sl n0 f0, .fn _ [] [.pd [.sl n2 f2, .sl n4 f4, .sl n6 f6, .sl n8 f8], .pd [.int _ x10], .pd [.int _ x11], .pd [.int _ x12]]] => .int .i64 (F46 n0 f0 f8 x10 x11 x12)
 | _ => .any
theorem ok46 : (vP C46).Ok Tryz.prog 46 := mkE tabB16c Tryz.func46 (by kernel_rfl) fun ds hp => rfs (run46 ..) (ev46 _ _ _ _ _ _ _ _ _ _ _ _ _ hp)
end
noncomputable section
def ctB16d : CTab := [(108, .con C108), (46, .con C46), (111, .con C111), (56, .con C56), (47, .con C47), (145, .con C145), (140, .con C140), (49, .con C49), (123, .con C123), (44, .con C44), (23, .con C23), (62, .con C62), (68, .con C68), (63, .con C63), (69, .con C69), (117, .inl s117 u0), (116, .inl s116 u0), (115, .con C115), (114, .con C114), (147, .con C147), (64, .con C64), (66, .con C66), (113, .con C113), (65, .con C65), (67, .con C67), (53, .con C53), (45, .con C45), (90, .con C90), (119, .con C119), (121, .con C121), (99, .con C99), (129, .con C129), (148, .con C148), (149, .con C149), (112, .con C112), (118, .con C118), (120, .con C120), (133, .con C133), (103, .con C103), (100, .con C100), (134, .con C134), (135, .con C135), (78, .con C78), (54, .con C54), (48, .con C48), (102, .con C102), (84, .con C84), (85, .con C85), (127, .con C127), (101, .con C101), (86, .con C86), (162, .con C162), (146, .con C146), (83, .inl s83 u0)]
theorem tabB16d : TabOk Tryz.prog eqs its ctB16d := .con ok108 (.con ok46 (.con ok111 (.con ok56 (.con ok47 (.con ok145 (.con ok140 (.con ok49 (.con ok123 (.con ok44 (.con ok23 (.con ok62 (.con ok68 (.con ok63 (.con ok69 (.inl Tryz.func117 (by kernel_rfl) (by kernel_rfl) (by kernel_rfl) (.inl Tryz.func116 (by kernel_rfl) (by kernel_rfl) (by kernel_rfl) (.con ok115 (.con ok114 (.con ok147 (.con ok64 (.con ok66 (.con ok113 (.con ok65 (.con ok67 (.con ok53 (.con ok45 (.con ok90 (.con ok119 (.con ok121 (.con ok99 (.con ok129 (.con ok148 (.con ok149 (.con ok112 (.con ok118 (.con ok120 (.con ok133 (.con ok103 (.con ok100 (.con ok134 (.con ok135 (.con ok78 (.con ok54 (.con ok48 (.con ok102 (.con ok84 (.con ok85 (.con ok127 (.con ok101 (.con ok86 (.con ok162 (.con ok146 (.inl Tryz.func83 (by kernel_rfl) (by kernel_rfl) (by kernel_rfl) (.nil))))))))))))))))))))))))))))))))))))))))))))))))))))))
def m55 (n0 : Nat) (f0 : FnV) (x2 x3 x4 x5 x6 x7 x8 x9 : Int) (b10 : Bool) : RT Empty := .obc (.obt (.ret (V.bool (decide (0 <= F108 n0 (elV tp2 f0) x2 x3 x4 x5 x6 x7 x8 x9 b10)))))
theorem run55 (n0 : Nat) (f0 : FnV) (x2 x3 x4 x5 x6 x7 x8 x9 : Int) (b10 : Bool) : Fit noD (runL JJ ctB16d u0 s55 [V.sl n0 (elV tp2 f0), V.fn 56 [] [V.pd [vi x2, vi x3, vi x4, vi x5, vi x6, vi x7, vi x8, vi x9, V.bool b10]]]) (m55 n0 f0 x2 x3 x4 x5 x6 x7 x8 x9 b10) := ⟨by kernel_rfl, by kernel_rfl⟩
def F55_0 (n0 : Nat) (f0 : FnV) (x2 x3 x4 x5 x6 x7 x8 x9 : Int) (b10 : Bool) : Bool := decide (0 <= F108 n0 (elV tp2 f0) x2 x3 x4 x5 x6 x7 x8 x9 b10)
def R55 (n0 : Nat) (f0 : FnV) (x2 x3 x4 x5 x6 x7 x8 x9 : Int) (b10 : Bool) : V := .bool (F55_0 n0 f0 x2 x3 x4 x5 x6 x7 x8 x9 b10)
theorem ev55 (n0 : Nat) (f0 : FnV) (x2 x3 x4 x5 x6 x7 x8 x9 : Int) (b10 : Bool) : evR noE (m55 n0 f0 x2 x3 x4 x5 x6 x7 x8 x9 b10) (R55 n0 f0 x2 x3 x4 x5 x6 x7 x8 x9 b10) := evObc (evObt (evRet (by unfold R55 F55_0; rfl)))
def C55 : PCon := mkC [.sl tp2, .fn 56 [] [.pd [.int .i64, .int .i64, .int .i64, .int .i64, .int .i64, .int .i64, .int .i64, .int .i64, .bool]]] (fun _ => True) fun
 | [.sl n0 f0, .fn _ [] [.pd [.int _ x2, .int _ x3, .int _ x4, .int _ x5, .int _ x6, .int _ x7, .int _ x8, .int _ x9, .bool b10]]] => R55 n0 f0 x2 x3 x4 x5 x6 x7 x8 x9 b10
 | _ => .any
theorem ok55 : (vP C55).Ok Tryz.prog 55 := mkE tabB16d Tryz.func55 (by kernel_rfl) fun ds hp => rf0 (run55 ..) (ev55 _ _ _ _ _ _ _ _ _ _ _)
inductive S61 where
 | L0 (ia0 : Int) (na1 : Nat) (ia2 : Int)
def inv61 (s0 : ByteArray) (x1 : Int) (n2 : Nat) (f2 : FnV) (x4 x5 x6 x7 x8 : Int) : S61 -> Env × List O × Option Ex
 | .L0 ia0 na1 ia2 => ([(10, vi ia0), (9, vi (i64.wrap ((↑n2 : Int) - 1))), (8, vi (↑n2 : Int)), (7, V.sl n2 (elV tp2 f2)), (6, V.pl 3 2), (0, V.yl na1), (1, V.pl 3 0)], [O.cells [V.str s0, vi x1, V.sl n2 (elV tp2 f2), vi x4] 54, O.cells [vi x5, vi x6, vi x7, vi x8] 29, O.cells [vi ia2] 3, O.cells [V.str s0, vi x1, V.sl n2 (elV tp2 f2), vi x4] 54], none)
def id61 : S61 -> JJ
 | .L0 ia0 na1 ia2 => (0, [Cx.n na1])
def rl61 (s0 : ByteArray) (x1 : Int) (n2 : Nat) (f2 : FnV) (x4 x5 x6 x7 x8 : Int) : T (Leaf JJ) := runL JJ ctB16d u0 s61 [V.agg [V.str s0, vi x1, V.sl n2 (elV tp2 f2), vi x4], V.agg [vi x5, vi x6, vi x7, vi x8]]
def lp61_0 (s0 : ByteArray) (x1 : Int) (n2 : Nat) (f2 : FnV) (x4 x5 x6 x7 x8 : Int) (cx : List Cx) : Lp JJ := lpT (atT (afT (atT (rl61 s0 x1 n2 f2 x4 x5 x6 x7 x8) []) (cxn cx 0)) [])
def lp61 (s0 : ByteArray) (x1 : Int) (n2 : Nat) (f2 : FnV) (x4 x5 x6 x7 x8 : Int) : JJ -> Lp JJ
 | (0, cx) => lp61_0 s0 x1 n2 f2 x4 x5 x6 x7 x8 cx
 | (_, cx) => lp61_0 s0 x1 n2 f2 x4 x5 x6 x7 x8 cx
def D61 (s0 : ByteArray) (x1 : Int) (n2 : Nat) (f2 : FnV) (x4 x5 x6 x7 x8 : Int) : LD JJ S61 := ⟨id61, lp61 s0 x1 n2 f2 x4 x5 x6 x7 x8, inv61 s0 x1 n2 f2 x4 x5 x6 x7 x8⟩
def st61 (s0 : ByteArray) (x1 : Int) (n2 : Nat) (f2 : FnV) (x4 x5 x6 x7 x8 : Int) : S61 -> RT S61
 | .L0 ia0 na1 ia2 => .br (decide (ia0 < i64.wrap ((↑n2 : Int) - 1))) (.ob (decide (0 <= ia0 /\ ia0 < (↑n2 : Int))) (.ob (decide (0 <= i64.wrap (ia0 + 1) /\ i64.wrap (ia0 + 1) < (↑n2 : Int))) (.obt (.obt (.obt (.obt (.obc (.obt (.next (iR 0 4 []) (S61.L0 (i64.wrap (ia0 + 1)) (na1) (max ia2 (F111_0 (i64.wrap (2 * jv0 (f2 ia0.toNat))) (i64.wrap (2 * jv1 (f2 ia0.toNat))) (i64.wrap (2 * jv0 (f2 (i64.wrap (ia0 + 1)).toNat))) (i64.wrap (2 * jv1 (f2 (i64.wrap (ia0 + 1)).toNat))) x4 x5 x6 x7 x8))) []))))))))) (.ret (vi ia2))
def m61 (s0 : ByteArray) (x1 : Int) (n2 : Nat) (f2 : FnV) (x4 x5 x6 x7 x8 : Int) : RT S61 := .all (fun l_6416 => .asm (true = true -> n2 <= 9223372036854775807) (.enter (iR 0 4 []) (S61.L0 (0) (l_6416) (0)) []))
theorem run61 (s0 : ByteArray) (x1 : Int) (n2 : Nat) (f2 : FnV) (x4 x5 x6 x7 x8 : Int) : Fits ctB16d u0 (D61 s0 x1 n2 f2 x4 x5 x6 x7 x8) (rl61 s0 x1 n2 f2 x4 x5 x6 x7 x8) (m61 s0 x1 n2 f2 x4 x5 x6 x7 x8) (st61 s0 x1 n2 f2 x4 x5 x6 x7 x8) := ⟨⟨by kernel_rfl, by kernel_rfl⟩, fun s => by cases s <;> exact ⟨by kernel_rfl, by kernel_rfl⟩⟩
def p61 (n2 : Nat) (f2 : FnV) (x4 x5 x6 x7 x8 : Int) (ii : Nat) : Int := F111_0 (i64.wrap (2 * jv0 (f2 ii))) (i64.wrap (2 * jv1 (f2 ii))) (i64.wrap (2 * jv0 (f2 (i64.wrap ((ii : Int) + 1)).toNat))) (i64.wrap (2 * jv1 (f2 (i64.wrap ((ii : Int) + 1)).toNat))) x4 x5 x6 x7 x8
def F61 (n2 : Nat) (f2 : FnV) (x4 x5 x6 x7 x8 : Int) : Int := maxTo (p61 n2 f2 x4 x5 x6 x7 x8) (n2 - 1)
theorem ev61_0 (s0 : ByteArray) (x1 : Int) (n2 : Nat) (f2 : FnV) (x4 x5 x6 x7 x8 : Int) : evR (Ev (st61 s0 x1 n2 f2 x4 x5 x6 x7 x8)) (m61 s0 x1 n2 f2 x4 x5 x6 x7 x8) (.int .i64 (F61 n2 f2 x4 x5 x6 x7 x8)) := evAll fun l => evAsm1 fun hn => evEnter (pieces_ev hn fun i a _ => rfl)
theorem ev61 (s0 : ByteArray) (x1 : Int) (n2 : Nat) (f2 : FnV) (x4 x5 x6 x7 x8 : Int) : evR (Ev (st61 s0 x1 n2 f2 x4 x5 x6 x7 x8)) (m61 s0 x1 n2 f2 x4 x5 x6 x7 x8) (.int .i64 (F61 n2 (elV tp2 f2) x4 x5 x6 x7 x8)) := ev61_0 s0 x1 n2 f2 x4 x5 x6 x7 x8
def C61 : PCon := mkC [.agg tyR, .agg tp4] (fun _ => True) fun
 | [.agg [.str s0, .int _ x1, .sl n2 f2, .int _ x4], .agg [.int _ x5, .int _ x6, .int _ x7, .int _ x8]] => .int .i64 (F61 n2 f2 x4 x5 x6 x7 x8)
 | _ => .any
theorem ok61 : (vP C61).Ok Tryz.prog 61 := mkE tabB16d Tryz.func61 (by kernel_rfl) fun ds hp => rfs (run61 ..) (ev61 _ _ _ _ _ _ _ _ _)
inductive S74 where
 | L0 (ia0 : Int) (na1 : Nat)
def inv74 (s0 : ByteArray) (x1 : Int) (n2 : Nat) (f2 : FnV) (x4 x5 x6 : Int) : S74 -> Env × List O × Option Ex
 | .L0 ia0 na1 => ([(10, vi ia0), (9, vi (i64.wrap ((↑n2 : Int) - 1))), (8, vi (↑n2 : Int)), (7, V.sl n2 (elV tp2 f2)), (6, V.pl 4 2), (0, V.yl na1), (1, V.pl 4 0)], [O.cells [V.str s0, vi x1, V.sl n2 (elV tp2 f2), vi x4] 54, O.cells [vi x5] 3, O.cells [vi x6] 3, O.cells [V.kb false] 4, O.cells [V.str s0, vi x1, V.sl n2 (elV tp2 f2), vi x4] 54], none)
def id74 : S74 -> JJ
 | .L0 ia0 na1 => (0, [Cx.n na1])
def rl74 (s0 : ByteArray) (x1 : Int) (n2 : Nat) (f2 : FnV) (x4 x5 x6 : Int) : T (Leaf JJ) := runL JJ ctB16d u0 s74 [V.agg [V.str s0, vi x1, V.sl n2 (elV tp2 f2), vi x4], vi x5, vi x6]
def lp74_0 (s0 : ByteArray) (x1 : Int) (n2 : Nat) (f2 : FnV) (x4 x5 x6 : Int) (cx : List Cx) : Lp JJ := lpT (atT (afT (atT (rl74 s0 x1 n2 f2 x4 x5 x6) []) (cxn cx 0)) [])
def lp74 (s0 : ByteArray) (x1 : Int) (n2 : Nat) (f2 : FnV) (x4 x5 x6 : Int) : JJ -> Lp JJ
 | (0, cx) => lp74_0 s0 x1 n2 f2 x4 x5 x6 cx
 | (_, cx) => lp74_0 s0 x1 n2 f2 x4 x5 x6 cx
def D74 (s0 : ByteArray) (x1 : Int) (n2 : Nat) (f2 : FnV) (x4 x5 x6 : Int) : LD JJ S74 := ⟨id74, lp74 s0 x1 n2 f2 x4 x5 x6, inv74 s0 x1 n2 f2 x4 x5 x6⟩
def st74 (s0 : ByteArray) (x1 : Int) (n2 : Nat) (f2 : FnV) (x4 x5 x6 : Int) : S74 -> RT S74
 | .L0 ia0 na1 => .br (decide (ia0 < i64.wrap ((↑n2 : Int) - 1))) (.ob (decide (0 <= ia0 /\ ia0 < (↑n2 : Int))) (.ob (decide (0 <= i64.wrap (ia0 + 1) /\ i64.wrap (ia0 + 1) < (↑n2 : Int))) (.obt (.obt (.obt (.obt (.obc (.obt (.br (F123_0 (i64.wrap (2 * jv0 (f2 ia0.toNat))) (i64.wrap (2 * jv1 (f2 ia0.toNat))) (i64.wrap (2 * jv0 (f2 (i64.wrap (ia0 + 1)).toNat))) (i64.wrap (2 * jv1 (f2 (i64.wrap (ia0 + 1)).toNat))) x4 x5 x6) (.ret (V.kb true)) (.next (iR 0 5 []) (S74.L0 (i64.wrap (ia0 + 1)) (na1)) [])))))))))) (.ret (V.kb false))
def m74 (s0 : ByteArray) (x1 : Int) (n2 : Nat) (f2 : FnV) (x4 x5 x6 : Int) : RT S74 := .all (fun l_6589 => .asm (true = true -> n2 <= 9223372036854775807) (.enter (iR 0 5 []) (S74.L0 (0) (l_6589)) []))
theorem run74 (s0 : ByteArray) (x1 : Int) (n2 : Nat) (f2 : FnV) (x4 x5 x6 : Int) : Fits ctB16d u0 (D74 s0 x1 n2 f2 x4 x5 x6) (rl74 s0 x1 n2 f2 x4 x5 x6) (m74 s0 x1 n2 f2 x4 x5 x6) (st74 s0 x1 n2 f2 x4 x5 x6) := ⟨⟨by kernel_rfl, by kernel_rfl⟩, fun s => by cases s <;> exact ⟨by kernel_rfl, by kernel_rfl⟩⟩
def p74 (n2 : Nat) (f2 : FnV) (x4 x5 x6 : Int) (ii : Nat) : Bool := F123_0 (i64.wrap (2 * jv0 (f2 ii))) (i64.wrap (2 * jv1 (f2 ii))) (i64.wrap (2 * jv0 (f2 (i64.wrap ((ii : Int) + 1)).toNat))) (i64.wrap (2 * jv1 (f2 (i64.wrap ((ii : Int) + 1)).toNat))) x4 x5 x6
def F74 (n2 : Nat) (f2 : FnV) (x4 x5 x6 : Int) : Bool := exB (n2 - 1) (p74 n2 f2 x4 x5 x6)
theorem ev74_0 (s0 : ByteArray) (x1 : Int) (n2 : Nat) (f2 : FnV) (x4 x5 x6 : Int) : evR (Ev (st74 s0 x1 n2 f2 x4 x5 x6)) (m74 s0 x1 n2 f2 x4 x5 x6) (.bool (F74 n2 f2 x4 x5 x6)) := evAll fun l => evAsm1 fun hn => evEnter (pieces_ex hn fun i _ => rfl)
theorem ev74 (s0 : ByteArray) (x1 : Int) (n2 : Nat) (f2 : FnV) (x4 x5 x6 : Int) : evR (Ev (st74 s0 x1 n2 f2 x4 x5 x6)) (m74 s0 x1 n2 f2 x4 x5 x6) (.bool (F74 n2 (elV tp2 f2) x4 x5 x6)) := ev74_0 s0 x1 n2 f2 x4 x5 x6
def C74 : PCon := mkC [.agg tyR, .int .i64, .int .i64] (fun _ => True) fun
 | [.agg [.str s0, .int _ x1, .sl n2 f2, .int _ x4], .int _ x5, .int _ x6] => .bool (F74 n2 f2 x4 x5 x6)
 | _ => .any
theorem ok74 : (vP C74).Ok Tryz.prog 74 := mkE tabB16d Tryz.func74 (by kernel_rfl) fun ds hp => rfs (run74 ..) (ev74 _ _ _ _ _ _ _)
end
noncomputable section
def ctB16e : CTab := (55, .con C55) :: (61, .con C61) :: (74, .con C74) :: ctB16d
theorem tabB16e : TabOk Tryz.prog eqs its ctB16e := .con ok55 (.con ok61 (.con ok74 (tabB16d)))
attribute [local irreducible] F44 F50_0 F91_0
def m22 (n0 : Nat) (f0 : FnV) (n2 : Nat) (f2 : FnV) (n4 : Nat) (f4 : FnV) (n6 : Nat) (f6 : FnV) (x8 x9 x10 x11 x12 : Int) : RT Empty := .asm (true = true -> n0 <= 9223372036854775807) (.obp (((∀ (i : Nat), i < n0 -> (sv (hdV (f0 i))).size <= (9223372036854775807 : Nat)) /\ ∀ (i : Nat), i < n6 -> (sv (hdV (f6 i))).size <= (9223372036854775807 : Nat)) /\ (0 : Nat) = (0 : Nat) /\ (2 : Nat) <= (100 : Nat)) (.obt (.br (F44 n0 (elV tyR f0) n2 (elV tyT f2) n4 (elV tyF f4) n6 (elV tyC f6) 2 (elV tp1 (secF [vi x8, vi (↑n0 : Int)] 0 1)) != 0) (.ret (V.tup [vi 0, vi (F44 n0 (elV tyR f0) n2 (elV tyT f2) n4 (elV tyF f4) n6 (elV tyC f6) 2 (elV tp1 (secF [vi x8, vi (↑n0 : Int)] 0 1)))])) (.obc (.obt (.br (F53_0 x9 x10 x11 x12) (.ret (V.tup [vi 0, vi 7])) (.ob (decide (0 <= x8 /\ x8 < (↑n0 : Int))) (.obc (.obt (.ret (V.tup [vi (F61 (lenV (hdV (tlV (tlV (f0 x8.toNat))))) (fun i => views tp2 (atV (hdV (tlV (tlV (f0 x8.toNat)))) i)) (jv3 (f0 x8.toNat)) x9 x10 x11 x12), vi 0])))))))))))
theorem run22 (n0 : Nat) (f0 : FnV) (n2 : Nat) (f2 : FnV) (n4 : Nat) (f4 : FnV) (n6 : Nat) (f6 : FnV) (x8 x9 x10 x11 x12 : Int) : Fit noD (runL JJ ctB16e u0 s22 [scV n0 f0 n2 f2 n4 f4 n6 f6, vi x8, V.agg [vi x9, vi x10, vi x11, vi x12]]) (m22 n0 f0 n2 f2 n4 f4 n6 f6 x8 x9 x10 x11 x12) := ⟨by kernel_rfl, by kernel_rfl⟩
def F22_0 (n0 : Nat) (f0 : FnV) (n2 : Nat) (f2 : FnV) (n4 : Nat) (f4 : FnV) (n6 : Nat) (f6 : FnV) (x8 x9 x10 x11 x12 : Int) : Int := bif F44 n0 (elV tyR f0) n2 (elV tyT f2) n4 (elV tyF f4) n6 (elV tyC f6) 2 (elV tp1 (secF [vi x8, vi (↑n0 : Int)] 0 1)) != 0 then 0 else bif F53_0 x9 x10 x11 x12 then 0 else F61 (lenV (hdV (tlV (tlV (f0 x8.toNat))))) (fun i => views tp2 (atV (hdV (tlV (tlV (f0 x8.toNat)))) i)) (jv3 (f0 x8.toNat)) x9 x10 x11 x12
def F22_1 (n0 : Nat) (f0 : FnV) (n2 : Nat) (f2 : FnV) (n4 : Nat) (f4 : FnV) (n6 : Nat) (f6 : FnV) (x8 x9 x10 x11 x12 : Int) : Int := bif F44 n0 (elV tyR f0) n2 (elV tyT f2) n4 (elV tyF f4) n6 (elV tyC f6) 2 (elV tp1 (secF [vi x8, vi (↑n0 : Int)] 0 1)) != 0 then F44 n0 (elV tyR f0) n2 (elV tyT f2) n4 (elV tyF f4) n6 (elV tyC f6) 2 (elV tp1 (secF [vi x8, vi (↑n0 : Int)] 0 1)) else bif F53_0 x9 x10 x11 x12 then 7 else 0
def R22 (n0 : Nat) (f0 : FnV) (n2 : Nat) (f2 : FnV) (n4 : Nat) (f4 : FnV) (n6 : Nat) (f6 : FnV) (x8 x9 x10 x11 x12 : Int) : V := .tup [.int i64 (F22_0 n0 f0 n2 f2 n4 f4 n6 f6 x8 x9 x10 x11 x12), .int i64 (F22_1 n0 f0 n2 f2 n4 f4 n6 f6 x8 x9 x10 x11 x12)]
theorem ev22 (n0 : Nat) (f0 : FnV) (n2 : Nat) (f2 : FnV) (n4 : Nat) (f4 : FnV) (n6 : Nat) (f6 : FnV) (x8 x9 x10 x11 x12 : Int) (hp : SzOk n0 f0 /\ SzOk n6 f6) : evR noE (m22 n0 f0 n2 f2 n4 f4 n6 f6 x8 x9 x10 x11 x12) (R22 n0 f0 n2 f2 n4 f4 n6 f6 x8 x9 x10 x11 x12) := evAsm (fun a0 => evObp (by first | assumption | ((first | exact ⟨hp, rfl, by decide⟩ | (simp_all [cond_eq_ite] <;> first | omega | exact (k44_4 (by assumption) (by assumption) h0).1 | exact (k44_4 (by assumption) (by assumption) h0).2 | exact k44_2 (by assumption) h0 | exact k44_2 (by assumption) h1 | exact k50 h0 | exact k50 h1 | exact k50 hc.1 | exact k44_2 (by assumption) hc)))) (evObt (evBr (fun h0 => evRet (by unfold R22 F22_0 F22_1; try rw [h0]; rfl)) (fun h0 => evObc (evObt (evBr (fun h1 => evRet (by unfold R22 F22_0 F22_1; try rw [h0]; try rw [h1]; rfl)) (fun h1 => evOb (by first | assumption | ((simp_all [cond_eq_ite] <;> first | omega | exact (k44_4 (by assumption) (by assumption) h0).1 | exact (k44_4 (by assumption) (by assumption) h0).2 | exact k44_2 (by assumption) h0 | exact k44_2 (by assumption) h1 | exact k50 h0 | exact k50 h1 | exact k50 hc.1 | exact k44_2 (by assumption) hc))) (evObc (evObt (evRet (by unfold R22 F22_0 F22_1; try rw [h0]; try rw [h1]; rfl)))))))))))
def C22 : PCon := mkC [.agg [.sl tyR, .sl tyT, .sl tyF, .sl tyC], .int .i64, .agg tp4] (fun
 | [.agg [.sl n0 f0, .sl n2 f2, .sl n4 f4, .sl n6 f6], .int _ x8, .agg [.int _ x9, .int _ x10, .int _ x11, .int _ x12]] => SzOk n0 f0 /\ SzOk n6 f6
 | _ => False) fun
 | [.agg [.sl n0 f0, .sl n2 f2, .sl n4 f4, .sl n6 f6], .int _ x8, .agg [.int _ x9, .int _ x10, .int _ x11, .int _ x12]] => R22 n0 f0 n2 f2 n4 f4 n6 f6 x8 x9 x10 x11 x12
 | _ => .any
theorem ok22 : (vP C22).Ok Tryz.prog 22 := mkE tabB16e Tryz.func22 (by kernel_rfl) fun ds hp => rf0 (run22 ..) (ev22 _ _ _ _ _ _ _ _ _ _ _ _ _ hp)
def m25 (n0 : Nat) (f0 : FnV) (n2 : Nat) (f2 : FnV) (n4 : Nat) (f4 : FnV) (n6 : Nat) (f6 : FnV) (x8 x9 x10 : Int) : RT Empty := .asm (true = true -> n0 <= 9223372036854775807) (.obp (((∀ (i : Nat), i < n0 -> (sv (hdV (f0 i))).size <= (9223372036854775807 : Nat)) /\ ∀ (i : Nat), i < n6 -> (sv (hdV (f6 i))).size <= (9223372036854775807 : Nat)) /\ (0 : Nat) = (0 : Nat) /\ (2 : Nat) <= (100 : Nat)) (.obt (.br (F44 n0 (elV tyR f0) n2 (elV tyT f2) n4 (elV tyF f4) n6 (elV tyC f6) 2 (elV tp1 (secF [vi x8, vi (↑n0 : Int)] 0 1)) != 0) (.ret (V.tup [V.kb false, vi (F44 n0 (elV tyR f0) n2 (elV tyT f2) n4 (elV tyF f4) n6 (elV tyC f6) 2 (elV tp1 (secF [vi x8, vi (↑n0 : Int)] 0 1)))])) (.obc (.obt (.br (F45_0 2 (elV tp1 (secF [vi x9, vi x10] 0 1))) (.ret (V.tup [V.kb false, vi 7])) (.ob (decide (0 <= x8 /\ x8 < (↑n0 : Int))) (.obc (.obt (.ret (V.tup [V.bool (F74 (lenV (hdV (tlV (tlV (f0 x8.toNat))))) (fun i => views tp2 (atV (hdV (tlV (tlV (f0 x8.toNat)))) i)) (jv3 (f0 x8.toNat)) x9 x10), vi 0])))))))))))
theorem run25 (n0 : Nat) (f0 : FnV) (n2 : Nat) (f2 : FnV) (n4 : Nat) (f4 : FnV) (n6 : Nat) (f6 : FnV) (x8 x9 x10 : Int) : Fit noD (runL JJ ctB16e u0 s25 [scV n0 f0 n2 f2 n4 f4 n6 f6, vi x8, vi x9, vi x10]) (m25 n0 f0 n2 f2 n4 f4 n6 f6 x8 x9 x10) := ⟨by kernel_rfl, by kernel_rfl⟩
def F25_0 (n0 : Nat) (f0 : FnV) (n2 : Nat) (f2 : FnV) (n4 : Nat) (f4 : FnV) (n6 : Nat) (f6 : FnV) (x8 x9 x10 : Int) : Bool := bif F44 n0 (elV tyR f0) n2 (elV tyT f2) n4 (elV tyF f4) n6 (elV tyC f6) 2 (elV tp1 (secF [vi x8, vi (↑n0 : Int)] 0 1)) != 0 then false else bif F45_0 2 (elV tp1 (secF [vi x9, vi x10] 0 1)) then false else F74 (lenV (hdV (tlV (tlV (f0 x8.toNat))))) (fun i => views tp2 (atV (hdV (tlV (tlV (f0 x8.toNat)))) i)) (jv3 (f0 x8.toNat)) x9 x10
def F25_1 (n0 : Nat) (f0 : FnV) (n2 : Nat) (f2 : FnV) (n4 : Nat) (f4 : FnV) (n6 : Nat) (f6 : FnV) (x8 x9 x10 : Int) : Int := bif F44 n0 (elV tyR f0) n2 (elV tyT f2) n4 (elV tyF f4) n6 (elV tyC f6) 2 (elV tp1 (secF [vi x8, vi (↑n0 : Int)] 0 1)) != 0 then F44 n0 (elV tyR f0) n2 (elV tyT f2) n4 (elV tyF f4) n6 (elV tyC f6) 2 (elV tp1 (secF [vi x8, vi (↑n0 : Int)] 0 1)) else bif F45_0 2 (elV tp1 (secF [vi x9, vi x10] 0 1)) then 7 else 0
def R25 (n0 : Nat) (f0 : FnV) (n2 : Nat) (f2 : FnV) (n4 : Nat) (f4 : FnV) (n6 : Nat) (f6 : FnV) (x8 x9 x10 : Int) : V := .tup [.bool (F25_0 n0 f0 n2 f2 n4 f4 n6 f6 x8 x9 x10), .int i64 (F25_1 n0 f0 n2 f2 n4 f4 n6 f6 x8 x9 x10)]
theorem ev25 (n0 : Nat) (f0 : FnV) (n2 : Nat) (f2 : FnV) (n4 : Nat) (f4 : FnV) (n6 : Nat) (f6 : FnV) (x8 x9 x10 : Int) (hp : SzOk n0 f0 /\ SzOk n6 f6) : evR noE (m25 n0 f0 n2 f2 n4 f4 n6 f6 x8 x9 x10) (R25 n0 f0 n2 f2 n4 f4 n6 f6 x8 x9 x10) := evAsm (fun a0 => evObp (by first | assumption | ((first | exact ⟨hp, rfl, by decide⟩ | (simp_all [cond_eq_ite] <;> first | omega | exact (k44_4 (by assumption) (by assumption) h0).1 | exact (k44_4 (by assumption) (by assumption) h0).2 | exact k44_2 (by assumption) h0 | exact k44_2 (by assumption) h1 | exact k50 h0 | exact k50 h1 | exact k50 hc.1 | exact k44_2 (by assumption) hc)))) (evObt (evBr (fun h0 => evRet (by unfold R25 F25_0 F25_1; try rw [h0]; rfl)) (fun h0 => evObc (evObt (evBr (fun h1 => evRet (by unfold R25 F25_0 F25_1; try rw [h0]; try rw [h1]; rfl)) (fun h1 => evOb (by first | assumption | ((simp_all [cond_eq_ite] <;> first | omega | exact (k44_4 (by assumption) (by assumption) h0).1 | exact (k44_4 (by assumption) (by assumption) h0).2 | exact k44_2 (by assumption) h0 | exact k44_2 (by assumption) h1 | exact k50 h0 | exact k50 h1 | exact k50 hc.1 | exact k44_2 (by assumption) hc))) (evObc (evObt (evRet (by unfold R25 F25_0 F25_1; try rw [h0]; try rw [h1]; rfl)))))))))))
def C25 : PCon := mkC [.agg [.sl tyR, .sl tyT, .sl tyF, .sl tyC], .int .i64, .int .i64, .int .i64] (fun
 | [.agg [.sl n0 f0, .sl n2 f2, .sl n4 f4, .sl n6 f6], .int _ x8, .int _ x9, .int _ x10] => SzOk n0 f0 /\ SzOk n6 f6
 | _ => False) fun
 | [.agg [.sl n0 f0, .sl n2 f2, .sl n4 f4, .sl n6 f6], .int _ x8, .int _ x9, .int _ x10] => R25 n0 f0 n2 f2 n4 f4 n6 f6 x8 x9 x10
 | _ => .any
theorem ok25 : (vP C25).Ok Tryz.prog 25 := mkE tabB16e Tryz.func25 (by kernel_rfl) fun ds hp => rf0 (run25 ..) (ev25 _ _ _ _ _ _ _ _ _ _ _ hp)
def m15 (n0 : Nat) (f0 : FnV) (n2 : Nat) (f2 : FnV) (n4 : Nat) (f4 : FnV) (n6 : Nat) (f6 : FnV) (x8 x9 x10 : Int) : RT Empty := .asm (true = true -> n6 <= 9223372036854775807) (.obp (((∀ (i : Nat), i < n0 -> (sv (hdV (f0 i))).size <= (9223372036854775807 : Nat)) /\ ∀ (i : Nat), i < n6 -> (sv (hdV (f6 i))).size <= (9223372036854775807 : Nat)) /\ (0 : Nat) = (0 : Nat) /\ (2 : Nat) <= (100 : Nat)) (.obt (.br (F44 n0 (elV tyR f0) n2 (elV tyT f2) n4 (elV tyF f4) n6 (elV tyC f6) 2 (elV tp1 (secF [vi x8, vi (↑n6 : Int)] 0 1)) != 0) (.ret (V.tup [vi 0, vi (F44 n0 (elV tyR f0) n2 (elV tyT f2) n4 (elV tyF f4) n6 (elV tyC f6) 2 (elV tp1 (secF [vi x8, vi (↑n6 : Int)] 0 1)))])) (.obc (.obt (.br (F45_0 2 (elV tp1 (secF [vi x9, vi x10] 0 1))) (.ret (V.tup [vi 0, vi 7])) (.obp ((0 : Int) <= x8 /\ x8 < (↑n6 : Int)) (.obt (.ret (V.tup [vi (F46 n2 (elV tyT f2) (elV tyC f6) x8 x9 x10), vi 0]))))))))))
theorem run15 (n0 : Nat) (f0 : FnV) (n2 : Nat) (f2 : FnV) (n4 : Nat) (f4 : FnV) (n6 : Nat) (f6 : FnV) (x8 x9 x10 : Int) : Fit noD (runL JJ ctB16e u0 s15 [scV n0 f0 n2 f2 n4 f4 n6 f6, vi x8, vi x9, vi x10]) (m15 n0 f0 n2 f2 n4 f4 n6 f6 x8 x9 x10) := ⟨by kernel_rfl, by kernel_rfl⟩
def F15_0 (n0 : Nat) (f0 : FnV) (n2 : Nat) (f2 : FnV) (n4 : Nat) (f4 : FnV) (n6 : Nat) (f6 : FnV) (x8 x9 x10 : Int) : Int := bif F44 n0 (elV tyR f0) n2 (elV tyT f2) n4 (elV tyF f4) n6 (elV tyC f6) 2 (elV tp1 (secF [vi x8, vi (↑n6 : Int)] 0 1)) != 0 then 0 else bif F45_0 2 (elV tp1 (secF [vi x9, vi x10] 0 1)) then 0 else F46 n2 (elV tyT f2) (elV tyC f6) x8 x9 x10
def F15_1 (n0 : Nat) (f0 : FnV) (n2 : Nat) (f2 : FnV) (n4 : Nat) (f4 : FnV) (n6 : Nat) (f6 : FnV) (x8 x9 x10 : Int) : Int := bif F44 n0 (elV tyR f0) n2 (elV tyT f2) n4 (elV tyF f4) n6 (elV tyC f6) 2 (elV tp1 (secF [vi x8, vi (↑n6 : Int)] 0 1)) != 0 then F44 n0 (elV tyR f0) n2 (elV tyT f2) n4 (elV tyF f4) n6 (elV tyC f6) 2 (elV tp1 (secF [vi x8, vi (↑n6 : Int)] 0 1)) else bif F45_0 2 (elV tp1 (secF [vi x9, vi x10] 0 1)) then 7 else 0
def R15 (n0 : Nat) (f0 : FnV) (n2 : Nat) (f2 : FnV) (n4 : Nat) (f4 : FnV) (n6 : Nat) (f6 : FnV) (x8 x9 x10 : Int) : V := .tup [.int i64 (F15_0 n0 f0 n2 f2 n4 f4 n6 f6 x8 x9 x10), .int i64 (F15_1 n0 f0 n2 f2 n4 f4 n6 f6 x8 x9 x10)]
theorem ev15 (n0 : Nat) (f0 : FnV) (n2 : Nat) (f2 : FnV) (n4 : Nat) (f4 : FnV) (n6 : Nat) (f6 : FnV) (x8 x9 x10 : Int) (hp : SzOk n0 f0 /\ SzOk n6 f6) : evR noE (m15 n0 f0 n2 f2 n4 f4 n6 f6 x8 x9 x10) (R15 n0 f0 n2 f2 n4 f4 n6 f6 x8 x9 x10) := evAsm (fun a0 => evObp (by first | assumption | ((first | exact ⟨hp, rfl, by decide⟩ | (simp_all [cond_eq_ite] <;> first | omega | exact (k44_4 (by assumption) (by assumption) h0).1 | exact (k44_4 (by assumption) (by assumption) h0).2 | exact k44_2 (by assumption) h0 | exact k44_2 (by assumption) h1 | exact k50 h0 | exact k50 h1 | exact k50 hc.1 | exact k44_2 (by assumption) hc)))) (evObt (evBr (fun h0 => evRet (by unfold R15 F15_0 F15_1; try rw [h0]; rfl)) (fun h0 => evObc (evObt (evBr (fun h1 => evRet (by unfold R15 F15_0 F15_1; try rw [h0]; try rw [h1]; rfl)) (fun h1 => evObp (by first | assumption | ((first | exact ⟨hp, rfl, by decide⟩ | (simp_all [cond_eq_ite] <;> first | omega | exact (k44_4 (by assumption) (by assumption) h0).1 | exact (k44_4 (by assumption) (by assumption) h0).2 | exact k44_2 (by assumption) h0 | exact k44_2 (by assumption) h1 | exact k50 h0 | exact k50 h1 | exact k50 hc.1 | exact k44_2 (by assumption) hc)))) (evObt (evRet (by unfold R15 F15_0 F15_1; try rw [h0]; try rw [h1]; rfl))))))))))
def C15 : PCon := mkC [.agg [.sl tyR, .sl tyT, .sl tyF, .sl tyC], .int .i64, .int .i64, .int .i64] (fun
 | [.agg [.sl n0 f0, .sl n2 f2, .sl n4 f4, .sl n6 f6], .int _ x8, .int _ x9, .int _ x10] => SzOk n0 f0 /\ SzOk n6 f6
 | _ => False) fun
 | [.agg [.sl n0 f0, .sl n2 f2, .sl n4 f4, .sl n6 f6], .int _ x8, .int _ x9, .int _ x10] => R15 n0 f0 n2 f2 n4 f4 n6 f6 x8 x9 x10
 | _ => .any
theorem ok15 : (vP C15).Ok Tryz.prog 15 := mkE tabB16e Tryz.func15 (by kernel_rfl) fun ds hp => rf0 (run15 ..) (ev15 _ _ _ _ _ _ _ _ _ _ _ hp)
end
end Go.Dx
namespace Go.Dx
open Go.IntKind (i64 u64 u8)
open Go.Sx Go.Proofs
noncomputable section
def ctB20 : CTab := (22, .con C22) :: (25, .con C25) :: (15, .con C15) :: ctB16e
theorem tabB20 : TabOk Tryz.prog eqs its ctB20 := .con ok22 (.con ok25 (.con ok15 (tabB16e)))
end
noncomputable section
def ctB21 : CTab := ctB20
theorem tabB21 : TabOk Tryz.prog eqs its ctB21 := tabB20
end
noncomputable section
def ctB22 : CTab := ctB21
theorem tabB22 : TabOk Tryz.prog eqs its ctB22 := tabB21
def u2 : Unr := fun k => bif Nat.beq k 2 then 5 else 0
end
noncomputable section
def ctB23 : CTab := ctB22
theorem tabB23 : TabOk Tryz.prog eqs its ctB23 := tabB22
attribute [local irreducible] F44 F50_0 F91_0
end
end Go.Dx
namespace Go.Dx
open Go.Sx
section
variable {J : Type}
def normR : V -> Leaf J -> Leaf J
 | .bool b, .res (.kb _) => .res (.kb b)
 | r, _ => .res r
theorem normR_ok (r : V) (a : Leaf J) : topQ r (normR r a) := by
 unfold normR; split <;> rfl
def norm (r : V) : T (Leaf J) -> T (Leaf J)
 | .ret a => .ret (normR r a)
 | .br b x y => match b with
   | true => .br true (norm r x) y
   | false => .br false x (norm r y)
 | .ob _ x => .ob true (norm r x)
 | .obi c d x => match c with
   | true => .obi true true (norm r x)
   | false => .obi false d (norm r x)
 | .obp _ x => .obp True (norm r x)
 | .obq a _ x => .obq a a (norm r x)
 | .fail _ => .ret (.res r)
 | .loop .. => .ret (.res r)
 | .all f => .all fun l => norm r (f l)
 | .und x y => .und (norm r x) (norm r y)
 | .asm p x => .asm p (norm r x)
theorem norm_sat {LP : LPred} (r : V) : ∀ t : T (Leaf J), sat LP (norm r t) (topQ r) := by
 intro t
 induction t with
 | ret a => exact normR_ok r a
 | br b x y hx hy =>
   cases b with
   | true => exact ⟨fun _ => hx, (fun e => by cases e)⟩
   | false => exact ⟨(fun e => by cases e), fun _ => hy⟩
 | ob b x hx => exact ⟨rfl, hx⟩
 | obi c d x hx =>
   cases c with
   | true => exact ⟨fun _ => rfl, hx⟩
   | false => exact ⟨(fun e => by cases e), hx⟩
 | obp p x hx => exact ⟨trivial, hx⟩
 | obq a b x hx => exact ⟨rfl, hx⟩
 | fail n => exact (rfl : toA r = toA r)
 | loop fr b e h g k hk => exact (rfl : toA r = toA r)
 | all f hf => exact fun l => hf l
 | und x y hx hy => exact ⟨hx, hy⟩
 | asm p x hx => exact fun _ => hx
theorem run_norm {ct : CTab} {un : Unr} {w0 : World} {sf : SFun} {ds : List V} {r : V} (h : norm r (runL J ct un sf ds) = runL J ct un sf ds) : sat (LPof w0 (SV ct)) (runL J ct un sf ds) (topQ r) := by
 rw [← h]; exact norm_sat r _
end
def mkCB (ts : List Ty) (pre : List V -> Bool) (r : List V -> V) : PCon := fun ds => cond (pre (unqs ts ds)) (some ((fxLs ts ds [], fxRs ts ds []), True, r (unqs ts ds))) none
theorem mkCB_ok {P : Program} {f : FuncId} {ts : List Ty} {pre : List V -> Prop} {preB : List V -> Bool} {r : List V -> V} (h : ∀ ds, preB ds = true -> pre ds) (hO : (vP (mkC ts pre r)).Ok P f) : (vP (mkCB ts preB r)).Ok P f := by
 refine ⟨fun B m lh w args vs K hrel hargs hsp => ?_, fun _ _ _ _ _ hk ⟨ds, d, p, r, h1, h2, h3, h4, h5⟩ => ⟨ds, d, p, r, h1, h2, h3, h4, hk _ _ h5⟩, fun _ _ _ _ ⟨_, _, _, _, _, _, _, _, h⟩ => h⟩
 refine hO.sound B m lh w args vs K hrel hargs ?_
 obtain ⟨ds, d, p, r', h1, h2, ⟨h30, h3⟩, h4, h5⟩ := hsp
 unfold mkCB at h2
 cases hb : preB (unqs ts ds) with
 | false => rw [hb] at h2; cases h2
 | true =>
   rw [hb] at h2
   simp only [cond_true, Option.some.injEq, Prod.mk.injEq] at h2
   obtain ⟨rfl, rfl, rfl⟩ := h2
   exact ⟨ds, _, _, _, h1, rfl, ⟨h30, h _ hb⟩, h4, h5⟩
def eqL (p : V -> V -> Bool) : List V -> List V -> Bool
 | [], [] => true
 | v :: vs, x :: xs => p v x && eqL p vs xs
 | _, _ => false
def eqD : Nat -> V -> V -> Bool
 | 0, _, _ => false
 | fu + 1, v, x => match v, x with
   | .int k a, .int k' b => decide (k = k') && decide (a = b)
   | .bool a, .bool b => a == b
   | .kb a, .bool b => a == b
   | .str a, .str b => decide (a.data.toList = b.data.toList)
   | .agg xs, .agg ys => eqL (eqD fu) xs ys
   | .sl n f, .sl m g => Nat.beq n m && allB n fun i => eqL (eqD fu) (f i) (g i) && (g i).all V.fc
   | .sq n _ f, .sl m g => Nat.beq n m && allB n fun i => eqL (eqD fu) (f i) (g i) && (g i).all V.fc
   | _, _ => false
theorem eqL_ok {w0 : World} {lh : List LObj} {p : V -> V -> Bool} (hp : ∀ v x a, p v x = true -> vr w0 lh Nu.nil v a -> vr w0 lh Nu.nil x a) : ∀ (vs xs : List V) (qs : List AVal), eqL p vs xs = true -> vrs w0 lh Nu.nil vs qs -> vrs w0 lh Nu.nil xs qs
 | [], [], qs, _, h => h
 | v :: vs, x :: xs, qs, h, h1 => by
   simp only [eqL, Bool.and_eq_true] at h
   simp only [vrs] at h1 ⊢
   obtain ⟨y, ys, rfl, h2, h3⟩ := h1
   exact ⟨y, ys, rfl, hp _ _ _ h.1 h2, eqL_ok hp vs xs ys h.2 h3⟩
 | [], _ :: _, _, h, _ => by simp [eqL] at h
 | _ :: _, [], _, h, _ => by simp [eqL] at h
theorem eqD_ok {w0 : World} {lh : List LObj} : ∀ (fu : Nat) (v x : V) (a : AVal), eqD fu v x = true -> vr w0 lh Nu.nil v a -> vr w0 lh Nu.nil x a
 | 0, v, x, a, h, _ => by simp [eqD] at h
 | fu + 1, v, x, a, h, hv => by
   simp only [eqD] at h
   split at h
   ·simp only [Bool.and_eq_true, decide_eq_true_eq] at h; obtain ⟨rfl, rfl⟩ := h; exact hv
   ·have := eq_of_beq h; subst this; exact hv
   ·have := eq_of_beq h; subst this; simp only [vr] at hv ⊢; exact hv
   ·rename_i s t
    have h0 := of_decide_eq_true h
    have : s = t := by
     cases s with | mk d =>
     cases t with | mk e =>
     have : d = e := Array.toList_inj.1 h0
     rw [this]
    subst this; exact hv
   ·simp only [vr] at hv ⊢
    obtain ⟨qs, rfl, h2⟩ := hv
    exact ⟨qs, rfl, eqL_ok (fun v x a => eqD_ok fu v x a) _ _ _ h h2⟩
   ·simp only [Bool.and_eq_true] at h
    have hn := Nat.eq_of_beq_eq_true h.1
    subst hn
    simp only [vr] at hv ⊢
    obtain ⟨p, c, esz, h1, h2, h3, h4, h5⟩ := hv
    refine ⟨p, c, esz, h1, h2, h3, h4, fun i hi => ?_⟩
    obtain ⟨q, qs, g1, g2, g3, g4⟩ := h5 i hi
    have hh := allB_ok h.2 i hi
    simp only [Bool.and_eq_true] at hh
    exact ⟨q, qs, g1, g2, eqL_ok (fun v x a => eqD_ok fu v x a) _ _ _ hh.1 g3, hh.2⟩
   ·simp only [Bool.and_eq_true] at h
    have hn := Nat.eq_of_beq_eq_true h.1
    subst hn
    simp only [vr] at hv ⊢
    obtain ⟨p, c, esz, h1, h2, h3, h4, h5⟩ := hv
    refine ⟨p, c, esz, h1, h2.1, h3, h4, fun i hi => ?_⟩
    obtain ⟨q, qs, g1, g2, g3, g4⟩ := h5 i hi
    have hh := allB_ok h.2 i hi
    simp only [Bool.and_eq_true] at hh
    exact ⟨q, qs, g1, g2, eqL_ok (fun v x a => eqD_ok fu v x a) _ _ _ hh.1 g3, hh.2⟩
   ·cases h
def atC : List (List V × V) -> PCon
 | [], _ => none
 | (ex, r) :: l, ds => cond (eqL (eqD 8) ds ex) (some (([], []), True, r)) (atC l ds)
theorem atC_ok {P : Program} {f : FuncId} {C : PCon} (hO : (vP C).Ok P f) : ∀ (l : List (List V × V)), (∀ e ∈ l, ∃ d p, C e.1 = some (d, p, e.2) /\ d.1 = d.2 /\ p) -> (vP (atC l)).Ok P f := by
 intro l hl
 refine ⟨fun B m lh w args vs K hrel hargs hsp => ?_, fun _ _ _ _ _ hk ⟨ds, d, p, r, h1, h2, h3, h4, h5⟩ => ⟨ds, d, p, r, h1, h2, h3, h4, hk _ _ h5⟩, fun _ _ _ _ ⟨_, _, _, _, _, _, _, _, h⟩ => h⟩
 refine hO.sound B m lh w args vs K hrel hargs ?_
 obtain ⟨ds, d, p, r', h1, h2, _, h4, h5⟩ := hsp
 induction l with
 | nil => simp [atC] at h2
 | cons e l ih =>
   simp only [atC] at h2
   cases hb : eqL (eqD 8) ds e.1 with
   | true =>
     rw [hb] at h2
     simp only [cond_true, Option.some.injEq, Prod.mk.injEq] at h2
     obtain ⟨_, _, rfl⟩ := h2
     obtain ⟨d', p', e1, e2, e3⟩ := hl e (List.mem_cons_self ..)
     exact ⟨e.1, d', p', _, eqL_ok (fun v x a => eqD_ok 8 v x a) _ _ _ hb h1, e1, ⟨e2, e3⟩, h4, h5⟩
   | false =>
     rw [hb] at h2
     exact ih (fun e he => hl e (List.mem_cons_of_mem _ he)) h2
end Go.Dx
namespace Go.Dx
open Go.Sx
theorem at1 {ts : List Ty} {pre : List V -> Prop} {r : List V -> V} {raw : List V} {res : V} (hp : pre (unqs ts (views ts raw))) (hr : r (unqs ts (views ts raw)) = res) : ∃ d p, mkC ts pre r (views ts raw) = some (d, p, res) /\ d.1 = d.2 /\ p :=
 ⟨_, _, by rw [mkC, hr], fxs_views ts raw [], hp⟩
theorem all2 {α : Type} {a : α} {l : List α} {Q : α -> Prop} (h : Q a) (hl : ∀ e ∈ l, Q e) : ∀ e ∈ a :: l, Q e := fun e he => by
 rcases List.mem_cons.1 he with rfl | he
 ·exact h
 ·exact hl e he
theorem all0 {α : Type} {Q : α -> Prop} : ∀ e ∈ ([] : List α), Q e := fun e he => by cases he
end Go.Dx
namespace Go.Dx
open Go.IntKind (i64 u64 u8)
open Go.Sx Go.Proofs
noncomputable section
def ctB17 : CTab := ctB23
theorem tabB17 : TabOk Tryz.prog eqs its ctB17 := tabB23
def uB : Unr := fun _ => 1000
def szB (n : Nat) (f : Nat -> List V) : Bool := allB n fun i => Nat.ble (sv (hdV (f i))).size 9223372036854775807
theorem szB_ok {n : Nat} {f : Nat -> List V} (h : szB n f = true) : SzOk n f := fun i hi => Nat.le_of_ble_eq_true (allB_ok h i hi)
def exN1 : ByteArray := ⟨#[104, 105, 103, 104]⟩
def exN2 : ByteArray := ⟨#[122, 101, 98, 114, 97]⟩
def exN3 : ByteArray := ⟨#[99, 49]⟩
def exR : Nat -> List V
 | 0 => [.str exN1, vi 0, .sl 3 (fun | 0 => [vi 0, vi 0] | 1 => [vi 10000, vi 0] | _ => [vi 10000, vi 10000]), vi 4000]
 | _ => [.str exN2, vi 3, .sl 2 (fun | 0 => [vi 5000, vi (-2000)] | _ => [vi 5000, vi 2000]), vi 3000]
def exT : Nat -> List V := fun _ => [vi 4000, vi 3000, vi 1000, vi 20, vi 40]
def exF : Nat -> List V := fun _ => [vi 10000, vi 5000, vi 0, vi 5000, .sl 1 fun _ => [vi 250, vi 750, vi 10, vi 30]]
def exK : Nat -> List V := fun _ => [.str exN3, vi 4000, vi 4000, vi 60, vi 0, vi (-1)]
def exS : V := .agg [.sl 2 exR, .sl 1 exT, .sl 1 exF, .sl 1 exK]
def ty44 : List Ty := [.agg [.sl tyR, .sl tyT, .sl tyF, .sl tyC], .sl tp1]
def AT44 : PCon := atC [(views ty44 [exS, .sl 2 (fun | 0 => [vi 0] | _ => [vi 1])], vi 0)]
theorem okA44 : (vP AT44).Ok Tryz.prog 44 := atC_ok ok44 _ (all2 (at1 (ts := ty44) (raw := [exS, .sl 2 (fun | 0 => [vi 0] | _ => [vi 1])]) (⟨⟨szB_ok (by kernel_rfl), szB_ok (by kernel_rfl)⟩, rfl, by decide⟩) (by kernel_rfl)) (all0))
def ty23 : List Ty := [.agg [.sl tyR, .sl tyT, .sl tyF, .sl tyC]]
def AT23 : PCon := atC [(views ty23 [.agg [.sl 0 exR, .sl 1 (fun _ => [vi 0, vi 0, vi 0, vi 0, vi 0]), .sl 0 exF, .sl 0 exK]], .tup [vi 2, vi 0, vi 7])]
theorem okA23 : (vP AT23).Ok Tryz.prog 23 := atC_ok ok23 _ (all2 (at1 (ts := ty23) (raw := [.agg [.sl 0 exR, .sl 1 (fun _ => [vi 0, vi 0, vi 0, vi 0, vi 0]), .sl 0 exF, .sl 0 exK]]) (⟨szB_ok (by kernel_rfl), szB_ok (by kernel_rfl)⟩) (by kernel_rfl)) (all0))
def ty22 : List Ty := [.agg [.sl tyR, .sl tyT, .sl tyF, .sl tyC], .int .i64, .agg tp4]
def AT22 : PCon := atC [(views ty22 [exS, vi 0, .agg [vi 8500, vi (-1500), vi 11500, vi 1500]], .tup [vi 1, vi 0])]
theorem okA22 : (vP AT22).Ok Tryz.prog 22 := atC_ok ok22 _ (all2 (at1 (ts := ty22) (raw := [exS, vi 0, .agg [vi 8500, vi (-1500), vi 11500, vi 1500]]) (⟨szB_ok (by kernel_rfl), szB_ok (by kernel_rfl)⟩) (by kernel_rfl)) (all0))
def ty15 : List Ty := [.agg [.sl tyR, .sl tyT, .sl tyF, .sl tyC], .int .i64, .int .i64, .int .i64]
def AT15 : PCon := atC [(views ty15 [exS, vi 0, vi 4000, vi 5000], .tup [vi (-1), vi 0])]
theorem okA15 : (vP AT15).Ok Tryz.prog 15 := atC_ok ok15 _ (all2 (at1 (ts := ty15) (raw := [exS, vi 0, vi 4000, vi 5000]) (⟨szB_ok (by kernel_rfl), szB_ok (by kernel_rfl)⟩) (by kernel_rfl)) (all0))
end
noncomputable section
def ctB18 : CTab := [(44, .con AT44), (23, .con AT23), (22, .con AT22), (15, .con AT15), (25, .con C25), (55, .con C55), (61, .con C61), (74, .con C74), (108, .con C108), (46, .con C46), (111, .con C111), (56, .con C56), (47, .con C47), (145, .con C145), (140, .con C140), (49, .con C49), (123, .con C123), (62, .con C62), (68, .con C68), (63, .con C63), (69, .con C69), (117, .inl s117 u0), (116, .inl s116 u0), (115, .con C115), (114, .con C114), (147, .con C147), (64, .con C64), (66, .con C66), (113, .con C113), (65, .con C65), (67, .con C67), (53, .con C53), (45, .con C45), (90, .con C90), (119, .con C119), (121, .con C121), (99, .con C99), (129, .con C129), (148, .con C148), (149, .con C149), (112, .con C112), (118, .con C118), (120, .con C120), (133, .con C133), (103, .con C103), (100, .con C100), (134, .con C134), (135, .con C135), (78, .con C78), (54, .con C54), (48, .con C48), (102, .con C102), (84, .con C84), (85, .con C85), (127, .con C127), (101, .con C101), (86, .con C86), (162, .con C162), (146, .con C146), (83, .inl s83 u0), (19, .inl s19 uB), (17, .inl s17 uB), (43, .inl s43 uB), (57, .inl s57 uB), (109, .inl s109 uB), (139, .inl s139 uB), (163, .inl s163 uB), (177, .inl s177 uB), (141, .inl s141 uB), (142, .inl s142 uB), (143, .inl s143 uB), (131, .inl s131 uB), (161, .inl s161 uB)]
theorem tabB18 : TabOk Tryz.prog eqs its ctB18 := .con okA44 (.con okA23 (.con okA22 (.con okA15 (.con ok25 (.con ok55 (.con ok61 (.con ok74 (.con ok108 (.con ok46 (.con ok111 (.con ok56 (.con ok47 (.con ok145 (.con ok140 (.con ok49 (.con ok123 (.con ok62 (.con ok68 (.con ok63 (.con ok69 (.inl Tryz.func117 (by kernel_rfl) (by kernel_rfl) (by kernel_rfl) (.inl Tryz.func116 (by kernel_rfl) (by kernel_rfl) (by kernel_rfl) (.con ok115 (.con ok114 (.con ok147 (.con ok64 (.con ok66 (.con ok113 (.con ok65 (.con ok67 (.con ok53 (.con ok45 (.con ok90 (.con ok119 (.con ok121 (.con ok99 (.con ok129 (.con ok148 (.con ok149 (.con ok112 (.con ok118 (.con ok120 (.con ok133 (.con ok103 (.con ok100 (.con ok134 (.con ok135 (.con ok78 (.con ok54 (.con ok48 (.con ok102 (.con ok84 (.con ok85 (.con ok127 (.con ok101 (.con ok86 (.con ok162 (.con ok146 (.inl Tryz.func83 (by kernel_rfl) (by kernel_rfl) (by kernel_rfl) (.inl Tryz.func19 (by kernel_rfl) (by kernel_rfl) (by kernel_rfl) (.inl Tryz.func17 (by kernel_rfl) (by kernel_rfl) (by kernel_rfl) (.inl Tryz.func43 (by kernel_rfl) (by kernel_rfl) (by kernel_rfl) (.inl Tryz.func57 (by kernel_rfl) (by kernel_rfl) (by kernel_rfl) (.inl Tryz.func109 (by kernel_rfl) (by kernel_rfl) (by kernel_rfl) (.inl Tryz.func139 (by kernel_rfl) (by kernel_rfl) (by kernel_rfl) (.inl Tryz.func163 (by kernel_rfl) (by kernel_rfl) (by kernel_rfl) (.inl Tryz.func177 (by kernel_rfl) (by kernel_rfl) (by kernel_rfl) (.inl Tryz.func141 (by kernel_rfl) (by kernel_rfl) (by kernel_rfl) (.inl Tryz.func142 (by kernel_rfl) (by kernel_rfl) (by kernel_rfl) (.inl Tryz.func143 (by kernel_rfl) (by kernel_rfl) (by kernel_rfl) (.inl Tryz.func131 (by kernel_rfl) (by kernel_rfl) (by kernel_rfl) (.inl Tryz.func161 (by kernel_rfl) (by kernel_rfl) (by kernel_rfl) (.nil)))))))))))))))))))))))))))))))))))))))))))))))))))))))))))))))))))))))))
theorem run19 (w0 : World) : sat (LPof w0 (SV ctB18)) (runL (JJ) ctB18 uB s19 []) (topQ (.bool true)) := run_norm (by kernel_rfl)
def C19 : PCon := mkC [] (fun _ => True) fun _ => .bool true
theorem ok19 : (vP C19).Ok Tryz.prog 19 := mkC_ev (J := JJ) (un := uB) tabB18 hE hI Tryz.func19 (by kernel_rfl) (by kernel_rfl) (by kernel_rfl) rfl (fun w0 ds hp => run19 w0)
end
end Go.Dx
namespace Go.Dx
open Go.IntKind (i64 u64 u8)
open Go.Sx
noncomputable section
theorem wrapU {x : Int} (h1 : 0 <= x) (h2 : x < 18446744073709551616) : u64.wrap x = x := IntWalk.u64_in _ (by omega)
theorem mulS {x y A B : Int} (h1 : -A <= x) (h2 : x <= A) (h3 : -B <= y) (h4 : y <= B) : -(A * B) <= x * y /\ x * y <= A * B := by
 have hA : 0 <= A := by omega
 have hB : 0 <= B := by omega
 by_cases hy : 0 <= y
 ·have a1 : x * y <= A * y := Int.mul_le_mul_of_nonneg_right h2 hy
  have a2 : A * y <= A * B := iml h4 hA
  have a3 : -A * y <= x * y := Int.mul_le_mul_of_nonneg_right h1 hy
  rw [Int.neg_mul] at a3
  exact ⟨by omega, by omega⟩
 ·have hy' : 0 <= -y := by omega
  have a1 : x * (-y) <= A * (-y) := Int.mul_le_mul_of_nonneg_right h2 hy'
  have a2 : A * (-y) <= A * B := iml (by omega) hA
  have a3 : -A * (-y) <= x * (-y) := Int.mul_le_mul_of_nonneg_right h1 hy'
  have b1 : x * (-y) = -(x * y) := Int.mul_neg _ _
  have b3 : -A * (-y) = -(A * (-y)) := Int.neg_mul _ _
  exact ⟨by omega, by omega⟩
theorem sqN (x : Int) : 0 <= x * x := by
 by_cases h : 0 <= x
 ·exact imn h h
 ·rw [← Int.neg_mul_neg]; exact imn (by omega) (by omega)
theorem parts {x : Int} (h0 : 0 <= x) (h1 : x < 18446744073709551616) : 0 <= x / 4294967296 /\ x / 4294967296 <= 4294967295 /\ 0 <= x % 4294967296 /\ x % 4294967296 <= 4294967295 := by omega
theorem hi_p {x y : Int} (hx0 : 0 <= x) (hx : x < 18446744073709551616) (hy0 : 0 <= y) (hy : y < 18446744073709551616) : F162_0 x y = x * y / 18446744073709551616 := by
 rw [← mul64_arith x y hx0 hx hy0 hy]
 unfold F162_0
 simp only [and_low32 _ hx0 hx, and_low32 _ hy0 hy, IntKind.wrap_u64]
 rw [and_low32 _ (by omega) (by omega)]
 simp only [show (2 : Int) ^ 32 = 4294967296 from rfl]
 rw [Int.fdiv_eq_ediv_of_nonneg _ (by omega), Int.fdiv_eq_ediv_of_nonneg _ (by omega), Int.fdiv_eq_ediv_of_nonneg _ (by omega), Int.fdiv_eq_ediv_of_nonneg _ (by omega), Int.fdiv_eq_ediv_of_nonneg _ (by omega)]
theorem lo_p (x y : Int) : F162_1 x y = x * y % 18446744073709551616 := by unfold F162_1; rw [IntKind.wrap_u64]
theorem atMost_p {x y z w : Int} (hx0 : 0 <= x) (hx : x < 9223372036854775808) (hy0 : 0 <= y) (hy : y < 9223372036854775808) (hz0 : 0 <= z) (hz : z < 9223372036854775808) (hw0 : 0 <= w) (hw : w < 9223372036854775808) :
 F135_0 (F134_0 x y) (F134_1 x y) (F134_0 z w) (F134_1 z w) = decide (x * y <= z * w) := by
 unfold F134_0 F134_1 F135_0
 rw [wrapU hx0 (by omega), wrapU hy0 (by omega), wrapU hz0 (by omega), wrapU hw0 (by omega)]
 rw [hi_p hx0 (by omega) hy0 (by omega), hi_p hz0 (by omega) hw0 (by omega), lo_p, lo_p]
 generalize x * y = a
 generalize z * w = b
 rw [Bool.eq_iff_iff]
 simp only [Bool.cond_eq_ite, Bool.and_true, Bool.and_eq_true, beq_iff_eq, decide_eq_true_eq]
 split <;> (try split) <;> (try split) <;> simp_all <;> omega
def nr (ax ay bx by' px py r : Int) : Bool :=
 bif decide ((px - ax) * (bx - ax) + (py - ay) * (by' - ay) <= 0) then decide ((px - ax) * (px - ax) + (py - ay) * (py - ay) <= r * r)
 else bif decide ((bx - ax) * (bx - ax) + (by' - ay) * (by' - ay) <= (px - ax) * (bx - ax) + (py - ay) * (by' - ay)) then decide ((px - bx) * (px - bx) + (py - by') * (py - by') <= r * r)
 else decide (((bx - ax) * (py - ay) - (by' - ay) * (px - ax)) * ((bx - ax) * (py - ay) - (by' - ay) * (px - ax)) <= r * r * ((bx - ax) * (bx - ax) + (by' - ay) * (by' - ay)))
def sm (x : Int) : Prop := -536870912 <= x /\ x <= 536870912
theorem abs_sq (c : Int) : max c (0 - c) * max c (0 - c) = c * c := by
 by_cases h : 0 <= c
 ·rw [show max c (0 - c) = c from by omega]
 ·rw [show max c (0 - c) = -c from by omega, Int.neg_mul_neg]
section
variable {ax ay bx by' px py r : Int}
theorem near_p (h1 : sm ax) (h2 : sm ay) (h3 : sm bx) (h4 : sm by') (h5 : sm px) (h6 : sm py) (h7 : 0 <= r) (h8 : r <= 1073741824) : F103_0 ax ay bx by' px py r = nr ax ay bx by' px py r := by
 unfold sm at *
 unfold F103_0 nr F84_0 F84_1
 rw [wrapI (x := bx - ax) (by omega) (by omega), wrapI (x := by' - ay) (by omega) (by omega), wrapI (x := px - ax) (by omega) (by omega), wrapI (x := py - ay) (by omega) (by omega), wrapI (x := px - bx) (by omega) (by omega), wrapI (x := py - by') (by omega) (by omega)]
 have e1 : -1073741824 <= bx - ax /\ bx - ax <= 1073741824 := by omega
 have e2 : -1073741824 <= by' - ay /\ by' - ay <= 1073741824 := by omega
 have e3 : -1073741824 <= px - ax /\ px - ax <= 1073741824 := by omega
 have e4 : -1073741824 <= py - ay /\ py - ay <= 1073741824 := by omega
 have e5 : -1073741824 <= px - bx /\ px - bx <= 1073741824 := by omega
 have e6 : -1073741824 <= py - by' /\ py - by' <= 1073741824 := by omega
 generalize bx - ax = dx at *
 generalize by' - ay = dy at *
 generalize px - ax = ux at *
 generalize py - ay = uy at *
 generalize px - bx = vx at *
 generalize py - by' = vy at *
 have k : ∀ a b c d : Int, (-1073741824 <= a /\ a <= 1073741824) -> (-1073741824 <= b /\ b <= 1073741824) -> (-1073741824 <= c /\ c <= 1073741824) -> (-1073741824 <= d /\ d <= 1073741824) -> F85_0 a b c d = a * c + b * d /\ -2305843009213693952 <= a * c + b * d /\ a * c + b * d <= 2305843009213693952 := by
  intro a b c d ha hb hc hd
  have m1 := mulS ha.1 ha.2 hc.1 hc.2
  have m2 := mulS hb.1 hb.2 hd.1 hd.2
  unfold F85_0
  rw [wrapI (x := a * c) (by omega) (by omega), wrapI (x := b * d) (by omega) (by omega), wrapI (by omega) (by omega)]
  exact ⟨rfl, by omega, by omega⟩
 have hr := mulS (x := r) (y := r) (A := 1073741824) (B := 1073741824) (by omega) h8 (by omega) h8
 have hr0 : 0 <= r * r := imn h7 h7
 have s1 : 0 <= dx * dx := sqN dx
 have s2 : 0 <= dy * dy := sqN dy
 rw [(k ux uy dx dy e3 e4 e1 e2).1, (k ux uy ux uy e3 e4 e3 e4).1, (k dx dy dx dy e1 e2 e1 e2).1, (k vx vy vx vy e5 e6 e5 e6).1, wrapI (x := r * r) (by omega) (by omega)]
 have c1 := mulS e1.1 e1.2 e4.1 e4.2
 have c2 := mulS e2.1 e2.2 e3.1 e3.2
 have d1 := mulS e1.1 e1.2 e1.1 e1.2
 have d2 := mulS e2.1 e2.2 e2.1 e2.2
 rw [show F127_0 dx dy ux uy = dx * uy - dy * ux from by
  unfold F127_0
  rw [wrapI (x := dx * uy) (by omega) (by omega), wrapI (x := dy * ux) (by omega) (by omega), wrapI (by omega) (by omega)]]
 rw [wrapI (x := 0 - (dx * uy - dy * ux)) (by omega) (by omega)]
 rw [atMost_p (by omega) (by omega) (by omega) (by omega) hr0 (by omega) (by omega) (by omega), abs_sq]
end
end
end Go.Dx
namespace Go.Dx
open Go.IntKind (i64 u64 u8)
def sd (ax ay bx b2 px py : Int) : Int := (bx - ax) * (py - ay) - (b2 - ay) * (px - ax)
section
variable {ax ay bx b2 X0 Y0 X1 Y1 : Int}
def Bx (ax ay bx b2 X0 Y0 X1 Y1 : Int) : Prop := ¬ (max ax bx < X0 ∨ X1 < min ax bx ∨ max ay b2 < Y0 ∨ Y1 < min ay b2)
end
end Go.Dx
namespace Go.Dx
open Go.IntKind (i64 u64 u8)
open Go.Sx
noncomputable section
theorem out_from (a l h : Int) : F71_0 a l h = !F86_0 a l h := by
 unfold F71_0 F86_0
 by_cases h1 : a < l
 ·rw [dqt h1, dqf (show ¬ l <= a by omega)]; rfl
 ·rw [dqf h1, dqt (show l <= a by omega)]
  by_cases h2 : h < a
  ·rw [dqt h2, cond_false, cond_true]; exact dqf (by omega)
  ·rw [dqf h2, cond_false, cond_true]; exact dqt (by omega)
theorem exB_congr {n : Nat} {p q : Nat -> Bool} (h : ∀ i, i < n -> p i = q i) : exB n p = exB n q := by
 cases hq : exB n q with
 | true =>
   obtain ⟨i, hi, hp⟩ := exB_iff.1 hq
   exact exB_true i hi (by rw [h i hi]; exact hp)
 | false =>
   refine exB_false fun i hi => ?_
   rw [h i hi]
   cases hp : q i with
   | false => rfl
   | true => rw [exB_true i hi hp] at hq; cases hq
theorem wild_placed (n : Nat) (f : Nat -> List V) : F45_0 n f = !F51 n f := by
 unfold F45_0 F99_0 F133
 rw [idx_geq]
 unfold exB F51
 congr 1
 congr 1
 funext i
 rw [out_from]; rfl
theorem toL_len (s : ByteArray) : ∀ (k i : Nat) (r : List UInt8), s.size - i = k -> (ByteArray.toList.loop s i r).length = r.length + k := by
 intro k
 induction k with
 | zero =>
   intro i r h
   rw [ByteArray.toList.loop]
   have : ¬ i < s.size := by omega
   simp [this]
 | succ k ih =>
   intro i r h
   rw [ByteArray.toList.loop]
   have : i < s.size := by omega
   simp only [this, if_true]
   rw [ih (i + 1) _ (by omega)]
   simp; omega
theorem toL_nil (s : ByteArray) : (s.toList == (⟨#[]⟩ : ByteArray).toList) = decide (s.size = 0) := by
 have e : (⟨#[]⟩ : ByteArray).toList = [] := by decide +kernel
 rw [e]
 have hl : s.toList.length = s.size := by
  unfold ByteArray.toList; rw [toL_len s s.size 0 [] (by omega)]; simp
 by_cases h : s.size = 0
 ·rw [dqt h]
  have : s.toList = [] := List.eq_nil_of_length_eq_zero (by omega)
  rw [this]; rfl
 ·rw [dqf h]
  cases hs : s.toList with
  | nil => rw [hs] at hl; simp at hl; omega
  | cons a l => rfl
theorem dropWhile_nil {α : Type} {p : α -> Bool} : ∀ {l : List α}, l.dropWhile p = [] ↔ ∀ x ∈ l, p x = true
 | [] => by simp
 | a :: l => by
   rw [List.dropWhile_cons]
   cases h : p a with
   | true => simp only [if_true]; rw [dropWhile_nil]; simp [h]
   | false => simp [h]
theorem trim_nil (l cs : List UInt8) : Lib.trimS l cs = [] ↔ ∀ b ∈ l, cs.contains b = true := by
 unfold Lib.trimS Lib.trimLeftS Lib.trimRightS
 rw [dropWhile_nil]
 constructor
 ·intro h
  have h1 : l.reverse.dropWhile (cs.contains ·) = [] := by
   cases hd : l.reverse.dropWhile (cs.contains ·) with
   | nil => rfl
   | cons a r =>
     have ha : cs.contains a = true := h a (by rw [hd]; simp)
     have hh := List.head_dropWhile_not (cs.contains ·) (l := l.reverse) (by rw [hd]; simp)
     simp only [hd, List.head_cons] at hh
     rw [ha] at hh; cases hh
  rw [dropWhile_nil] at h1
  exact fun b hb => h1 b (by simpa using hb)
 ·intro h b hb
  have : b ∈ l.reverse := by
   have := List.mem_reverse.1 hb
   exact (List.dropWhile_sublist _).subset this
  exact h b (by simpa using this)
def nmB (b : Nat) : Bool := (decide (97 <= b) && decide (b <= 122)) || ((decide (48 <= b) && decide (b <= 57)) || decide (b = 45))
theorem cut_bytes (b : UInt8) : ([97, 98, 99, 100, 101, 102, 103, 104, 105, 106, 107, 108, 109, 110, 111, 112, 113, 114, 115, 116, 117, 118, 119, 120, 121, 122, 48, 49, 50, 51, 52, 53, 54, 55, 56, 57, 45] : List UInt8).contains b = nmB b.toNat := by
 have key : ∀ n : Fin 256, ([97, 98, 99, 100, 101, 102, 103, 104, 105, 106, 107, 108, 109, 110, 111, 112, 113, 114, 115, 116, 117, 118, 119, 120, 121, 122, 48, 49, 50, 51, 52, 53, 54, 55, 56, 57, 45] : List UInt8).contains (UInt8.ofNat n.val) = nmB n.val := by decide +kernel
 have := key ⟨b.toNat, b.toNat_lt⟩
 simpa using this
theorem getD_el {l : List UInt8} {i : Nat} (h : i < l.length) : l.getD i 0 = l[i] := by simp [List.getD, h]
theorem badN_eq (s : ByteArray) (i : Nat) : (!badN s i) = (nmB (s.data.toList.getD i 0).toNat && (decide (0 < i) || (decide (97 <= (s.data.toList.getD i 0).toNat) && decide ((s.data.toList.getD i 0).toNat <= 122)))) := by
 unfold badN nmB
 generalize (s.data.toList.getD i 0).toNat = b
 rw [Bool.eq_iff_iff]
 simp only [Bool.cond_eq_ite, Bool.not_eq_true', Bool.and_eq_true, Bool.or_eq_true, decide_eq_true_eq]
 split <;> split <;> (try split) <;> simp_all <;> omega
theorem name_eq (s : ByteArray) : F114_0 s = F122 s := by
 unfold F114_0 F122
 rw [toL_nil]
 have hsz : s.size = s.data.toList.length := by rw [Array.length_toList]; rfl
 by_cases h0 : s.size = 0
 ·rw [dqt h0, h0]; rfl
 rw [dqf h0]
 have e0 : decide (0 < (s.size : Int)) = true := dqt (by omega)
 rw [e0]
 by_cases h24 : (s.size : Int) <= 24
 case neg => rw [dqf h24]; simp
 rw [dqt h24]
 simp only [Bool.not_false, cond_true, Bool.and_true]
 rw [toL_nil]
 rw [Bool.eq_iff_iff]
 have ht : (F146 s (ByteArray.mk (Array.mk [97, 98, 99, 100, 101, 102, 103, 104, 105, 106, 107, 108, 109, 110, 111, 112, 113, 114, 115, 116, 117, 118, 119, 120, 121, 122, 48, 49, 50, 51, 52, 53, 54, 55, 56, 57, 45]))).size = 0 ↔ ∀ b ∈ s.data.toList, nmB b.toNat = true := by
  rw [show (F146 s (ByteArray.mk (Array.mk [97, 98, 99, 100, 101, 102, 103, 104, 105, 106, 107, 108, 109, 110, 111, 112, 113, 114, 115, 116, 117, 118, 119, 120, 121, 122, 48, 49, 50, 51, 52, 53, 54, 55, 56, 57, 45]))).size = (Lib.trimS s.data.toList [97, 98, 99, 100, 101, 102, 103, 104, 105, 106, 107, 108, 109, 110, 111, 112, 113, 114, 115, 116, 117, 118, 119, 120, 121, 122, 48, 49, 50, 51, 52, 53, 54, 55, 56, 57, 45]).length from by simp [F146, ByteArray.size]]
  rw [List.length_eq_zero_iff, trim_nil]
  constructor
  ·intro h b hb; rw [← cut_bytes]; exact h b hb
  ·intro h b hb; rw [cut_bytes]; exact h b hb
 have hb : allB s.size (fun i => !badN s i) = true ↔ (∀ b ∈ s.data.toList, nmB b.toNat = true) /\ 97 <= (s.data.toList.getD 0 0).toNat /\ (s.data.toList.getD 0 0).toNat <= 122 := by
  rw [allB_true]
  constructor
  ·intro h
   refine ⟨fun b hb => ?_, ?_⟩
   ·obtain ⟨i, hi, rfl⟩ := List.getElem_of_mem hb
    have := h i (by omega)
    rw [badN_eq, Bool.and_eq_true] at this
    rw [getD_el hi] at this
    exact this.1
   ·have := h 0 (by omega)
    rw [badN_eq] at this
    simp only [Bool.and_eq_true, Bool.or_eq_true, decide_eq_true_eq] at this
    rcases this.2 with h1 | h1
    ·omega
    ·exact h1
  ·rintro ⟨h1, h2, h3⟩ i hi
   rw [badN_eq]
   have hi' : i < s.data.toList.length := by omega
   rw [h1 _ (by rw [getD_el hi']; exact List.getElem_mem hi')]
   by_cases hz : i = 0
   ·subst hz; rw [dqt h2, dqt h3]; rfl
   ·simp; omega
 rw [hb, ← ht]
 cases hd : decide ((F146 s (ByteArray.mk (Array.mk [97, 98, 99, 100, 101, 102, 103, 104, 105, 106, 107, 108, 109, 110, 111, 112, 113, 114, 115, 116, 117, 118, 119, 120, 121, 122, 48, 49, 50, 51, 52, 53, 54, 55, 56, 57, 45]))).size = 0) with
 | false =>
   have := of_decide_eq_false hd
   simp [this]
 | true =>
   have := of_decide_eq_true hd
   simp only [cond_true, this, true_and]
   rw [show s.data.1.getD 0 0 = s.data.toList.getD 0 0 from rfl]
   generalize (s.data.toList.getD 0 0).toNat = b
   by_cases g : 97 <= b
   ·rw [dqt (show (97 : Int) <= (b : Int) by omega)]
    simp only [cond_true, decide_eq_true_eq]; omega
   ·rw [dqf (show ¬ (97 : Int) <= (b : Int) by omega)]
    simp; omega
end
noncomputable section
theorem pt_wild (x y : Int) : F113_0 x y = !ptOk x y := by unfold F113_0 ptOk; exact wild_placed _ _
theorem dup_eq (n : Nat) (f : Nat -> List V) (s : ByteArray) : F90_0 n f s = exB n fun k => (sv (hdV (f k))).toList == s.toList := by
 unfold F90_0 F129; rw [idx_geq]; rfl
theorem dupC_eq (n : Nat) (f : Nat -> List V) (s : ByteArray) : F121_0 n f s = exB n fun k => (sv (hdV (f k))).toList == s.toList := by
 unfold F121_0 F149; rw [idx_geq]; rfl
theorem far_eq (n : Nat) (f : Nat -> List V) : F115_0 n f = exB n fun i => !ptOk (jv0 (f i)) (jv1 (f i)) := by
 unfold F115_0 F147; rw [idx_geq]; exact exB_congr fun i _ => pt_wild _ _
theorem road_eq (n0 : Nat) (f0 : FnV) (i : Nat) : c62 n0 (elV tyR f0) i = cR n0 f0 i := by
 unfold c62 cR F63 F70 roadE
 rw [name_eq, dup_eq, far_eq]
 simp only [Int.toNat_natCast, Nat.sub_zero, Nat.zero_add, out_from, Bool.not_not]
 rfl
theorem tree_eq (n2 : Nat) (f2 : FnV) (i : Nat) : c64 n2 (elV tyT f2) i = cT f2 i := by
 show F65_0 (jv0 (f2 i)) (jv1 (f2 i)) (jv2 (f2 i)) (jv3 (f2 i)) (jv4 (f2 i)) = _
 unfold cT F65_0 treeE
 rw [wild_placed]
 show (bif !!ptOk _ _ then _ else _) = _
 generalize ptOk _ _ = p
 generalize jv2 (f2 i) = a
 generalize jv3 (f2 i) = z
 generalize jv4 (f2 i) = w
 cases p
 ·rfl
 ·simp only [Bool.not_true, Bool.not_false, cond_true]
  rw [out_from]
  cases ha : F86_0 a 1 20000
  ·simp only [Bool.not_false, Bool.not_true, cond_true, cond_false]
   by_cases hw : 1 <= w /\ w <= 1000
   ·have e : F86_0 w 1 1000 = false := by unfold F86_0; rw [dqf (by omega), cond_false]; exact dqf (by omega)
    rw [e, wrapI (by omega) (by omega)]
    unfold F86_0
    by_cases hz : z < 0
    ·rw [dqt hz]; rfl
    ·rw [dqf hz]
     by_cases hz2 : w <= z
     ·rw [dqt (show w - 1 < z by omega), dqt hz2]; rfl
     ·rw [dqf (show ¬ w - 1 < z by omega), dqf hz2, dqf (show ¬ 1000 < w by omega)]; rfl
   ·have e : F86_0 w 1 1000 = true := by
     unfold F86_0
     by_cases h1 : w < 1
     ·rw [dqt h1]; rfl
     ·rw [dqf h1, cond_false]; exact dqt (by omega)
    rw [e]
    have : (bif bif decide (z < 0) then true else decide (w <= z) then true else decide (1000 < w)) = true := by
     by_cases hz : z < 0
     ·rw [dqt hz]; rfl
     ·rw [dqf hz, cond_false]
      by_cases h2 : w <= z
      ·rw [dqt h2]; rfl
      ·rw [dqf h2, cond_false]; exact dqt (by omega)
    rw [this]
    cases !F86_0 z 0 (i64.wrap (w - 1)) <;> rfl
  ·rfl
theorem wnd_eq (x0 x1 x2 x3 : Int) : F118_0 x0 x1 x2 x3 = bif bif bif bif bif decide (x0 < 0) then true else decide (x1 <= x0) then true else decide (1000 < x1) then true else decide (x2 < 0) then true else decide (x3 <= x2) then true else decide (1000 < x3) := by
 have key : ∀ a b : Int, ((bif !F86_0 b 1 1000 then F86_0 a 0 (i64.wrap (b - 1)) else true) = true) ↔ (a < 0 ∨ b <= a ∨ 1000 < b) := by
  intro a b
  unfold F86_0
  by_cases h1 : b < 1
  ·rw [dqt h1]; simp; omega
  ·rw [dqf h1]
   by_cases h2 : 1000 < b
   ·rw [dqt h2]; simp; omega
   ·rw [dqf h2, wrapI (by omega) (by omega)]
    simp only [cond_false, Bool.not_false, cond_true, Bool.cond_eq_ite]
    split <;> simp_all <;> omega
 have e1 := key x0 x1
 have e2 := key x2 x3
 have : F118_0 x0 x1 x2 x3 = (bif !(bif !F86_0 x1 1 1000 then F86_0 x0 0 (i64.wrap (x1 - 1)) else true) then (bif !F86_0 x3 1 1000 then F86_0 x2 0 (i64.wrap (x3 - 1)) else true) else true) := by
  unfold F118_0
  cases F86_0 x1 1 1000 <;> cases F86_0 x0 0 (i64.wrap (x1 - 1)) <;> rfl
 rw [this]
 generalize (bif !F86_0 x1 1 1000 then F86_0 x0 0 (i64.wrap (x1 - 1)) else true) = p at e1 ⊢
 generalize (bif !F86_0 x3 1 1000 then F86_0 x2 0 (i64.wrap (x3 - 1)) else true) = q at e2 ⊢
 rw [Bool.eq_iff_iff]
 simp only [Bool.cond_eq_ite]
 cases p <;> cases q <;> simp_all <;> omega
theorem front_eq (n4 : Nat) (f4 : FnV) (i : Nat) : c66 n4 (elV tyF f4) i = cF f4 i := by
 show F67_0 (jv0 (f4 i)) (jv1 (f4 i)) (jv2 (f4 i)) (jv3 (f4 i)) (lenV (hdV (tlV (tlV (tlV (tlV (f4 i))))))) (fun j => views tp4 (atV (hdV (tlV (tlV (tlV (tlV (f4 i)))))) j)) = _
 unfold cF F67_0 F72
 rw [wild_placed]
 have : ∀ n (f : Nat -> List V), F119_0 n f = exB n fun j => badW (f j) := by
  intro n f
  unfold F119_0 F148; rw [idx_geq]
  exact exB_congr fun j _ => by rw [wnd_eq]; rfl
 rw [this]
 rfl
theorem colx (p q r t : Bool) (B : Int) : (bif p then bif !q then bif !r then bif t then 7 else B else 7 else 7 else 7) = (bif bif bif bif !p then true else q then true else r then true else t then 7 else B) := by
 cases p <;> cases q <;> cases r <;> cases t <;> rfl
theorem col_eq (n6 : Nat) (f6 : FnV) (i : Nat) : c68 n6 (elV tyC f6) i = cC n6 f6 i := by
 unfold c68 cC F69_0 F73
 rw [name_eq, dupC_eq, wild_placed]
 simp only [Int.toNat_natCast, Nat.sub_zero, Nat.zero_add]
 unfold colE
 simp only [out_from, Bool.not_not]
 rw [colx]
 rfl
theorem first_congr {n : Nat} {c d : Nat -> Int} (h : ∀ i, c i = d i) : firstI n c = firstI n d /\ firstE n c = firstE n d := by
 have : c = d := funext h
 rw [this]; exact ⟨rfl, rfl⟩
theorem check_eq (n0 : Nat) (f0 : FnV) (n2 : Nat) (f2 : FnV) (n4 : Nat) (f4 : FnV) (n6 : Nat) (f6 : FnV) :
 (F23_0 n0 f0 n2 f2 n4 f4 n6 f6, F23_1 n0 f0 n2 f2 n4 f4 n6 f6, F23_2 n0 f0 n2 f2 n4 f4 n6 f6) = F24 n0 f0 n2 f2 n4 f4 n6 f6 := by
 unfold F23_0 F23_1 F23_2 F24 long z1 z2 z3 r24 F62_0 F62_1 F64_0 F64_1 F66_0 F66_1 F68_0 F68_1
 rw [(first_congr (road_eq n0 f0)).1, (first_congr (road_eq n0 f0)).2, (first_congr (tree_eq n2 f2)).1, (first_congr (tree_eq n2 f2)).2, (first_congr (front_eq n4 f4)).1, (first_congr (front_eq n4 f4)).2, (first_congr (col_eq n6 f6)).1, (first_congr (col_eq n6 f6)).2]
 cases (bif bif bif decide (8 < (n0 : Int)) then true else decide (12 < (n2 : Int)) then true else decide (8 < (n4 : Int)) then true else decide (24 < (n6 : Int)))
 ·simp only [cond_false]
  cases h1 : firstE n0 (cR n0 f0) != 0
  ·simp only [cond_false]
   cases h2 : firstE n2 (cT f2) != 0
   ·simp only [cond_false]
    cases h3 : firstE n4 (cF f4) != 0
    ·simp only [cond_false]
     cases h4 : firstE n6 (cC n6 f6) != 0
     ·rfl
     ·rfl
    ·rfl
   ·rfl
  ·rfl
 ·rfl
end
noncomputable section
theorem elV2 (ts : List Ty) (f : Nat -> List V) : elV ts (elV ts f) = elV ts f := by
 funext i; exact views_idem ts _
theorem firstE_zero {n : Nat} {c : Nat -> Int} (h : firstE n c = 0) : ∀ i, i < n -> c i = 0 := by
 unfold firstE at h
 rcases idx_ex (n := n) (p := fun i => c i != 0) with ⟨_, h2⟩ | ⟨j, h1, h2, h3, _⟩
 ·intro i hi
  have := h2 i hi
  simpa using this
 ·rw [h2] at h
  have : ((j : Int) == -1) = false := by rw [beq_eq_false_iff_ne]; omega
  rw [this, cond_false, Int.toNat_natCast] at h
  rw [h] at h3; cases h3
section
variable {n0 : Nat} {f0 : Nat -> List V} {n2 : Nat} {f2 : Nat -> List V} {n4 : Nat} {f4 : Nat -> List V} {n6 : Nat} {f6 : Nat -> List V} {i j m l : Int}
structure Valid (n0 : Nat) (f0 : FnV) (n2 : Nat) (f2 : FnV) (n4 : Nat) (f4 : FnV) (n6 : Nat) (f6 : FnV) : Prop where
 l0 : n0 <= 8
 l2 : n2 <= 12
 l4 : n4 <= 8
 l6 : n6 <= 24
 rd : ∀ i, i < n0 -> cR n0 f0 i = 0
 tr : ∀ i, i < n2 -> cT f2 i = 0
 fr : ∀ i, i < n4 -> cF f4 i = 0
 cl : ∀ i, i < n6 -> cC n6 f6 i = 0
theorem r24_zero {n : Nat} {c : Nat -> Int} {k : Int} {z : Int × Int × Int} (h : (r24 n c k z).2.2 = 0) : (∀ i, i < n -> c i = 0) /\ z.2.2 = 0 := by
 unfold r24 at h
 cases hb : firstE n c != 0 with
 | true => rw [hb] at h; simp only [cond_true] at h; rw [h] at hb; cases hb
 | false =>
   rw [hb] at h
   exact ⟨firstE_zero (by simpa using hb), h⟩
theorem valid (h : F24_2 n0 f0 n2 f2 n4 f4 n6 f6 = 0) : Valid n0 f0 n2 f2 n4 f4 n6 f6 := by
 unfold F24_2 F24 at h
 cases hl : long n0 f0 n2 f2 n4 f4 n6 f6 with
 | true => rw [hl] at h; cases h
 | false =>
   rw [hl, cond_false] at h
   obtain ⟨h1, h⟩ := r24_zero h
   unfold z1 at h
   obtain ⟨h2, h⟩ := r24_zero h
   unfold z2 at h
   obtain ⟨h3, h⟩ := r24_zero h
   unfold z3 at h
   obtain ⟨h4, _⟩ := r24_zero h
   unfold long at hl
   simp only [Bool.cond_eq_ite, Bool.ite_eq_false_distrib] at hl
   have : n0 <= 8 /\ n2 <= 12 /\ n4 <= 8 /\ n6 <= 24 := by
    refine ⟨?_, ?_, ?_, ?_⟩ <;> (apply Classical.byContradiction; intro hn) <;> simp_all <;> omega
   exact ⟨this.1, this.2.1, this.2.2.1, this.2.2.2, h1, h2, h3, h4⟩
def bad1 (i m : Int) : Bool := bif decide (i < 0) then true else decide (m <= i)
def ix1 (e i m : Int) : Int := bif e == 0 then (bif bad1 i m then 4 else 0) else e
theorem F23_24 : F23_2 n0 f0 n2 f2 n4 f4 n6 f6 = F24_2 n0 f0 n2 f2 n4 f4 n6 f6 := congrArg (fun t => t.2.2) (check_eq n0 f0 n2 f2 n4 f4 n6 f6)
theorem out_bad {i : Int} {m : Nat} (hm : m <= 9223372036854775807) : F86_0 i 0 (i64.wrap ((m : Int) - 1)) = bad1 i m := by
 unfold F86_0 bad1
 rw [wrapI (by omega) (by omega)]
 by_cases h : i < 0
 ·rw [dqt h]; rfl
 ·rw [dqf h, cond_false, cond_false]
  by_cases g : (m : Int) <= i
  ·rw [dqt g]; exact dqt (by omega)
  ·rw [dqf g]; exact dqf (by omega)
theorem chk2 {i : Int} {m : Nat} (hm : F24_2 n0 (elV tyR f0) n2 (elV tyT f2) n4 (elV tyF f4) n6 (elV tyC f6) = 0 -> m <= 9223372036854775807) :
 F44 n0 (elV tyR f0) n2 (elV tyT f2) n4 (elV tyF f4) n6 (elV tyC f6) 2 (elV tp1 (secF [vi i, vi m] 0 1)) = ix1 (F24_2 n0 (elV tyR f0) n2 (elV tyT f2) n4 (elV tyF f4) n6 (elV tyC f6)) i m := by
 unfold F44 outs ix1
 simp only [elV2, F23_24]
 cases he : F24_2 n0 (elV tyR f0) n2 (elV tyT f2) n4 (elV tyF f4) n6 (elV tyC f6) == 0 with
 | false => rfl
 | true =>
   rw [cond_true, cond_true]
   have := hm (eq_of_beq he)
   rw [← out_bad this]
   show (bif !(true && !F86_0 i 0 (i64.wrap ((m : Int) - 1))) then _ else _) = _
   rw [Bool.true_and, Bool.not_not]
end
end
noncomputable section
theorem from_in {a l h : Int} (hf : F71_0 a l h = true) : l <= a /\ a <= h := by
 unfold F71_0 at hf
 by_cases h1 : l <= a
 ·rw [dqt h1, cond_true] at hf; exact ⟨h1, of_decide_eq_true hf⟩
 ·rw [dqf h1] at hf; cases hf
end
noncomputable section
section
variable {ax ay bx b2 px py r : Int}
theorem sd_p (h1 : sm ax) (h2 : sm ay) (h3 : sm bx) (h4 : sm b2) (h5 : sm px) (h6 : sm py) : F127_0 (F84_0 bx ax) (F84_1 b2 ay) (F84_0 px ax) (F84_1 py ay) = sd ax ay bx b2 px py /\ -4611686018427387904 <= sd ax ay bx b2 px py /\ sd ax ay bx b2 px py <= 4611686018427387904 := by
 unfold sm at *
 unfold sd F127_0 F84_0 F84_1
 rw [wrapI (x := bx - ax) (by omega) (by omega), wrapI (x := b2 - ay) (by omega) (by omega), wrapI (x := px - ax) (by omega) (by omega), wrapI (x := py - ay) (by omega) (by omega)]
 have c1 := mulS (x := bx - ax) (y := py - ay) (A := 1073741824) (B := 1073741824) (by omega) (by omega) (by omega) (by omega)
 have c2 := mulS (x := b2 - ay) (y := px - ax) (A := 1073741824) (B := 1073741824) (by omega) (by omega) (by omega) (by omega)
 rw [wrapI (x := (bx - ax) * (py - ay)) (by omega) (by omega), wrapI (x := (b2 - ay) * (px - ax)) (by omega) (by omega), wrapI (by omega) (by omega)]
 exact ⟨rfl, by omega, by omega⟩
end
end
noncomputable section
theorem ix1_zero {e i m : Int} (h : ix1 e i m = 0) : e = 0 /\ 0 <= i /\ i < m := by
 unfold ix1 at h
 cases he : e == 0 with
 | false => rw [he, cond_false] at h; rw [h] at he; cases he
 | true =>
   rw [he, cond_true] at h
   refine ⟨eq_of_beq he, ?_⟩
   unfold bad1 at h
   by_cases h1 : i < 0
   ·rw [dqt h1] at h; cases h
   ·rw [dqf h1, cond_false] at h
    by_cases h2 : m <= i
    ·rw [dqt h2] at h; cases h
    ·omega
end
noncomputable section
def far2 (ax ay X0 Y0 X1 Y1 : Int) : Int := i64.wrap (i64.wrap (max (max 0 (i64.wrap (i64.wrap (2 * X0) - ax))) (i64.wrap (ax - i64.wrap (2 * X1))) * max (max 0 (i64.wrap (i64.wrap (2 * X0) - ax))) (i64.wrap (ax - i64.wrap (2 * X1)))) + i64.wrap (max (max 0 (i64.wrap (i64.wrap (2 * Y0) - ay))) (i64.wrap (ay - i64.wrap (2 * Y1))) * max (max 0 (i64.wrap (i64.wrap (2 * Y0) - ay))) (i64.wrap (ay - i64.wrap (2 * Y1)))))
section
variable {ax ay bx b2 w X0 Y0 X1 Y1 px py : Int}
def pl (x : Int) : Prop := -100000000 <= x /\ x <= 100000000
theorem dbl {x : Int} (h : pl x) : i64.wrap (2 * x) = 2 * x /\ sm (2 * x) := by
 unfold pl at h; unfold sm
 exact ⟨wrapI (by omega) (by omega), by omega⟩
theorem corner_p (h1 : sm ax) (h2 : sm ay) (h3 : sm bx) (h4 : sm b2) (h7 : 0 <= w) (h8 : w <= 1073741824) (hx : pl px) (hy : pl py) : F123_0 ax ay bx b2 w px py = nr ax ay bx b2 (2 * px) (2 * py) w := by
 unfold F123_0
 rw [(dbl hx).1, (dbl hy).1]
 exact near_p h1 h2 h3 h4 (dbl hx).2 (dbl hy).2 h7 h8
theorem far_p (ax ay X0 Y0 X1 Y1 : Int) : F85_0 (max (max (i64.wrap (i64.wrap (2 * X0) - ax)) 0) (i64.wrap (ax - i64.wrap (2 * X1)))) (max (max (i64.wrap (i64.wrap (2 * Y0) - ay)) 0) (i64.wrap (ay - i64.wrap (2 * Y1)))) (max (max (i64.wrap (i64.wrap (2 * X0) - ax)) 0) (i64.wrap (ax - i64.wrap (2 * X1)))) (max (max (i64.wrap (i64.wrap (2 * Y0) - ay)) 0) (i64.wrap (ay - i64.wrap (2 * Y1)))) = far2 ax ay X0 Y0 X1 Y1 := by
 unfold F85_0 far2
 rw [Int.max_comm (i64.wrap (i64.wrap (2 * X0) - ax)) 0, Int.max_comm (i64.wrap (i64.wrap (2 * Y0) - ay)) 0]
theorem thr_p (h1 : sm ax) (h2 : sm ay) (h3 : sm bx) (h4 : sm b2) (g1 : pl X0) (g2 : pl Y0) (g3 : pl X1) (g4 : pl Y1) :
 F145_0 ax ay bx b2 X0 Y0 X1 Y1 = true ↔ (Bx ax ay bx b2 (2 * X0) (2 * Y0) (2 * X1) (2 * Y1) /\ (0 <= sd ax ay bx b2 (2 * X0) (2 * Y0) ∨ 0 <= sd ax ay bx b2 (2 * X1) (2 * Y0) ∨ 0 <= sd ax ay bx b2 (2 * X1) (2 * Y1) ∨ 0 <= sd ax ay bx b2 (2 * X0) (2 * Y1)) /\ (sd ax ay bx b2 (2 * X0) (2 * Y0) <= 0 ∨ sd ax ay bx b2 (2 * X1) (2 * Y0) <= 0 ∨ sd ax ay bx b2 (2 * X1) (2 * Y1) <= 0 ∨ sd ax ay bx b2 (2 * X0) (2 * Y1) <= 0)) := by
 have s : ∀ px py, pl px -> pl py -> F78_0 ax ay bx b2 (F101_0 px 2) (F101_1 py 2) = sd ax ay bx b2 (2 * px) (2 * py) := fun px py hx hy => by
  unfold F78_0 F101_0 F101_1
  rw [(dbl hx).1, (dbl hy).1]
  exact (sd_p h1 h2 h3 h4 (dbl hx).2 (dbl hy).2).1
 unfold F145_0
 rw [s _ _ g1 g2, s _ _ g3 g2, s _ _ g3 g4, s _ _ g1 g4, (dbl g1).1, (dbl g2).1, (dbl g3).1, (dbl g4).1]
 generalize sd ax ay bx b2 (2 * X0) (2 * Y0) = p
 generalize sd ax ay bx b2 (2 * X1) (2 * Y0) = q
 generalize sd ax ay bx b2 (2 * X1) (2 * Y1) = u
 generalize sd ax ay bx b2 (2 * X0) (2 * Y1) = t
 unfold Bx
 have o4 : ∀ a b c d : Bool, (bif bif bif a then true else b then true else c then true else d) = true ↔ (a = true ∨ b = true ∨ c = true ∨ d = true) := by
  intro a b c d; cases a <;> cases b <;> cases c <;> cases d <;> simp
 have e1 := o4 (decide (max ax bx < 2 * X0)) (decide (2 * X1 < min ax bx)) (decide (max ay b2 < 2 * Y0)) (decide (2 * Y1 < min ay b2))
 have e2 := o4 (decide (0 <= p)) (decide (0 <= q)) (decide (0 <= u)) (decide (0 <= t))
 have e3 := o4 (decide (p <= 0)) (decide (q <= 0)) (decide (u <= 0)) (decide (t <= 0))
 simp only [decide_eq_true_eq] at e1 e2 e3
 rw [← e1, ← e2, ← e3]
 generalize (bif bif bif decide (max ax bx < 2 * X0) then true else decide (2 * X1 < min ax bx) then true else decide (max ay b2 < 2 * Y0) then true else decide (2 * Y1 < min ay b2)) = A
 generalize (bif bif bif decide (0 <= p) then true else decide (0 <= q) then true else decide (0 <= u) then true else decide (0 <= t)) = B
 generalize (bif bif bif decide (p <= 0) then true else decide (q <= 0) then true else decide (u <= 0) then true else decide (t <= 0)) = C
 cases A <;> cases B <;> cases C <;> simp
end
end
noncomputable section
theorem rough_eq (a b c d : Int) : F53_0 a b c d = !F58_0 a b c d := by
 unfold F53_0 F58_0
 rw [wild_placed]
 generalize F51 _ _ = p
 have e1 : decide (c < a) = !decide (a <= c) := by by_cases h : a <= c <;> simp [h] <;> omega
 have e2 : decide (d < b) = !decide (b <= d) := by by_cases h : b <= d <;> simp [h] <;> omega
 rw [e1, e2]
 generalize decide (a <= c) = q
 generalize decide (b <= d) = u
 cases p <;> cases q <;> cases u <;> rfl
theorem patch_in {a b c d : Int} (h : F58_0 a b c d = true) : (-100000 <= a /\ a <= 100000) /\ (-100000 <= b /\ b <= 100000) /\ (-100000 <= c /\ c <= 100000) /\ (-100000 <= d /\ d <= 100000) /\ a <= c /\ b <= d := by
 unfold F58_0 at h
 cases hp : F51 4 (elV tp1 (secF [vi a, vi b, vi c, vi d] 0 1)) with
 | false => rw [hp] at h; cases h
 | true =>
   rw [hp, cond_true] at h
   by_cases h1 : a <= c
   ·rw [dqt h1, cond_true] at h
    have h2 := of_decide_eq_true h
    unfold F51 at hp
    exact ⟨from_in (allB_ok hp 0 (by omega)), from_in (allB_ok hp 1 (by omega)), from_in (allB_ok hp 2 (by omega)), from_in (allB_ok hp 3 (by omega)), h1, h2⟩
   ·rw [dqf h1] at h; cases h
theorem pt_in {x y : Int} (h : ptOk x y = true) : (-100000 <= x /\ x <= 100000) /\ (-100000 <= y /\ y <= 100000) := by
 unfold ptOk F51 at h
 exact ⟨from_in (allB_ok h 0 (by omega)), from_in (allB_ok h 1 (by omega))⟩
structure RoadIn (n : Nat) (f : Nat -> List V) (w : Int) : Prop where
 two : 2 <= n
 eight : n <= 8
 pts : ∀ j, j < n -> (-100000 <= jv0 (f j) /\ jv0 (f j) <= 100000) /\ (-100000 <= jv1 (f j) /\ jv1 (f j) <= 100000)
 adj : ∀ j, j + 1 < n -> eqP f (j + 1) j = false
 w1 : 100 <= w
 w2 : w <= 30000
theorem road_in {n0 : Nat} {f0 : Nat -> List V} {i : Nat} (h : cR n0 f0 i = 0) : RoadIn (lenV (hdV (tlV (tlV (f0 i))))) (fun j => views tp2 (atV (hdV (tlV (tlV (f0 i)))) j)) (jv3 (f0 i)) := by
 have h' : F70 n0 (elV tyR f0) (i : Int) = 0 := h
 unfold F70 at h'
 simp only [Int.toNat_natCast] at h'
 cases hn : F122 (sv (hdV (elV tyR f0 i))) with
 | false => rw [hn] at h'; cases h'
 | true =>
   rw [hn, Bool.not_true, cond_false] at h'
   cases hd : exB i (fun k => (sv (hdV (elV tyR f0 k))).toList == (sv (hdV (elV tyR f0 i))).toList) with
   | true => rw [hd] at h'; cases h'
   | false =>
     rw [hd, cond_false] at h'
     have h2 : roadE (jv1 (f0 i)) (lenV (hdV (tlV (tlV (f0 i))))) (fun j => views tp2 (atV (hdV (tlV (tlV (f0 i)))) j)) (jv3 (f0 i)) = 0 := h'
     unfold roadE at h2
     generalize (fun j => views tp2 (atV (hdV (tlV (tlV (f0 i)))) j)) = f at h2 ⊢
     generalize lenV (hdV (tlV (tlV (f0 i)))) = n at h2 ⊢
     generalize jv3 (f0 i) = w at h2 ⊢
     generalize jv1 (f0 i) = k at h2
     cases h3 : F71_0 k 0 3 with
     | false => rw [h3] at h2; cases h2
     | true =>
       rw [h3, Bool.not_true, cond_false] at h2
       by_cases h4 : (n : Int) < 2
       ·rw [dqt h4] at h2; cases h2
       ·rw [dqf h4, cond_false] at h2
        by_cases h5 : 8 < (n : Int)
        ·rw [dqt h5] at h2; cases h2
        ·rw [dqf h5, cond_false] at h2
         cases h6 : exB n (fun i => !ptOk (jv0 (f i)) (jv1 (f i))) with
         | true => rw [h6] at h2; cases h2
         | false =>
           rw [h6, cond_false] at h2
           cases h7 : F71_0 w 100 30000 with
           | false => rw [h7] at h2; cases h2
           | true =>
             rw [h7, Bool.not_true, cond_false] at h2
             cases h8 : adjP n f with
             | true => rw [h8] at h2; cases h2
             | false =>
               have hw := from_in h7
               refine ⟨by omega, by omega, fun j hj => ?_, fun j hj => ?_, hw.1, hw.2⟩
               ·apply pt_in
                cases hp : ptOk (jv0 (f j)) (jv1 (f j)) with
                | true => rfl
                | false => rw [exB_true j hj (by rw [hp]; rfl)] at h6; cases h6
               ·cases hp : eqP f (j + 1) j with
                | false => rfl
                | true =>
                  unfold adjP at h8
                  rw [exB_true (j + 1) hj (by rw [Nat.add_sub_cancel, hp]; simp)] at h8; cases h8
section
variable {n : Nat} {f : Nat -> List V} {w : Int}
theorem w1p {j n : Nat} (h : j < n) (hn : n <= 8) : (i64.wrap ((j : Int) + 1)).toNat = j + 1 := by
 rw [wrapI (by omega) (by omega)]; omega
theorem dpt {x : Int} (h : -100000 <= x /\ x <= 100000) : i64.wrap (2 * x) = 2 * x /\ sm (2 * x) := dbl (by unfold pl; omega)
end
section
variable {n0 : Nat} {f0 : Nat -> List V} {n2 : Nat} {f2 : Nat -> List V} {n4 : Nat} {f4 : Nat -> List V} {n6 : Nat} {f6 : Nat -> List V}
theorem ix_road {x8 : Int} (h : ix1 (F24_2 n0 (elV tyR f0) n2 (elV tyT f2) n4 (elV tyF f4) n6 (elV tyC f6)) x8 n0 = 0) : RoadIn (lenV (hdV (tlV (tlV (f0 x8.toNat))))) (fun j => views tp2 (atV (hdV (tlV (tlV (f0 x8.toNat)))) j)) (jv3 (f0 x8.toNat)) := by
 obtain ⟨h1, h2, h3⟩ := ix1_zero h
 have hv := (valid h1).rd x8.toNat (by omega)
 exact road_in (f0 := f0) (n0 := n0) (by have : cR n0 (elV tyR f0) x8.toNat = cR n0 f0 x8.toNat := by unfold cR; rw [elV2]
                                         rw [← this]; exact hv)
end
end
end Go.Dx
namespace Go.Dx
open Go.IntKind (i64 u64 u8)
open Go.Sx Go.Proofs
noncomputable section
def ctB24 : CTab := (19, .con C19) :: ctB17
theorem tabB24 : TabOk Tryz.prog eqs its ctB24 := .con ok19 (tabB17)
end
noncomputable section
def ctB28 : CTab := [(19, .con C19), (22, .con C22), (25, .con C25), (15, .con C15), (55, .con C55), (61, .con C61), (74, .con C74), (108, .con C108), (46, .con C46), (111, .con C111), (56, .con C56), (47, .con C47), (145, .con C145), (140, .con C140), (49, .con C49), (123, .con C123), (44, .con C44), (23, .con C23), (62, .con C62), (68, .con C68), (63, .con C63), (69, .con C69), (117, .inl s117 u0), (116, .inl s116 u0), (115, .con C115), (114, .con C114), (147, .con C147), (64, .con C64), (66, .con C66), (113, .con C113), (65, .con C65), (67, .con C67), (53, .con C53), (45, .con C45), (90, .con C90), (119, .con C119), (121, .con C121), (99, .con C99), (129, .con C129), (148, .con C148), (149, .con C149), (112, .con C112), (118, .con C118), (120, .con C120), (133, .con C133), (103, .con C103), (100, .con C100), (134, .con C134), (135, .con C135), (78, .con C78), (54, .con C54), (48, .con C48), (102, .con C102), (84, .con C84), (85, .con C85), (127, .con C127), (101, .con C101), (86, .con C86), (162, .con C162), (146, .con C146), (83, .inl s83 u0), (161, .inl s161 u0)]
theorem tabB28 : TabOk Tryz.prog eqs its ctB28 := .con ok19 (.con ok22 (.con ok25 (.con ok15 (.con ok55 (.con ok61 (.con ok74 (.con ok108 (.con ok46 (.con ok111 (.con ok56 (.con ok47 (.con ok145 (.con ok140 (.con ok49 (.con ok123 (.con ok44 (.con ok23 (.con ok62 (.con ok68 (.con ok63 (.con ok69 (.inl Tryz.func117 (by kernel_rfl) (by kernel_rfl) (by kernel_rfl) (.inl Tryz.func116 (by kernel_rfl) (by kernel_rfl) (by kernel_rfl) (.con ok115 (.con ok114 (.con ok147 (.con ok64 (.con ok66 (.con ok113 (.con ok65 (.con ok67 (.con ok53 (.con ok45 (.con ok90 (.con ok119 (.con ok121 (.con ok99 (.con ok129 (.con ok148 (.con ok149 (.con ok112 (.con ok118 (.con ok120 (.con ok133 (.con ok103 (.con ok100 (.con ok134 (.con ok135 (.con ok78 (.con ok54 (.con ok48 (.con ok102 (.con ok84 (.con ok85 (.con ok127 (.con ok101 (.con ok86 (.con ok162 (.con ok146 (.inl Tryz.func83 (by kernel_rfl) (by kernel_rfl) (by kernel_rfl) (.inl Tryz.func161 (by kernel_rfl) (by kernel_rfl) (by kernel_rfl) (.nil))))))))))))))))))))))))))))))))))))))))))))))))))))))))))))))
def P131 : List V -> Prop
 | [.int _ x] => x = 8
 | _ => False
def C131 : PCon := mkC [.int .u64] P131 fun _ => .int .i64 4
theorem n131 {w0 : World} : sat (LPof w0 (SV ctB28)) (runL JJ ctB28 u0 s131 [.int .u64 8]) (topQ (.int .i64 4)) := run_norm (by kernel_rfl)
theorem ok131 : (vP C131).Ok Tryz.prog 131 := mkE (un := u0) tabB28 Tryz.func131 (by kernel_rfl) fun ds hp => by
 have hp' : jv0 ds = 8 := hp
 intro hd w0
 show sat _ (runL JJ ctB28 u0 s131 [.int .u64 (jv0 ds)]) _
 rw [hp']
 exact n131
def Q131 : List V -> Bool
 | [.int _ x] => decide (x = 8)
 | _ => false
def CB131 : PCon := mkCB [.int .u64] Q131 fun _ => .int .i64 4
theorem okB131 : (vP CB131).Ok Tryz.prog 131 := mkCB_ok (pre := P131) (fun ds h => by
 unfold Q131 at h
 split at h
 ·rename_i x; exact (show x = 8 from of_decide_eq_true h)
 ·cases h) ok131
end
end Go.Dx
namespace Go.Dx
theorem vf_if {ts : List Ty} (h : ts.all isCellTy = true) {n : Nat} {p : Nat -> Bool} {ds : List V} {f : Nat -> List V} (h1 : VFok ts n f) (hf : fitVs [] (views ts ds) ds = views ts ds) : VFok ts n fun i => cond (p i) ds (f i) := fun i hi => by
 show okE _ (views ts (cond (p i) ds (f i))) = true /\ subVs [] (cond (p i) ds (f i)) (views ts (cond (p i) ds (f i)))
 cases p i with
 | true => exact ⟨okE_views h _, fitVs_ok _ _ hf⟩
 | false => exact h1 i hi
theorem sq0 (x : Int) : 0 <= x * x := by
 rcases Int.le_total 0 x with h | h
 ·exact imn h h
 ·have := imn (show 0 <= -x by omega) (show 0 <= -x by omega)
  rwa [Int.neg_mul_neg] at this
theorem le_sq {a b : Int} (hb : 0 <= b) (h : a * a <= b * b) : a <= b := by
 apply Classical.byContradiction; intro hn
 have h1 : b < a := by omega
 have h2 : b * b < a * a := Int.lt_of_le_of_lt (iml (Int.le_of_lt h1) hb) (Int.mul_lt_mul_of_pos_right h1 (by omega))
 omega
theorem cancel {k a b : Int} (hk : 0 < k) (h : k * a <= k * b) : a <= b := Int.le_of_mul_le_mul_left h hk
theorem cancel2 {k a b : Int} (hk : 0 < k) (h : k * k * a <= k * k * b) : a <= b := cancel (Int.mul_pos hk hk) h
def q2 (x y : Int) : Int := x * x + y * y
theorem q2_0 (x y : Int) : 0 <= q2 x y := by unfold q2; have := sq0 x; have := sq0 y; omega
theorem q2_mul (k x y : Int) : q2 (k * x) (k * y) = k * k * q2 x y := by unfold q2; grind
theorem q2_neg (x y : Int) : q2 (-x) y = q2 x y := by unfold q2; grind
theorem q2_comm (x y : Int) : q2 x y = q2 y x := by unfold q2; grind
theorem q2_mono {x y x' y' : Int} (h1 : 0 <= x) (h2 : x <= x') (h3 : 0 <= y) (h4 : y <= y') : q2 x y <= q2 x' y' := by
 unfold q2
 have := Int.mul_le_mul h2 h2 h1 (Int.le_trans h1 h2)
 have := Int.mul_le_mul h4 h4 h3 (Int.le_trans h3 h4)
 omega
theorem dot_le {x y z w A B : Int} (hA : 0 <= A) (hB : 0 <= B) (h1 : q2 x y <= A * A) (h2 : q2 z w <= B * B) : x * z + y * w <= A * B := by
 refine le_sq (imn hA hB) ?_
 have e : q2 x y * q2 z w = (x * z + y * w) * (x * z + y * w) + (x * w - y * z) * (x * w - y * z) := by unfold q2; grind
 have h3 := sq0 (x * w - y * z)
 have h4 : q2 x y * q2 z w <= (A * A) * (B * B) := Int.mul_le_mul h1 h2 (q2_0 z w) (sq0 A)
 have e2 : (A * B) * (A * B) = (A * A) * (B * B) := by grind
 omega
theorem triA {x y z w A B : Int} (hA : 0 <= A) (hB : 0 <= B) (h1 : q2 x y <= A * A) (h2 : q2 z w <= B * B) : q2 (x + z) (y + w) <= (A + B) * (A + B) := by
 have h3 := dot_le hA hB h1 h2
 have e : q2 (x + z) (y + w) = q2 x y + q2 z w + 2 * (x * z + y * w) := by unfold q2; grind
 have e2 : (A + B) * (A + B) = A * A + B * B + 2 * (A * B) := by grind
 omega
def At (ax ay bx b2 px py k r n m : Int) : Prop := 0 <= n /\ n <= m /\ 0 < m /\ q2 (m * px - k * ((m - n) * ax + n * bx)) (m * py - k * ((m - n) * ay + n * b2)) <= (m * k * r) * (m * k * r)
def Nq (ax ay bx b2 px py k r : Int) : Prop := ∃ n m, At ax ay bx b2 px py k r n m
section
variable {ax ay bx b2 px py r n m k : Int}
theorem nr_of (hr : 0 <= r) (h : Nq ax ay bx b2 px py 1 r) : nr ax ay bx b2 px py r = true := by
 obtain ⟨n, m, h1, h2, h3, h4⟩ := h
 rw [Int.mul_one] at h4
 have ex : m * px - 1 * ((m - n) * ax + n * bx) = m * (px - ax) - n * (bx - ax) := by grind
 have ey : m * py - 1 * ((m - n) * ay + n * b2) = m * (py - ay) - n * (b2 - ay) := by grind
 rw [ex, ey] at h4
 unfold nr
 have e1 : px - bx = (px - ax) - (bx - ax) := by omega
 have e2 : py - b2 = (py - ay) - (b2 - ay) := by omega
 rw [e1, e2]
 generalize px - ax = ux at *
 generalize py - ay = uy at *
 generalize bx - ax = dx at *
 generalize b2 - ay = dy at *
 have hmn := imn (Int.le_of_lt h3) h1
 have hR : (m * r) * (m * r) = m * m * (r * r) := by grind
 by_cases c1 : ux * dx + uy * dy <= 0
 ·rw [dqt c1, cond_true]
  refine dqt (cancel2 h3 ?_)
  have e : q2 (m * ux - n * dx) (m * uy - n * dy) = m * m * (ux * ux + uy * uy) + n * n * q2 dx dy - 2 * (m * n * (ux * dx + uy * dy)) := by unfold q2; grind
  have k1 := imn (sq0 n) (q2_0 dx dy)
  have k2 := imn hmn (show 0 <= -(ux * dx + uy * dy) by omega)
  rw [Int.mul_neg] at k2
  omega
 ·rw [dqf c1, cond_false]
  by_cases c2 : dx * dx + dy * dy <= ux * dx + uy * dy
  ·rw [dqt c2, cond_true]
   refine dqt (cancel2 h3 ?_)
   have e : q2 (m * ux - n * dx) (m * uy - n * dy) = m * m * ((ux - dx) * (ux - dx) + (uy - dy) * (uy - dy)) + (m - n) * (m - n) * q2 dx dy + 2 * (m * (m - n) * ((ux * dx + uy * dy) - (dx * dx + dy * dy))) := by unfold q2; grind
   have k1 := imn (sq0 (m - n)) (q2_0 dx dy)
   have k2 := imn (imn (Int.le_of_lt h3) (show 0 <= m - n by omega)) (show 0 <= (ux * dx + uy * dy) - (dx * dx + dy * dy) by omega)
   omega
  ·rw [dqf c2, cond_false]
   refine dqt (cancel2 h3 ?_)
   have e : q2 dx dy * q2 (m * ux - n * dx) (m * uy - n * dy) = m * m * ((dx * uy - dy * ux) * (dx * uy - dy * ux)) + (dx * (m * ux - n * dx) + dy * (m * uy - n * dy)) * (dx * (m * ux - n * dx) + dy * (m * uy - n * dy)) := by unfold q2; grind
   have k1 := sq0 (dx * (m * ux - n * dx) + dy * (m * uy - n * dy))
   have k2 := iml h4 (q2_0 dx dy)
   have e3 : q2 dx dy * (m * r * (m * r)) = m * m * (r * r * (dx * dx + dy * dy)) := by unfold q2; grind
   omega
theorem nr_ex (hr : 0 <= r) (h : nr ax ay bx b2 px py r = true) : Nq ax ay bx b2 px py 1 r := by
 unfold nr at h
 by_cases c1 : (px - ax) * (bx - ax) + (py - ay) * (b2 - ay) <= 0
 ·rw [dqt c1, cond_true] at h
  have h := of_decide_eq_true h
  refine ⟨0, 1, by omega, by omega, by omega, ?_⟩
  have e : q2 (1 * px - 1 * ((1 - 0) * ax + 0 * bx)) (1 * py - 1 * ((1 - 0) * ay + 0 * b2)) = (px - ax) * (px - ax) + (py - ay) * (py - ay) := by unfold q2; grind
  rw [e, Int.one_mul, Int.one_mul]; exact h
 ·rw [dqf c1, cond_false] at h
  by_cases c2 : (bx - ax) * (bx - ax) + (b2 - ay) * (b2 - ay) <= (px - ax) * (bx - ax) + (py - ay) * (b2 - ay)
  ·rw [dqt c2, cond_true] at h
   have h := of_decide_eq_true h
   refine ⟨1, 1, by omega, by omega, by omega, ?_⟩
   have e : q2 (1 * px - 1 * ((1 - 1) * ax + 1 * bx)) (1 * py - 1 * ((1 - 1) * ay + 1 * b2)) = (px - bx) * (px - bx) + (py - b2) * (py - b2) := by unfold q2; grind
   rw [e, Int.one_mul, Int.one_mul]; exact h
  ·rw [dqf c2, cond_false] at h
   have h := of_decide_eq_true h
   refine ⟨(px - ax) * (bx - ax) + (py - ay) * (b2 - ay), (bx - ax) * (bx - ax) + (b2 - ay) * (b2 - ay), by omega, by omega, by omega, ?_⟩
   have ex : ((bx - ax) * (bx - ax) + (b2 - ay) * (b2 - ay)) * px - 1 * (((bx - ax) * (bx - ax) + (b2 - ay) * (b2 - ay) - ((px - ax) * (bx - ax) + (py - ay) * (b2 - ay))) * ax + ((px - ax) * (bx - ax) + (py - ay) * (b2 - ay)) * bx) = ((bx - ax) * (bx - ax) + (b2 - ay) * (b2 - ay)) * (px - ax) - ((px - ax) * (bx - ax) + (py - ay) * (b2 - ay)) * (bx - ax) := by grind
   have ey : ((bx - ax) * (bx - ax) + (b2 - ay) * (b2 - ay)) * py - 1 * (((bx - ax) * (bx - ax) + (b2 - ay) * (b2 - ay) - ((px - ax) * (bx - ax) + (py - ay) * (b2 - ay))) * ay + ((px - ax) * (bx - ax) + (py - ay) * (b2 - ay)) * b2) = ((bx - ax) * (bx - ax) + (b2 - ay) * (b2 - ay)) * (py - ay) - ((px - ax) * (bx - ax) + (py - ay) * (b2 - ay)) * (b2 - ay) := by grind
   rw [ex, ey]
   clear ex ey
   generalize px - ax = ux at *
   generalize py - ay = uy at *
   generalize bx - ax = dx at *
   generalize b2 - ay = dy at *
   have e : q2 ((dx * dx + dy * dy) * ux - (ux * dx + uy * dy) * dx) ((dx * dx + dy * dy) * uy - (ux * dx + uy * dy) * dy) = (dx * dx + dy * dy) * ((dx * uy - dy * ux) * (dx * uy - dy * ux)) := by unfold q2; grind
   rw [e, Int.mul_one]
   have k1 := iml h (show 0 <= dx * dx + dy * dy by omega)
   have e2 : (dx * dx + dy * dy) * r * ((dx * dx + dy * dy) * r) = (dx * dx + dy * dy) * (r * r * (dx * dx + dy * dy)) := by grind
   omega
theorem nr_iff (hr : 0 <= r) : nr ax ay bx b2 px py r = true ↔ Nq ax ay bx b2 px py 1 r := ⟨nr_ex hr, nr_of hr⟩
theorem Nq.cv {qx qy j l : Int} (hr : 0 <= r) (hk : 0 < k) (h1 : Nq ax ay bx b2 px py k r) (h2 : Nq ax ay bx b2 qx qy k r) (hj : 0 <= j) (hl : j <= l) (h0 : 0 < l) : Nq ax ay bx b2 ((l - j) * px + j * qx) ((l - j) * py + j * qy) (k * l) r := by
 obtain ⟨n1, m1, a1, a2, a3, a4⟩ := h1
 obtain ⟨n2, m2, b1, b2', b3, b4⟩ := h2
 have hlj : 0 <= l - j := by omega
 have p1 := Int.mul_pos a3 b3
 refine ⟨(l - j) * n1 * m2 + j * n2 * m1, l * m1 * m2, ?_, ?_, ?_, ?_⟩
 ·have := imn (imn hlj a1) (Int.le_of_lt b3)
  have := imn (imn hj b1) (Int.le_of_lt a3)
  omega
 ·have k1 := imn (imn hlj (show 0 <= m1 - n1 by omega)) (Int.le_of_lt b3)
  have k2 := imn (imn hj (show 0 <= m2 - n2 by omega)) (Int.le_of_lt a3)
  have e : (l - j) * (m1 - n1) * m2 + j * (m2 - n2) * m1 = l * m1 * m2 - ((l - j) * n1 * m2 + j * n2 * m1) := by grind
  omega
 ·exact Int.mul_pos (Int.mul_pos h0 a3) b3
 ·have ex : l * m1 * m2 * ((l - j) * px + j * qx) - k * l * ((l * m1 * m2 - ((l - j) * n1 * m2 + j * n2 * m1)) * ax + ((l - j) * n1 * m2 + j * n2 * m1) * bx) = l * (((l - j) * m2) * (m1 * px - k * ((m1 - n1) * ax + n1 * bx)) + (j * m1) * (m2 * qx - k * ((m2 - n2) * ax + n2 * bx))) := by grind
  have ey : l * m1 * m2 * ((l - j) * py + j * qy) - k * l * ((l * m1 * m2 - ((l - j) * n1 * m2 + j * n2 * m1)) * ay + ((l - j) * n1 * m2 + j * n2 * m1) * b2) = l * (((l - j) * m2) * (m1 * py - k * ((m1 - n1) * ay + n1 * b2)) + (j * m1) * (m2 * qy - k * ((m2 - n2) * ay + n2 * b2))) := by grind
  rw [ex, ey, q2_mul]
  clear ex ey
  generalize m1 * px - k * ((m1 - n1) * ax + n1 * bx) = x1 at *
  generalize m1 * py - k * ((m1 - n1) * ay + n1 * b2) = y1 at *
  generalize m2 * qx - k * ((m2 - n2) * ax + n2 * bx) = x2 at *
  generalize m2 * qy - k * ((m2 - n2) * ay + n2 * b2) = y2 at *
  have w1 := imn hlj (Int.le_of_lt b3)
  have w2 := imn hj (Int.le_of_lt a3)
  have s1 := iml a4 (sq0 ((l - j) * m2))
  have s2 := iml b4 (sq0 (j * m1))
  rw [← q2_mul] at s1 s2
  have z1 := imn (imn (Int.le_of_lt a3) (Int.le_of_lt hk)) hr
  have z2 := imn (imn (Int.le_of_lt b3) (Int.le_of_lt hk)) hr
  have t := triA (A := (l - j) * m2 * (m1 * k * r)) (B := j * m1 * (m2 * k * r)) (imn w1 z1) (imn w2 z2) (by rw [show (l - j) * m2 * (m1 * k * r) * ((l - j) * m2 * (m1 * k * r)) = (l - j) * m2 * ((l - j) * m2) * (m1 * k * r * (m1 * k * r)) by grind]; exact s1) (by rw [show j * m1 * (m2 * k * r) * (j * m1 * (m2 * k * r)) = j * m1 * (j * m1) * (m2 * k * r * (m2 * k * r)) by grind]; exact s2)
  have e : (l - j) * m2 * (m1 * k * r) + j * m1 * (m2 * k * r) = l * (m1 * m2 * k * r) := by grind
  rw [e] at t
  have t := iml t (sq0 l)
  have e2 : l * l * (l * (m1 * m2 * k * r) * (l * (m1 * m2 * k * r))) = l * m1 * m2 * (k * l) * r * (l * m1 * m2 * (k * l) * r) := by grind
  rw [← e2]; exact t
theorem Nq.scale {l : Int} (hl : 0 < l) : Nq ax ay bx b2 px py k r ↔ Nq ax ay bx b2 (l * px) (l * py) (l * k) r := by
 have key : ∀ n m : Int, q2 (m * (l * px) - l * k * ((m - n) * ax + n * bx)) (m * (l * py) - l * k * ((m - n) * ay + n * b2)) = l * l * q2 (m * px - k * ((m - n) * ax + n * bx)) (m * py - k * ((m - n) * ay + n * b2)) := fun n m => by
  rw [← q2_mul]; congr 1 <;> grind
 have key2 : ∀ m : Int, m * (l * k) * r * (m * (l * k) * r) = l * l * (m * k * r * (m * k * r)) := fun m => by grind
 constructor
 ·rintro ⟨n, m, h1, h2, h3, h4⟩
  exact ⟨n, m, h1, h2, h3, by rw [key, key2]; exact iml h4 (sq0 l)⟩
 ·rintro ⟨n, m, h1, h2, h3, h4⟩
  rw [key, key2] at h4
  exact ⟨n, m, h1, h2, h3, cancel2 hl h4⟩
end
section
variable {ax ay bx b2 px py r n m k X0 Y0 X1 Y1 : Int}
def Endn (ex ey X0 Y0 X1 Y1 r : Int) : Prop := q2 (max (max (X0 - ex) 0) (ex - X1)) (max (max (Y0 - ey) 0) (ey - Y1)) <= r * r
def Meet (ax ay bx b2 X0 Y0 X1 Y1 : Int) : Prop := ∃ n m, 0 <= n /\ n <= m /\ 0 < m /\ (m * X0 <= (m - n) * ax + n * bx /\ (m - n) * ax + n * bx <= m * X1) /\ (m * Y0 <= (m - n) * ay + n * b2 /\ (m - n) * ay + n * b2 <= m * Y1)
def Cor (ax ay bx b2 X0 Y0 X1 Y1 r : Int) : Prop := ∃ cx cy, (cx = X0 ∨ cx = X1) /\ (cy = Y0 ∨ cy = Y1) /\ Nq ax ay bx b2 cx cy 1 r
def Res (ax ay bx b2 X0 Y0 X1 Y1 r : Int) : Prop := Cor ax ay bx b2 X0 Y0 X1 Y1 r ∨ Endn ax ay X0 Y0 X1 Y1 r ∨ Endn bx b2 X0 Y0 X1 Y1 r ∨ Meet ax ay bx b2 X0 Y0 X1 Y1
theorem At.sw (h : At ax ay bx b2 px py k r n m) : At bx b2 ax ay px py k r (m - n) m := by
 obtain ⟨h1, h2, h3, h4⟩ := h
 refine ⟨by omega, by omega, h3, ?_⟩
 rw [show (m - (m - n)) * bx + (m - n) * ax = (m - n) * ax + n * bx by grind, show (m - (m - n)) * b2 + (m - n) * ay = (m - n) * ay + n * b2 by grind]
 exact h4
theorem Nq.sw (h : Nq ax ay bx b2 px py k r) : Nq bx b2 ax ay px py k r := let ⟨n, m, h⟩ := h; ⟨m - n, m, h.sw⟩
theorem Nq.ry (h : Nq ax (-ay) bx (-b2) px (-py) k r) : Nq ax ay bx b2 px py k r := by
 obtain ⟨n, m, h1, h2, h3, h4⟩ := h
 refine ⟨n, m, h1, h2, h3, ?_⟩
 rw [show m * -py - k * ((m - n) * -ay + n * -b2) = -(m * py - k * ((m - n) * ay + n * b2)) by grind, q2_comm, q2_neg, q2_comm] at h4
 exact h4
theorem Nq.rx (h : Nq (-ax) ay (-bx) b2 (-px) py k r) : Nq ax ay bx b2 px py k r := by
 obtain ⟨n, m, h1, h2, h3, h4⟩ := h
 refine ⟨n, m, h1, h2, h3, ?_⟩
 rw [show m * -px - k * ((m - n) * -ax + n * -bx) = -(m * px - k * ((m - n) * ax + n * bx)) by grind, q2_neg] at h4
 exact h4
theorem Nq.xy (h : Nq ay ax b2 bx py px k r) : Nq ax ay bx b2 px py k r := by
 obtain ⟨n, m, h1, h2, h3, h4⟩ := h
 exact ⟨n, m, h1, h2, h3, by rw [q2_comm]; exact h4⟩
theorem Meet.sw (h : Meet ax ay bx b2 X0 Y0 X1 Y1) : Meet bx b2 ax ay X0 Y0 X1 Y1 := by
 obtain ⟨n, m, h1, h2, h3, h4, h5⟩ := h
 have e1 : (m - (m - n)) * bx + (m - n) * ax = (m - n) * ax + n * bx := by grind
 have e2 : (m - (m - n)) * b2 + (m - n) * ay = (m - n) * ay + n * b2 := by grind
 exact ⟨m - n, m, by omega, by omega, h3, by rw [e1]; exact h4, by rw [e2]; exact h5⟩
theorem Res.sw (h : Res ax ay bx b2 X0 Y0 X1 Y1 r) : Res bx b2 ax ay X0 Y0 X1 Y1 r := by
 rcases h with ⟨cx, cy, h1, h2, h3⟩ | h | h | h
 ·exact .inl ⟨cx, cy, h1, h2, h3.sw⟩
 ·exact .inr (.inr (.inl h))
 ·exact .inr (.inl h)
 ·exact .inr (.inr (.inr h.sw))
theorem Endn.rx {ex ey : Int} (h : Endn (-ex) ey (-X1) Y0 (-X0) Y1 r) : Endn ex ey X0 Y0 X1 Y1 r := by
 unfold Endn at *
 rwa [show max (max (-X1 - -ex) 0) (-ex - -X0) = max (max (X0 - ex) 0) (ex - X1) by omega] at h
theorem Endn.xy {ex ey : Int} (h : Endn ey ex Y0 X0 Y1 X1 r) : Endn ex ey X0 Y0 X1 Y1 r := by
 unfold Endn at *; rwa [q2_comm]
theorem Res.rx (h : Res (-ax) ay (-bx) b2 (-X1) Y0 (-X0) Y1 r) : Res ax ay bx b2 X0 Y0 X1 Y1 r := by
 rcases h with ⟨cx, cy, h1, h2, h3⟩ | h | h | ⟨n, m, h1, h2, h3, h4, h5⟩
 ·exact .inl ⟨-cx, cy, by omega, h2, Nq.rx (by rw [Int.neg_neg]; exact h3)⟩
 ·exact .inr (.inl h.rx)
 ·exact .inr (.inr (.inl h.rx))
 ·refine .inr (.inr (.inr ⟨n, m, h1, h2, h3, ?_, h5⟩))
  have e : (m - n) * -ax + n * -bx = -((m - n) * ax + n * bx) := by grind
  rw [e, Int.mul_neg, Int.mul_neg] at h4
  omega
theorem Res.xy (h : Res ay ax b2 bx Y0 X0 Y1 X1 r) : Res ax ay bx b2 X0 Y0 X1 Y1 r := by
 rcases h with ⟨cx, cy, h1, h2, h3⟩ | h | h | ⟨n, m, h1, h2, h3, h4, h5⟩
 ·exact .inl ⟨cy, cx, h2, h1, h3.xy⟩
 ·exact .inr (.inl h.xy)
 ·exact .inr (.inr (.inl h.xy))
 ·exact .inr (.inr (.inr ⟨n, m, h1, h2, h3, h5, h4⟩))
theorem up {n1 m1 : Int} (hr : 0 <= r) (h1 : 0 <= n) (h2 : n <= m) (h3 : 0 < m) (g1 : 0 <= n1) (g2 : n1 <= m1) (g3 : 0 < m1) (ho : n * m1 <= n1 * m) (hd : ax <= bx)
 (hy : (m - n) * ay + n * b2 <= m * Y1) (hx : m * X0 - ((m - n) * ax + n * bx) <= m * r) (ky : m1 * Y1 < (m1 - n1) * ay + n1 * b2) (kx : (m1 - n1) * ax + n1 * bx <= m1 * X0) : Nq ax ay bx b2 X0 Y1 1 r := by
 have ey : (m - n) * ay + n * b2 = m * ay + n * (b2 - ay) := by grind
 have ey1 : (m1 - n1) * ay + n1 * b2 = m1 * ay + n1 * (b2 - ay) := by grind
 have ex : (m - n) * ax + n * bx = m * ax + n * (bx - ax) := by grind
 have ex1 : (m1 - n1) * ax + n1 * bx = m1 * ax + n1 * (bx - ax) := by grind
 rw [ey] at hy; rw [ex] at hx; rw [ey1] at ky; rw [ex1] at kx
 have hD : 0 < b2 - ay := by
  apply Classical.byContradiction; intro hn
  have k1 := iml hy (Int.le_of_lt g3)
  have k2 := Int.mul_lt_mul_of_pos_left ky h3
  have k3 := imn (show 0 <= n1 * m - n * m1 by omega) (show 0 <= -(b2 - ay) by omega)
  have e1 : m1 * (m * ay + n * (b2 - ay)) = m1 * m * ay + n * m1 * (b2 - ay) := by grind
  have e2 : m * (m1 * ay + n1 * (b2 - ay)) = m1 * m * ay + n1 * m * (b2 - ay) := by grind
  have e3 : (n1 * m - n * m1) * -(b2 - ay) = n * m1 * (b2 - ay) - n1 * m * (b2 - ay) := by grind
  have e4 : m1 * (m * Y1) = m * (m1 * Y1) := by grind
  omega
 have o1 : 0 <= Y1 - ay := by
  have k1 := imn h1 (Int.le_of_lt hD)
  have : m * ay <= m * Y1 := by omega
  have := cancel h3 this; omega
 have o2 : Y1 - ay <= b2 - ay := by
  have k1 := Int.mul_le_mul_of_nonneg_right g2 (Int.le_of_lt hD)
  have e : m1 * ay + m1 * (b2 - ay) = m1 * b2 := by grind
  have : m1 * Y1 <= m1 * b2 := by omega
  have := cancel g3 this; omega
 have o3 : n * (b2 - ay) <= m * (Y1 - ay) := by rw [Int.mul_sub m]; omega
 have o4 : m1 * (Y1 - ay) <= n1 * (b2 - ay) := by rw [Int.mul_sub m1]; omega
 have e0 : (b2 - ay) * X0 - 1 * (((b2 - ay) - (Y1 - ay)) * ax + (Y1 - ay) * bx) = (b2 - ay) * (X0 - ax) - (Y1 - ay) * (bx - ax) := by grind
 have e00 : (b2 - ay) * Y1 - 1 * (((b2 - ay) - (Y1 - ay)) * ay + (Y1 - ay) * b2) = 0 := by grind
 refine ⟨Y1 - ay, b2 - ay, o1, o2, hD, ?_⟩
 rw [e0, e00, Int.mul_one]
 generalize b2 - ay = D at *
 generalize Y1 - ay = N at *
 have hd' : 0 <= bx - ax := by omega
 have lo : 0 <= D * (X0 - ax) - N * (bx - ax) := by
  refine cancel g3 ?_
  have k1 := Int.mul_le_mul_of_nonneg_right o4 hd'
  have k2 := imn (Int.le_of_lt hD) (show 0 <= m1 * X0 - (m1 * ax + n1 * (bx - ax)) by omega)
  have e1 : m1 * (D * (X0 - ax) - N * (bx - ax)) = D * (m1 * X0 - (m1 * ax + n1 * (bx - ax))) + (n1 * D * (bx - ax) - m1 * N * (bx - ax)) := by grind
  omega
 have hi : D * (X0 - ax) - N * (bx - ax) <= D * r := by
  refine cancel h3 ?_
  have k1 := Int.mul_le_mul_of_nonneg_right o3 hd'
  have k2 := imn (Int.le_of_lt hD) (show 0 <= m * r - (m * X0 - (m * ax + n * (bx - ax))) by omega)
  have e1 : m * (D * r) - m * (D * (X0 - ax) - N * (bx - ax)) = D * (m * r - (m * X0 - (m * ax + n * (bx - ax)))) + (m * N * (bx - ax) - n * D * (bx - ax)) := by grind
  omega
 have := q2_mono (x := D * (X0 - ax) - N * (bx - ax)) (x' := D * r) (y := 0) (y' := 0) lo hi (Int.le_refl _) (Int.le_refl _)
 have e : q2 (D * r) 0 = D * r * (D * r) := by unfold q2; omega
 omega
theorem lf (hr : 0 <= r) (hX : X0 <= X1) (h1 : 0 <= n) (h2 : n <= m) (h3 : 0 < m) (hd : ax <= bx) (hy0 : m * Y0 <= (m - n) * ay + n * b2) (hy1 : (m - n) * ay + n * b2 <= m * Y1)
 (hx0 : (m - n) * ax + n * bx <= m * X0) (hx : m * X0 - ((m - n) * ax + n * bx) <= m * r) : Res ax ay bx b2 X0 Y0 X1 Y1 r := by
 have dn : ∀ n1 m1 : Int, 0 <= n1 -> n1 <= m1 -> 0 < m1 -> n * m1 <= n1 * m -> (m1 - n1) * ay + n1 * b2 < m1 * Y0 -> (m1 - n1) * ax + n1 * bx <= m1 * X0 -> Res ax ay bx b2 X0 Y0 X1 Y1 r := fun n1 m1 g1 g2 g3 g4 g5 g6 => by
  refine .inl ⟨X0, Y0, .inl rfl, .inl rfl, Nq.ry (up (Y1 := -Y0) (ay := -ay) (b2 := -b2) hr h1 h2 h3 g1 g2 g3 g4 hd ?_ hx ?_ g6)⟩
  ·have e : (m - n) * -ay + n * -b2 = -((m - n) * ay + n * b2) := by grind
   rw [e, Int.mul_neg]; omega
  ·have e : (m1 - n1) * -ay + n1 * -b2 = -((m1 - n1) * ay + n1 * b2) := by grind
   rw [e, Int.mul_neg]; omega
 have uu : ∀ n1 m1 : Int, 0 <= n1 -> n1 <= m1 -> 0 < m1 -> n * m1 <= n1 * m -> m1 * Y1 < (m1 - n1) * ay + n1 * b2 -> (m1 - n1) * ax + n1 * bx <= m1 * X0 -> Res ax ay bx b2 X0 Y0 X1 Y1 r := fun n1 m1 g1 g2 g3 g4 g5 g6 =>
  .inl ⟨X0, Y1, .inl rfl, .inr rfl, up hr h1 h2 h3 g1 g2 g3 g4 hd hy1 hx g5 g6⟩
 by_cases c : bx <= X0
 ·have hn : n * 1 <= 1 * m := by omega
  have ex : (1 - 1) * ax + 1 * bx <= 1 * X0 := by omega
  by_cases c1 : b2 < Y0
  ·exact dn 1 1 (by omega) (by omega) (by omega) hn (by omega) ex
  ·by_cases c2 : Y1 < b2
   ·exact uu 1 1 (by omega) (by omega) (by omega) hn (by omega) ex
   ·refine .inr (.inr (.inl ?_))
    have k1 : m * X0 - m * bx <= m * r := by
     have := imn (show 0 <= m - n by omega) (show 0 <= bx - ax by omega)
     have e : m * bx = (m - n) * ax + n * bx + (m - n) * (bx - ax) := by grind
     omega
    have k2 : X0 - bx <= r := cancel h3 (by rw [Int.mul_sub]; exact k1)
    unfold Endn
    rw [show max (max (X0 - bx) 0) (bx - X1) = X0 - bx by omega, show max (max (Y0 - b2) 0) (b2 - Y1) = 0 by omega]
    have := q2_mono (x := X0 - bx) (x' := r) (y := 0) (y' := 0) (by omega) k2 (Int.le_refl _) (Int.le_refl _)
    have e : q2 r 0 = r * r := by unfold q2; omega
    omega
 ·have e0 : (m - n) * ax + n * bx = m * ax + n * (bx - ax) := by grind
  have hA : ax <= X0 := by
   apply Classical.byContradiction; intro hn
   have k1 := imn h1 (show 0 <= bx - ax by omega)
   have k2 := Int.mul_lt_mul_of_pos_left (show X0 < ax by omega) h3
   omega
  have hD : 0 < bx - ax := by omega
  have ho : n * (bx - ax) <= (X0 - ax) * m := by
   have e : (X0 - ax) * m = m * X0 - m * ax := by grind
   omega
  have ex : ((bx - ax) - (X0 - ax)) * ax + (X0 - ax) * bx = (bx - ax) * X0 := by grind
  by_cases c1 : ((bx - ax) - (X0 - ax)) * ay + (X0 - ax) * b2 < (bx - ax) * Y0
  ·exact dn _ _ (by omega) (by omega) hD ho c1 (by rw [ex]; exact Int.le_refl _)
  ·by_cases c2 : (bx - ax) * Y1 < ((bx - ax) - (X0 - ax)) * ay + (X0 - ax) * b2
   ·exact uu _ _ (by omega) (by omega) hD ho c2 (by rw [ex]; exact Int.le_refl _)
   ·exact .inr (.inr (.inr ⟨X0 - ax, bx - ax, by omega, by omega, hD, ⟨by rw [ex]; exact Int.le_refl _, by rw [ex]; exact iml hX (Int.le_of_lt hD)⟩, by omega, by omega⟩))
theorem lf2 (hr : 0 <= r) (hX : X0 <= X1) (h1 : 0 <= n) (h2 : n <= m) (h3 : 0 < m) (hy0 : m * Y0 <= (m - n) * ay + n * b2) (hy1 : (m - n) * ay + n * b2 <= m * Y1)
 (hx0 : (m - n) * ax + n * bx <= m * X0) (hx : m * X0 - ((m - n) * ax + n * bx) <= m * r) : Res ax ay bx b2 X0 Y0 X1 Y1 r := by
 rcases Int.le_total ax bx with hd | hd
 ·exact lf hr hX h1 h2 h3 hd hy0 hy1 hx0 hx
 ·have e1 : (m - (m - n)) * bx + (m - n) * ax = (m - n) * ax + n * bx := by grind
  have e2 : (m - (m - n)) * b2 + (m - n) * ay = (m - n) * ay + n * b2 := by grind
  exact (lf (n := m - n) hr hX (by omega) (by omega) h3 hd (by rw [e2]; exact hy0) (by rw [e2]; exact hy1) (by rw [e1]; exact hx0) (by rw [e1]; exact hx)).sw
theorem rf2 (hr : 0 <= r) (hX : X0 <= X1) (h1 : 0 <= n) (h2 : n <= m) (h3 : 0 < m) (hy0 : m * Y0 <= (m - n) * ay + n * b2) (hy1 : (m - n) * ay + n * b2 <= m * Y1)
 (hx0 : m * X1 <= (m - n) * ax + n * bx) (hx : ((m - n) * ax + n * bx) - m * X1 <= m * r) : Res ax ay bx b2 X0 Y0 X1 Y1 r := by
 have e : (m - n) * -ax + n * -bx = -((m - n) * ax + n * bx) := by grind
 exact Res.rx (lf2 hr (by omega) h1 h2 h3 hy0 hy1 (by rw [e, Int.mul_neg]; omega) (by rw [e, Int.mul_neg]; omega))
theorem le_of_q2 {x y R : Int} (hR : 0 <= R) (h : q2 x y <= R * R) : x <= R := by
 refine le_sq hR ?_
 have := sq0 y
 unfold q2 at h; omega
theorem sq_abs {a b : Int} (h0 : 0 <= a) (h : a <= b ∨ a <= -b) : a * a <= b * b := by
 rcases h with h | h
 ·exact Int.mul_le_mul h h h0 (by omega)
 ·have := Int.mul_le_mul h h h0 (by omega)
  rwa [Int.neg_mul_neg] at this
theorem near_rect (hr : 0 <= r) (hk : 0 < k) (hX : X0 <= X1) (hY : Y0 <= Y1) (x0 : k * X0 <= px) (x1 : px <= k * X1) (y0 : k * Y0 <= py) (y1 : py <= k * Y1) (h : Nq ax ay bx b2 px py k r) : Res ax ay bx b2 X0 Y0 X1 Y1 r := by
 obtain ⟨n, m, h1, h2, h3, h4⟩ := h
 have hm : 0 <= m := Int.le_of_lt h3
 have key : ∀ (P Q Z0 Z1 : Int), k * Z0 <= P -> P <= k * Z1 -> (k * max (max (m * Z0 - Q) 0) (Q - m * Z1)) * (k * max (max (m * Z0 - Q) 0) (Q - m * Z1)) <= (m * P - k * Q) * (m * P - k * Q) := fun P Q Z0 Z1 g1 g2 => by
  refine sq_abs (imn (Int.le_of_lt hk) (by omega)) ?_
  have k1 := iml g1 hm
  have k2 := iml g2 hm
  have e1 : k * (m * Z0 - Q) = m * (k * Z0) - k * Q := by grind
  have e2 : k * (Q - m * Z1) = k * Q - m * (k * Z1) := by grind
  by_cases c1 : 0 <= m * Z0 - Q
  ·by_cases c2 : Q - m * Z1 <= m * Z0 - Q
   ·left; rw [show max (max (m * Z0 - Q) 0) (Q - m * Z1) = m * Z0 - Q by omega]; omega
   ·right; rw [show max (max (m * Z0 - Q) 0) (Q - m * Z1) = Q - m * Z1 by omega]; omega
  ·by_cases c2 : 0 <= Q - m * Z1
   ·right; rw [show max (max (m * Z0 - Q) 0) (Q - m * Z1) = Q - m * Z1 by omega]; omega
   ·rw [show max (max (m * Z0 - Q) 0) (Q - m * Z1) = 0 by omega, Int.mul_zero]; omega
 have kx := key px ((m - n) * ax + n * bx) X0 X1 x0 x1
 have ky := key py ((m - n) * ay + n * b2) Y0 Y1 y0 y1
 have hq : q2 (max (max (m * X0 - ((m - n) * ax + n * bx)) 0) (((m - n) * ax + n * bx) - m * X1)) (max (max (m * Y0 - ((m - n) * ay + n * b2)) 0) (((m - n) * ay + n * b2) - m * Y1)) <= m * r * (m * r) := by
  refine cancel2 hk ?_
  rw [← q2_mul, show k * k * (m * r * (m * r)) = m * k * r * (m * k * r) by grind]
  refine Int.le_trans ?_ h4
  unfold q2; omega
 have hR := imn hm hr
 have qx := le_of_q2 hR hq
 have qy := le_of_q2 hR (by rw [q2_comm]; exact hq)
 have mX := iml hX hm
 have mY := iml hY hm
 have cor : ∀ cx cy : Int, (cx = X0 ∨ cx = X1) -> (cy = Y0 ∨ cy = Y1) -> q2 (m * cx - ((m - n) * ax + n * bx)) (m * cy - ((m - n) * ay + n * b2)) <= m * r * (m * r) -> Res ax ay bx b2 X0 Y0 X1 Y1 r := fun cx cy g1 g2 g3 =>
  .inl ⟨cx, cy, g1, g2, n, m, h1, h2, h3, by rw [Int.one_mul, Int.one_mul, Int.mul_one]; exact g3⟩
 generalize hQx : (m - n) * ax + n * bx = Qx at *
 generalize hQy : (m - n) * ay + n * b2 = Qy at *
 have ng : ∀ a b : Int, q2 (b - a) (b - a) = q2 (a - b) (a - b) := fun a b => by unfold q2; grind
 by_cases a1 : Qx < m * X0
 ·rw [show max (max (m * X0 - Qx) 0) (Qx - m * X1) = m * X0 - Qx by omega] at hq qx
  by_cases b1 : Qy < m * Y0
  ·rw [show max (max (m * Y0 - Qy) 0) (Qy - m * Y1) = m * Y0 - Qy by omega] at hq
   exact cor X0 Y0 (.inl rfl) (.inl rfl) hq
  ·by_cases b3 : m * Y1 < Qy
   ·rw [show max (max (m * Y0 - Qy) 0) (Qy - m * Y1) = -(m * Y1 - Qy) by omega, q2_comm, q2_neg, q2_comm] at hq
    exact cor X0 Y1 (.inl rfl) (.inr rfl) hq
   ·exact lf2 hr hX h1 h2 h3 (by rw [hQy]; omega) (by rw [hQy]; omega) (by rw [hQx]; omega) (by rw [hQx]; omega)
 ·by_cases a3 : m * X1 < Qx
  ·rw [show max (max (m * X0 - Qx) 0) (Qx - m * X1) = -(m * X1 - Qx) by omega] at hq qx
   rw [q2_neg] at hq
   by_cases b1 : Qy < m * Y0
   ·rw [show max (max (m * Y0 - Qy) 0) (Qy - m * Y1) = m * Y0 - Qy by omega] at hq
    exact cor X1 Y0 (.inr rfl) (.inl rfl) hq
   ·by_cases b3 : m * Y1 < Qy
    ·rw [show max (max (m * Y0 - Qy) 0) (Qy - m * Y1) = -(m * Y1 - Qy) by omega, q2_comm, q2_neg, q2_comm] at hq
     exact cor X1 Y1 (.inr rfl) (.inr rfl) hq
    ·exact rf2 hr hX h1 h2 h3 (by rw [hQy]; omega) (by rw [hQy]; omega) (by rw [hQx]; omega) (by rw [hQx]; omega)
  ·by_cases b1 : Qy < m * Y0
   ·rw [show max (max (m * Y0 - Qy) 0) (Qy - m * Y1) = m * Y0 - Qy by omega] at qy
    exact Res.xy (lf2 hr hY h1 h2 h3 (by rw [hQx]; omega) (by rw [hQx]; omega) (by rw [hQy]; omega) (by rw [hQy]; omega))
   ·by_cases b3 : m * Y1 < Qy
    ·rw [show max (max (m * Y0 - Qy) 0) (Qy - m * Y1) = Qy - m * Y1 by omega] at qy
     exact Res.xy (rf2 hr hY h1 h2 h3 (by rw [hQx]; omega) (by rw [hQx]; omega) (by rw [hQy]; omega) (by rw [hQy]; omega))
    ·exact .inr (.inr (.inr ⟨n, m, h1, h2, h3, by rw [hQx]; omega, by rw [hQy]; omega⟩))
theorem meet_sides (hX : X0 <= X1) (hY : Y0 <= Y1) (h : Meet ax ay bx b2 X0 Y0 X1 Y1) : Bx ax ay bx b2 X0 Y0 X1 Y1 /\ (∃ cx cy, (cx = X0 ∨ cx = X1) /\ (cy = Y0 ∨ cy = Y1) /\ 0 <= sd ax ay bx b2 cx cy) /\ ∃ cx cy, (cx = X0 ∨ cx = X1) /\ (cy = Y0 ∨ cy = Y1) /\ sd ax ay bx b2 cx cy <= 0 := by
 obtain ⟨n, m, h1, h2, h3, ⟨h4, h5⟩, h6, h7⟩ := h
 have hm : 0 <= m := Int.le_of_lt h3
 have hmn : 0 <= m - n := by omega
 have mono : ∀ a b Z : Int, (m - n) * a + n * b <= m * Z -> ¬ (Z < min a b) := fun a b Z g hn => by
  have k1 := iml (show Z + 1 <= a by omega) hmn
  have k2 := iml (show Z + 1 <= b by omega) h1
  have e : (m - n) * (Z + 1) + n * (Z + 1) = m * Z + m := by grind
  omega
 have mono2 : ∀ a b Z : Int, m * Z <= (m - n) * a + n * b -> ¬ (max a b < Z) := fun a b Z g hn => by
  have k1 := iml (show a <= Z - 1 by omega) hmn
  have k2 := iml (show b <= Z - 1 by omega) h1
  have e : (m - n) * (Z - 1) + n * (Z - 1) = m * Z - m := by grind
  omega
 have e0 : (bx - ax) * ((m - n) * ay + n * b2) - (b2 - ay) * ((m - n) * ax + n * bx) = m * ((bx - ax) * ay - (b2 - ay) * ax) := by grind
 have es : ∀ cx cy : Int, m * sd ax ay bx b2 cx cy = (bx - ax) * (m * cy - ((m - n) * ay + n * b2)) - (b2 - ay) * (m * cx - ((m - n) * ax + n * bx)) := fun cx cy => by unfold sd; grind
 refine ⟨fun hn => ?_, ?_, ?_⟩
 ·rcases hn with hn | hn | hn | hn
  ·exact mono2 _ _ _ h4 hn
  ·exact mono _ _ _ h5 hn
  ·exact mono2 _ _ _ h6 hn
  ·exact mono _ _ _ h7 hn
 ·have sgn : ∀ D lo hi : Int, lo <= 0 -> 0 <= hi -> 0 <= D * hi ∨ 0 <= D * lo := fun D lo hi l1 l2 => by
   rcases Int.le_total 0 D with hD | hD
   ·exact .inl (imn hD l2)
   ·exact .inr (by have := imn (show 0 <= -D by omega) (show 0 <= -lo by omega); rwa [Int.neg_mul_neg] at this)
  have s1 := sgn (bx - ax) (m * Y0 - ((m - n) * ay + n * b2)) (m * Y1 - ((m - n) * ay + n * b2)) (by omega) (by omega)
  have s2 := sgn (-(b2 - ay)) (m * X0 - ((m - n) * ax + n * bx)) (m * X1 - ((m - n) * ax + n * bx)) (by omega) (by omega)
  rw [Int.neg_mul, Int.neg_mul] at s2
  rcases s1 with s1 | s1 <;> rcases s2 with s2 | s2
  ·exact ⟨X1, Y1, .inr rfl, .inr rfl, cancel h3 (by rw [es]; omega)⟩
  ·exact ⟨X0, Y1, .inl rfl, .inr rfl, cancel h3 (by rw [es]; omega)⟩
  ·exact ⟨X1, Y0, .inr rfl, .inl rfl, cancel h3 (by rw [es]; omega)⟩
  ·exact ⟨X0, Y0, .inl rfl, .inl rfl, cancel h3 (by rw [es]; omega)⟩
 ·have sgn : ∀ D lo hi : Int, lo <= 0 -> 0 <= hi -> D * hi <= 0 ∨ D * lo <= 0 := fun D lo hi l1 l2 => by
   rcases Int.le_total 0 D with hD | hD
   ·exact .inr (by have := imn hD (show 0 <= -lo by omega); rw [Int.mul_neg] at this; omega)
   ·exact .inl (by have := imn (show 0 <= -D by omega) l2; rw [Int.neg_mul] at this; omega)
  have s1 := sgn (bx - ax) (m * Y0 - ((m - n) * ay + n * b2)) (m * Y1 - ((m - n) * ay + n * b2)) (by omega) (by omega)
  have s2 := sgn (-(b2 - ay)) (m * X0 - ((m - n) * ax + n * bx)) (m * X1 - ((m - n) * ax + n * bx)) (by omega) (by omega)
  rw [Int.neg_mul, Int.neg_mul] at s2
  rcases s1 with s1 | s1 <;> rcases s2 with s2 | s2
  ·exact ⟨X1, Y1, .inr rfl, .inr rfl, cancel h3 (by rw [es]; omega)⟩
  ·exact ⟨X0, Y1, .inl rfl, .inr rfl, cancel h3 (by rw [es]; omega)⟩
  ·exact ⟨X1, Y0, .inr rfl, .inl rfl, cancel h3 (by rw [es]; omega)⟩
  ·exact ⟨X0, Y0, .inl rfl, .inl rfl, cancel h3 (by rw [es]; omega)⟩
end
noncomputable section
section
variable {ax ay bx b2 px py r n m k X0 Y0 X1 Y1 : Int}
def Sides (ax ay bx b2 X0 Y0 X1 Y1 : Int) : Prop := (∃ cx cy, (cx = X0 ∨ cx = X1) /\ (cy = Y0 ∨ cy = Y1) /\ 0 <= sd ax ay bx b2 cx cy) /\ ∃ cx cy, (cx = X0 ∨ cx = X1) /\ (cy = Y0 ∨ cy = Y1) /\ sd ax ay bx b2 cx cy <= 0
theorem Meet.rx (h : Meet (-ax) ay (-bx) b2 (-X1) Y0 (-X0) Y1) : Meet ax ay bx b2 X0 Y0 X1 Y1 := by
 obtain ⟨n, m, h1, h2, h3, h4, h5⟩ := h
 refine ⟨n, m, h1, h2, h3, ?_, h5⟩
 have e : (m - n) * -ax + n * -bx = -((m - n) * ax + n * bx) := by grind
 rw [e, Int.mul_neg, Int.mul_neg] at h4
 omega
theorem Meet.ry (h : Meet ax (-ay) bx (-b2) X0 (-Y1) X1 (-Y0)) : Meet ax ay bx b2 X0 Y0 X1 Y1 := by
 obtain ⟨n, m, h1, h2, h3, h4, h5⟩ := h
 refine ⟨n, m, h1, h2, h3, h4, ?_⟩
 have e : (m - n) * -ay + n * -b2 = -((m - n) * ay + n * b2) := by grind
 rw [e, Int.mul_neg, Int.mul_neg] at h5
 omega
theorem Sides.rx (h : Sides ax ay bx b2 X0 Y0 X1 Y1) : Sides (-ax) ay (-bx) b2 (-X1) Y0 (-X0) Y1 := by
 have e : ∀ cx cy, sd (-ax) ay (-bx) b2 (-cx) cy = -sd ax ay bx b2 cx cy := fun cx cy => by unfold sd; grind
 obtain ⟨⟨cx, cy, h1, h2, h3⟩, dx, dy, g1, g2, g3⟩ := h
 exact ⟨⟨-dx, dy, by omega, g2, by rw [e]; omega⟩, -cx, cy, by omega, h2, by rw [e]; omega⟩
theorem Sides.ry (h : Sides ax ay bx b2 X0 Y0 X1 Y1) : Sides ax (-ay) bx (-b2) X0 (-Y1) X1 (-Y0) := by
 have e : ∀ cx cy, sd ax (-ay) bx (-b2) cx (-cy) = -sd ax ay bx b2 cx cy := fun cx cy => by unfold sd; grind
 obtain ⟨⟨cx, cy, h1, h2, h3⟩, dx, dy, g1, g2, g3⟩ := h
 exact ⟨⟨dx, -dy, g1, by omega, by rw [e]; omega⟩, cx, -cy, h1, by omega, by rw [e]; omega⟩
theorem sat0 (hX : X0 <= X1) (hY : Y0 <= Y1) (hB : Bx ax ay bx b2 X0 Y0 X1 Y1) (hS : Sides ax ay bx b2 X0 Y0 X1 Y1) (hx : ax <= bx) (hy : ay <= b2) : Meet ax ay bx b2 X0 Y0 X1 Y1 := by
 unfold Bx at hB
 have hdx : 0 <= bx - ax := by omega
 have hdy : 0 <= b2 - ay := by omega
 obtain ⟨⟨cx, cy, s1, s2, s3⟩, ex, ey, t1, t2, t3⟩ := hS
 unfold sd at s3 t3
 -- the way to a corner
 have up : ∀ cx cy : Int, (cx = X0 ∨ cx = X1) -> (cy = Y0 ∨ cy = Y1) -> (bx - ax) * (cy - ay) <= (bx - ax) * (Y1 - ay) /\ (bx - ax) * (Y0 - ay) <= (bx - ax) * (cy - ay) /\ (b2 - ay) * (X0 - ax) <= (b2 - ay) * (cx - ax) /\ (b2 - ay) * (cx - ax) <= (b2 - ay) * (X1 - ax) := fun cx cy h1 h2 =>
  ⟨iml (by omega) hdx, iml (by omega) hdx, iml (by omega) hdy, iml (by omega) hdy⟩
 have u1 := up cx cy s1 s2
 have u2 := up ex ey t1 t2
 have main : ∀ N D : Int, 0 <= N -> N <= D -> 0 < D -> (D * (X0 - ax) <= N * (bx - ax) /\ N * (bx - ax) <= D * (X1 - ax)) -> (D * (Y0 - ay) <= N * (b2 - ay) /\ N * (b2 - ay) <= D * (Y1 - ay)) -> Meet ax ay bx b2 X0 Y0 X1 Y1 := fun N D h1 h2 h3 h4 h5 => by
  have e1 : (D - N) * ax + N * bx = D * ax + N * (bx - ax) := by grind
  have e2 : (D - N) * ay + N * b2 = D * ay + N * (b2 - ay) := by grind
  rw [Int.mul_sub D, Int.mul_sub D] at h4 h5
  exact ⟨N, D, h1, h2, h3, by rw [e1]; omega, by rw [e2]; omega⟩
 by_cases a1 : ax < X0
 ·by_cases a2 : (bx - ax) * (Y0 - ay) <= (X0 - ax) * (b2 - ay)
  ·have hD : 0 < bx - ax := by omega
   have c1 : (b2 - ay) * (X0 - ax) = (X0 - ax) * (b2 - ay) := Int.mul_comm ..
   refine main (X0 - ax) (bx - ax) (by omega) (by omega) hD ⟨by rw [Int.mul_comm]; exact Int.le_refl _, ?_⟩ ⟨a2, by omega⟩
   rw [Int.mul_comm]; exact iml (by omega) hdx
  ·have a3 : ay < Y0 := by
    apply Classical.byContradiction; intro hn
    have k1 := imn hdx (show 0 <= ay - Y0 by omega)
    have k2 := imn (show 0 <= X0 - ax by omega) hdy
    have e : (bx - ax) * (ay - Y0) = -((bx - ax) * (Y0 - ay)) := by grind
    omega
   have hD : 0 < b2 - ay := by omega
   have c1 : (b2 - ay) * (X0 - ax) = (X0 - ax) * (b2 - ay) := Int.mul_comm ..
   have c2 : (bx - ax) * (Y0 - ay) = (Y0 - ay) * (bx - ax) := Int.mul_comm ..
   refine main (Y0 - ay) (b2 - ay) (by omega) (by omega) hD ⟨by omega, by omega⟩ ⟨by rw [Int.mul_comm]; exact Int.le_refl _, ?_⟩
   rw [Int.mul_comm]; exact iml (by omega) hdy
 ·by_cases a3 : ay < Y0
  ·have hD : 0 < b2 - ay := by omega
   have c2 : (bx - ax) * (Y0 - ay) = (Y0 - ay) * (bx - ax) := Int.mul_comm ..
   refine main (Y0 - ay) (b2 - ay) (by omega) (by omega) hD ⟨?_, by omega⟩ ⟨by rw [Int.mul_comm]; exact Int.le_refl _, ?_⟩
   ·have k1 := imn hdy (show 0 <= ax - X0 by omega)
    have k2 := imn (show 0 <= Y0 - ay by omega) hdx
    have e : (b2 - ay) * (ax - X0) = -((b2 - ay) * (X0 - ax)) := by grind
    omega
   ·rw [Int.mul_comm]; exact iml (by omega) hdy
  ·exact ⟨0, 1, by omega, by omega, by omega, by omega, by omega⟩
theorem bx_rx (h : Bx ax ay bx b2 X0 Y0 X1 Y1) : Bx (-ax) ay (-bx) b2 (-X1) Y0 (-X0) Y1 := by unfold Bx at *; omega
theorem bx_ry (h : Bx ax ay bx b2 X0 Y0 X1 Y1) : Bx ax (-ay) bx (-b2) X0 (-Y1) X1 (-Y0) := by unfold Bx at *; omega
theorem sat_meet (hX : X0 <= X1) (hY : Y0 <= Y1) (hB : Bx ax ay bx b2 X0 Y0 X1 Y1) (hS : Sides ax ay bx b2 X0 Y0 X1 Y1) : Meet ax ay bx b2 X0 Y0 X1 Y1 := by
 rcases Int.le_total ax bx with h1 | h1 <;> rcases Int.le_total ay b2 with h2 | h2
 ·exact sat0 hX hY hB hS h1 h2
 ·exact Meet.ry (sat0 hX (by omega) (bx_ry hB) hS.ry h1 (by omega))
 ·exact Meet.rx (sat0 (by omega) hY (bx_rx hB) hS.rx (by omega) h2)
 ·exact Meet.rx (Meet.ry (sat0 (by omega) (by omega) (bx_ry (bx_rx hB)) hS.rx.ry (by omega) (by omega)))
def Hit (ax ay bx b2 X0 Y0 X1 Y1 r : Int) : Prop := ∃ px py k, 0 < k /\ (k * X0 <= px /\ px <= k * X1) /\ (k * Y0 <= py /\ py <= k * Y1) /\ Nq ax ay bx b2 px py k r
theorem hit_res (hr : 0 <= r) (hX : X0 <= X1) (hY : Y0 <= Y1) : Hit ax ay bx b2 X0 Y0 X1 Y1 r ↔ Res ax ay bx b2 X0 Y0 X1 Y1 r := by
 constructor
 ·rintro ⟨px, py, k, hk, ⟨h1, h2⟩, ⟨h3, h4⟩, h⟩
  exact near_rect hr hk hX hY h1 h2 h3 h4 h
 ·rintro (⟨cx, cy, h1, h2, h3⟩ | h | h | ⟨n, m, h1, h2, h3, h4, h5⟩)
  ·exact ⟨cx, cy, 1, by omega, by omega, by omega, h3⟩
  ·refine ⟨max X0 (min ax X1), max Y0 (min ay Y1), 1, by omega, by omega, by omega, 0, 1, by omega, by omega, by omega, ?_⟩
   unfold Endn at h
   have ex : 1 * max X0 (min ax X1) - 1 * ((1 - 0) * ax + 0 * bx) = max X0 (min ax X1) - ax := by omega
   have ey : 1 * max Y0 (min ay Y1) - 1 * ((1 - 0) * ay + 0 * b2) = max Y0 (min ay Y1) - ay := by omega
   rw [ex, ey, show 1 * 1 * r = r by omega]
   refine Int.le_trans ?_ h
   unfold q2
   have k1 : (max X0 (min ax X1) - ax) * (max X0 (min ax X1) - ax) <= max (max (X0 - ax) 0) (ax - X1) * max (max (X0 - ax) 0) (ax - X1) := by
    rcases Int.le_total 0 (max X0 (min ax X1) - ax) with h0 | h0
    ·exact sq_abs h0 (.inl (by omega))
    ·have := sq_abs (a := -(max X0 (min ax X1) - ax)) (b := max (max (X0 - ax) 0) (ax - X1)) (by omega) (.inl (by omega))
     rwa [Int.neg_mul_neg] at this
   have k2 : (max Y0 (min ay Y1) - ay) * (max Y0 (min ay Y1) - ay) <= max (max (Y0 - ay) 0) (ay - Y1) * max (max (Y0 - ay) 0) (ay - Y1) := by
    rcases Int.le_total 0 (max Y0 (min ay Y1) - ay) with h0 | h0
    ·exact sq_abs h0 (.inl (by omega))
    ·have := sq_abs (a := -(max Y0 (min ay Y1) - ay)) (b := max (max (Y0 - ay) 0) (ay - Y1)) (by omega) (.inl (by omega))
     rwa [Int.neg_mul_neg] at this
   omega
  ·refine ⟨max X0 (min bx X1), max Y0 (min b2 Y1), 1, by omega, by omega, by omega, 1, 1, by omega, by omega, by omega, ?_⟩
   unfold Endn at h
   have ex : 1 * max X0 (min bx X1) - 1 * ((1 - 1) * ax + 1 * bx) = max X0 (min bx X1) - bx := by omega
   have ey : 1 * max Y0 (min b2 Y1) - 1 * ((1 - 1) * ay + 1 * b2) = max Y0 (min b2 Y1) - b2 := by omega
   rw [ex, ey, show 1 * 1 * r = r by omega]
   refine Int.le_trans ?_ h
   unfold q2
   have k1 : (max X0 (min bx X1) - bx) * (max X0 (min bx X1) - bx) <= max (max (X0 - bx) 0) (bx - X1) * max (max (X0 - bx) 0) (bx - X1) := by
    rcases Int.le_total 0 (max X0 (min bx X1) - bx) with h0 | h0
    ·exact sq_abs h0 (.inl (by omega))
    ·have := sq_abs (a := -(max X0 (min bx X1) - bx)) (b := max (max (X0 - bx) 0) (bx - X1)) (by omega) (.inl (by omega))
     rwa [Int.neg_mul_neg] at this
   have k2 : (max Y0 (min b2 Y1) - b2) * (max Y0 (min b2 Y1) - b2) <= max (max (Y0 - b2) 0) (b2 - Y1) * max (max (Y0 - b2) 0) (b2 - Y1) := by
    rcases Int.le_total 0 (max Y0 (min b2 Y1) - b2) with h0 | h0
    ·exact sq_abs h0 (.inl (by omega))
    ·have := sq_abs (a := -(max Y0 (min b2 Y1) - b2)) (b := max (max (Y0 - b2) 0) (b2 - Y1)) (by omega) (.inl (by omega))
     rwa [Int.neg_mul_neg] at this
   omega
  ·refine ⟨(m - n) * ax + n * bx, (m - n) * ay + n * b2, m, h3, h4, h5, n, m, h1, h2, h3, ?_⟩
   rw [Int.sub_self, Int.sub_self]
   have := sq0 (m * m * r)
   unfold q2; omega
end
end
abbrev P2 := Int × Int
def sdp (a b p : P2) : Int := sd a.1 a.2 b.1 b.2 p.1 p.2
def ltP (a b : P2) : Prop := a.1 < b.1 ∨ (a.1 = b.1 /\ a.2 < b.2)
def leP (a b : P2) : Prop := a.1 < b.1 ∨ (a.1 = b.1 /\ a.2 <= b.2)
def Pv (x y : Int) : Prop := 0 < x ∨ (x = 0 /\ 0 < y)
theorem pos_cancel {k a : Int} (hk : 0 < k) (h : 0 < k * a) : 0 < a := by
 apply Classical.byContradiction; intro hn
 have := imn (Int.le_of_lt hk) (show 0 <= -a by omega)
 rw [Int.mul_neg] at this; omega
section
variable {ux uy vx vy wx wy : Int}
theorem crT (hu : Pv ux uy) (hv : Pv vx vy) (hw : Pv wx wy) (h1 : 0 <= ux * vy - uy * vx) (h2 : 0 <= vx * wy - vy * wx) : 0 <= ux * wy - uy * wx := by
 unfold Pv at *
 rcases hv with hv | ⟨rfl, hv⟩
 ·have e : vx * (ux * wy - uy * wx) = wx * (ux * vy - uy * vx) + ux * (vx * wy - vy * wx) := by grind
  have k1 := imn (show 0 <= wx by omega) h1
  have k2 := imn (show 0 <= ux by omega) h2
  exact cancel hv (by rw [Int.mul_zero]; omega)
 ·have k3 : 0 <= vy * wx := imn (by omega) (by omega)
  have : wx = 0 := by
   rcases Int.mul_eq_zero.1 (show vy * wx = 0 by omega) with h | h <;> omega
  subst this
  have := imn (show 0 <= ux by omega) (show 0 <= wy by omega)
  omega
theorem crS (hu : Pv ux uy) (hv : Pv vx vy) (hw : Pv wx wy) (h1 : 0 < ux * vy - uy * vx) (h2 : 0 < vx * wy - vy * wx) : 0 < ux * wy - uy * wx := by
 unfold Pv at *
 rcases hv with hv | ⟨rfl, hv⟩
 ·have e : vx * (ux * wy - uy * wx) = wx * (ux * vy - uy * vx) + ux * (vx * wy - vy * wx) := by grind
  have k1 := imn (show 0 <= wx by omega) (Int.le_of_lt h1)
  have k2 := imn (show 0 <= ux by omega) (Int.le_of_lt h2)
  by_cases hz : wx = 0 /\ ux = 0
  ·obtain ⟨rfl, rfl⟩ := hz
   have := imn (show 0 <= uy by omega) (Int.le_of_lt hv)
   omega
  ·refine pos_cancel hv ?_
   rcases (show 0 < wx ∨ 0 < ux by omega) with h | h
   ·have := Int.mul_pos h h1; omega
   ·have := Int.mul_pos h h2; omega
 ·have k3 : 0 <= vy * wx := imn (by omega) (by omega)
  omega
end
section
variable {a b c p q t a' : P2}
theorem pv_of (h : ltP a b) : Pv (b.1 - a.1) (b.2 - a.2) := by unfold ltP at h; unfold Pv; omega
theorem ltP_trans (h1 : ltP a b) (h2 : ltP b c) : ltP a c := by unfold ltP at *; omega
theorem ltP_le (h1 : ltP a b) (h2 : leP b c) : ltP a c := by unfold ltP leP at *; omega
theorem leP_lt (h1 : leP a b) (h2 : ltP b c) : ltP a c := by unfold ltP leP at *; omega
theorem leP_of (h1 : ltP a b) : leP a b := by unfold ltP leP at *; omega
theorem leP_refl (a : P2) : leP a a := by unfold leP; omega
theorem ltP_irr (a : P2) : ¬ ltP a a := by unfold ltP; omega
theorem ltP_tri (a b : P2) : ltP a b ∨ a = b ∨ ltP b a := by
 by_cases h : a.1 = b.1 /\ a.2 = b.2
 ·exact .inr (.inl (Prod.ext h.1 h.2))
 ·unfold ltP; omega
theorem leP_eq (h1 : leP a b) (h2 : leP b a) : a = b := by
 unfold leP at *; exact Prod.ext (by omega) (by omega)
theorem sdp_0 (a b : P2) : sdp a b a = 0 := by unfold sdp sd; grind
theorem sdp_1 (a b : P2) : sdp a b b = 0 := by unfold sdp sd; grind
theorem sdp_neg (a b p : P2) : sdp b a p = -sdp a b p := by unfold sdp sd; grind
theorem t_above (h1 : ltP a t) (h2 : ltP a q) (h3 : ltP a p) (h4 : 0 <= sdp a t q) (h5 : sdp a t p <= 0) : 0 <= sdp a p q := by
 have k := crT (pv_of h3) (pv_of h1) (pv_of h2) (by unfold sdp sd at h5; grind) (by unfold sdp sd at h4; grind)
 unfold sdp sd; exact k
theorem t_below (h1 : ltP a b) (h2 : ltP q b) (h3 : ltP b p) (h4 : 0 <= sdp a b q) (h5 : 0 < sdp a b p) : 0 <= sdp b p q := by
 have e4 : sdp a b q = (b.1 - q.1) * (b.2 - a.2) - (b.2 - q.2) * (b.1 - a.1) := by unfold sdp sd; grind
 have e5 : sdp a b p = (b.1 - a.1) * (p.2 - b.2) - (b.2 - a.2) * (p.1 - b.1) := by unfold sdp sd; grind
 have e6 : sdp b p q = (b.1 - q.1) * (p.2 - b.2) - (b.2 - q.2) * (p.1 - b.1) := by unfold sdp sd; grind
 rw [e4] at h4; rw [e5] at h5; rw [e6]
 exact crT (pv_of h2) (pv_of h1) (pv_of h3) h4 (Int.le_of_lt h5)
theorem t_ext (h1 : ltP a' a) (h2 : ltP a b) (h3 : ltP b p) (h4 : 0 < sdp a' a b) (h5 : 0 < sdp a b p) : 0 < sdp a' a p := by
 have e4 : sdp a' a b = (a.1 - a'.1) * (b.2 - a.2) - (a.2 - a'.2) * (b.1 - a.1) := by unfold sdp sd; grind
 have e5 : sdp a b p = (b.1 - a.1) * (p.2 - b.2) - (b.2 - a.2) * (p.1 - b.1) := by unfold sdp sd; grind
 have e6 : sdp a' a p = sdp a' a b + ((a.1 - a'.1) * (p.2 - b.2) - (a.2 - a'.2) * (p.1 - b.1)) := by unfold sdp sd; grind
 rw [e6]
 have := crS (pv_of h1) (pv_of h2) (pv_of h3) (by rw [← e4]; exact h4) (by rw [← e5]; exact h5)
 omega
end
def popS (p : P2) : List P2 -> List P2
 | b :: a :: l => bif decide (sdp a b p <= 0) then popS p (a :: l) else b :: a :: l
 | l => l
def chainS : List P2 -> List P2 -> List P2
 | st, [] => st
 | st, p :: l => chainS (p :: popS p st) l
def Ch (D : P2 -> Prop) : List P2 -> Prop
 | [] => False
 | [s] => D s /\ ∀ q, D q -> leP s q
 | b :: a :: l => ltP a b /\ D b /\ (∀ q, D q -> 0 <= sdp a b q) /\ (∀ c, l.head? = some c -> 0 < sdp c a b) /\ Ch D (a :: l)
theorem Ch.cong {D D' : P2 -> Prop} (h : ∀ q, D q ↔ D' q) {l : List P2} (hc : Ch D l) : Ch D' l := by
 rwa [show D' = D from funext fun q => propext (h q).symm]
theorem ch_ext {D : P2 -> Prop} {p : P2} (hp : ∀ q, D q -> ltP q p) : ∀ (l : List P2) (a b : P2), Ch D (b :: a :: l) -> 0 < sdp a b p -> Ch (fun q => D q ∨ q = p) (b :: a :: l)
 | [], a, b, h, h2 => by
   obtain ⟨h3, h4, h5, h6, h7, h8⟩ := h
   refine ⟨h3, .inl h4, ?_, h6, .inl h7, ?_⟩
   ·rintro q (hq | rfl)
    ·exact h5 q hq
    ·exact Int.le_of_lt h2
   ·rintro q (hq | rfl)
    ·exact h8 q hq
    ·exact leP_of (hp _ h7)
 | c :: l, a, b, h, h2 => by
   obtain ⟨h3, h4, h5, h6, h7⟩ := h
   refine ⟨h3, .inl h4, ?_, h6, ?_⟩
   ·rintro q (hq | rfl)
    ·exact h5 q hq
    ·exact Int.le_of_lt h2
   ·exact ch_ext hp l c a h7 (t_ext h7.1 h3 (hp _ h4) (h6 c rfl) h2)
theorem ch_pop {D : P2 -> Prop} {p : P2} (hp : ∀ q, D q -> ltP q p) : ∀ (l : List P2) (t : P2), Ch D (t :: l) -> (∀ q, D q -> ltP t q -> 0 <= sdp t p q) -> Ch (fun q => D q ∨ q = p) (p :: popS p (t :: l))
 | [], t, h, h2 => by
   obtain ⟨h3, h4⟩ := h
   refine ⟨hp _ h3, .inr rfl, ?_, (fun c hc => by cases hc), .inl h3, ?_⟩
   ·rintro q (hq | rfl)
    ·rcases ltP_tri t q with k | rfl | k
     ·exact h2 q hq k
     ·rw [sdp_0]; omega
     ·exact (ltP_irr _ (leP_lt (h4 q hq) k)).elim
    ·rw [sdp_1]; omega
   ·rintro q (hq | rfl)
    ·exact h4 q hq
    ·exact leP_of (hp _ h3)
 | a :: l, t, h, h2 => by
   have h' := h
   obtain ⟨h3, h4, h5, h6, h7⟩ := h
   have ha : D a := by cases l with
    | nil => exact h7.1
    | cons c l => exact h7.2.1
   unfold popS
   by_cases hs : sdp a t p <= 0
   ·rw [dqt hs, cond_true]
    exact ch_pop hp l a h7 fun q hq hlt => t_above h3 hlt (hp _ ha) (h5 q hq) hs
   ·rw [dqf hs, cond_false]
    refine ⟨hp _ h4, .inr rfl, ?_, ?_, ch_ext hp l a t h' (by omega)⟩
    ·rintro q (hq | rfl)
     ·rcases ltP_tri t q with k | rfl | k
      ·exact h2 q hq k
      ·rw [sdp_0]; omega
      ·exact t_below h3 k (hp _ h4) (h5 q hq) (by omega)
     ·rw [sdp_1]; omega
    ·intro c hc
     simp only [List.head?_cons, Option.some.injEq] at hc
     subst hc; omega
theorem ch_chain : ∀ (l : List P2) (D : P2 -> Prop) (t : P2) (st : List P2), Ch D (t :: st) -> (∀ q, D q -> leP q t) -> (∀ p ∈ l, ltP t p) -> l.Pairwise ltP ->
 ∃ z r, chainS (t :: st) l = z :: r /\ Ch (fun q => D q ∨ q ∈ l) (z :: r) /\ ∀ q, (D q ∨ q ∈ l) -> leP q z
 | [], D, t, st, h1, h2, _, _ => ⟨t, st, rfl, h1.cong (by simp), by simpa using h2⟩
 | p :: l, D, t, st, h1, h2, h3, h4 => by
   have hp : ∀ q, D q -> ltP q p := fun q hq => leP_lt (h2 q hq) (h3 p (by simp))
   have k := ch_pop hp st t h1 fun q hq hlt => (ltP_irr _ (leP_lt (h2 q hq) hlt)).elim
   rw [List.pairwise_cons] at h4
   obtain ⟨z, r, e, hc, hz⟩ := ch_chain l _ p _ k (fun q hq => by
    rcases hq with hq | rfl
    ·exact leP_of (hp q hq)
    ·exact leP_refl _) h4.1 h4.2
   refine ⟨z, r, e, hc.cong fun q => ?_, fun q hq => hz q ?_⟩
   ·simp only [List.mem_cons]; constructor
    ·rintro ((h | h) | h)
     ·exact .inl h
     ·exact .inr (.inl h)
     ·exact .inr (.inr h)
    ·rintro (h | h | h)
     ·exact .inl (.inl h)
     ·exact .inl (.inr h)
     ·exact .inr h
   ·simp only [List.mem_cons] at hq
    rcases hq with h | h | h
    ·exact .inl (.inl h)
    ·exact .inl (.inr h)
    ·exact .inr h
theorem ch_all {m : P2} {l : List P2} (h : (m :: l).Pairwise ltP) : ∃ z r, chainS [] (m :: l) = z :: r /\ Ch (fun q => q ∈ m :: l) (z :: r) /\ ∀ q, q ∈ m :: l -> leP q z := by
 rw [List.pairwise_cons] at h
 obtain ⟨z, r, e, hc, hz⟩ := ch_chain l (fun q => q = m) m [] ⟨rfl, fun q hq => by rw [hq]; exact leP_refl _⟩ (fun q hq => by rw [hq]; exact leP_refl _) h.1 h.2
 exact ⟨z, r, e, hc.cong (by simp), fun q hq => hz q (by simpa using hq)⟩
def Adj : List P2 -> P2 -> P2 -> Prop
 | b :: a :: l, x, y => (x = a /\ y = b) ∨ Adj (a :: l) x y
 | _, _, _ => False
def botS : List P2 -> P2
 | [] => (0, 0)
 | [s] => s
 | _ :: a :: l => botS (a :: l)
section
variable {D : P2 -> Prop}
theorem ch_mem : ∀ {st : List P2}, Ch D st -> ∀ q ∈ st, D q
 | [s], h, q, hq => by simp at hq; subst hq; exact h.1
 | b :: a :: l, h, q, hq => by
   rcases List.mem_cons.1 hq with rfl | hq
   ·exact h.2.1
   ·exact ch_mem h.2.2.2.2 q hq
theorem adj_mem : ∀ {st : List P2} {x y : P2}, Adj st x y -> x ∈ st /\ y ∈ st
 | b :: a :: l, x, y, h => by
   rcases h with ⟨rfl, rfl⟩ | h
   ·simp
   ·have := adj_mem h
    exact ⟨List.mem_cons_of_mem _ this.1, List.mem_cons_of_mem _ this.2⟩
theorem adj_edge : ∀ {st : List P2} {x y : P2}, Ch D st -> Adj st x y -> ltP x y /\ ∀ q, D q -> 0 <= sdp x y q
 | b :: a :: l, x, y, h, ha => by
   rcases ha with ⟨rfl, rfl⟩ | ha
   ·exact ⟨h.1, h.2.2.1⟩
   ·exact adj_edge h.2.2.2.2 ha
theorem adj_lt : ∀ {st : List P2} {t x y : P2}, Ch D (t :: st) -> Adj (t :: st) x y -> leP y t
 | a :: l, t, x, y, h, ha => by
   rcases ha with ⟨rfl, rfl⟩ | ha
   ·exact leP_refl _
   ·have := adj_lt h.2.2.2.2 ha
    exact leP_of (leP_lt this h.1)
theorem adj_next : ∀ {st : List P2} {t x y : P2}, Ch D (t :: st) -> Adj (t :: st) x y -> y = t ∨ ∃ c, Adj (t :: st) y c /\ 0 < sdp x y c
 | [], t, x, y, h, ha => ha.elim
 | a :: l, t, x, y, h, ha => by
   rcases ha with ⟨rfl, rfl⟩ | ha
   ·exact .inl rfl
   ·right
    rcases adj_next h.2.2.2.2 ha with rfl | ⟨c, h1, h2⟩
    ·refine ⟨t, .inl ⟨rfl, rfl⟩, ?_⟩
     cases l with
     | nil => exact ha.elim
     | cons c l =>
       rcases ha with ⟨rfl, _⟩ | ha
       ·exact h.2.2.2.1 _ rfl
       ·-- y is the top of this chain, and so it is the first pair
        have := adj_lt h.2.2.2.2.2.2.2.2 ha
        exact (ltP_irr _ (ltP_le h.2.2.2.2.1 this)).elim
    ·exact ⟨c, .inr h1, h2⟩
theorem adj_prev : ∀ {st : List P2} {x y : P2}, Ch D st -> Adj st x y -> x = botS st ∨ ∃ c, Adj st c x /\ 0 < sdp c x y
 | [b, a], x, y, h, ha => by
   rcases ha with ⟨rfl, rfl⟩ | ha
   ·exact .inl rfl
   ·exact ha.elim
 | b :: a :: c :: l, x, y, h, ha => by
   rcases ha with ⟨rfl, rfl⟩ | ha
   ·exact .inr ⟨c, .inr (.inl ⟨rfl, rfl⟩), h.2.2.2.1 _ rfl⟩
   ·rcases adj_prev h.2.2.2.2 ha with e | ⟨d, h1, h2⟩
    ·exact .inl e
    ·exact .inr ⟨d, .inr h1, h2⟩
theorem adj_bot : ∀ {st : List P2}, 2 <= st.length -> ∃ b, Adj st (botS st) b
 | [b, a], _ => ⟨b, .inl ⟨rfl, rfl⟩⟩
 | b :: a :: c :: l, _ => let ⟨d, h⟩ := adj_bot (st := a :: c :: l) (by simp); ⟨d, .inr h⟩
theorem adj_top {a b : P2} {l : List P2} : Adj (b :: a :: l) a b := .inl ⟨rfl, rfl⟩
theorem bot_le : ∀ {st : List P2}, Ch D st -> D (botS st) /\ ∀ q, D q -> leP (botS st) q
 | [s], h => h
 | b :: a :: l, h => bot_le (st := a :: l) h.2.2.2.2
end
def ngP (p : P2) : P2 := (-p.1, -p.2)
theorem sdp_ng (a b p : P2) : sdp (ngP a) (ngP b) (ngP p) = sdp a b p := by unfold sdp sd ngP; grind
theorem ng_ng (p : P2) : ngP (ngP p) = p := by unfold ngP; simp
theorem ltP_ng {a b : P2} (h : ltP a b) : ltP (ngP b) (ngP a) := by unfold ltP ngP at *; simp only; omega
theorem popS_ng (p : P2) : ∀ st : List P2, popS (ngP p) (st.map ngP) = (popS p st).map ngP
 | [] => rfl
 | [_] => rfl
 | b :: a :: l => by
   have ih := popS_ng p (a :: l)
   simp only [List.map_cons] at ih
   simp only [List.map_cons, popS, sdp_ng]
   cases decide (sdp a b p <= 0)
   ·rfl
   ·exact ih
theorem chainS_ng : ∀ (l st : List P2), chainS (st.map ngP) (l.map ngP) = (chainS st l).map ngP
 | [], st => rfl
 | p :: l, st => by
   simp only [List.map_cons, chainS]
   rw [← chainS_ng l]
   simp only [List.map_cons, popS_ng]
theorem adj_ng : ∀ {st : List P2} {x y : P2}, Adj (st.map ngP) x y ↔ Adj st (ngP x) (ngP y)
 | [], x, y => Iff.rfl
 | [_], x, y => Iff.rfl
 | b :: a :: l, x, y => by
   have ih := adj_ng (st := a :: l) (x := x) (y := y)
   simp only [List.map_cons] at ih
   simp only [List.map_cons, Adj, ih]
   have e : ∀ u v : P2, u = ngP v ↔ ngP u = v := fun u v => ⟨fun h => by rw [h, ng_ng], fun h => by rw [← h, ng_ng]⟩
   rw [e, e]
end Go.Dx
