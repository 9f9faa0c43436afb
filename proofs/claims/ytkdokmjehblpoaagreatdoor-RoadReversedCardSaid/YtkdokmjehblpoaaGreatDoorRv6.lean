/- Part 6 of a proof. No conditions. -/
import Derived.Test.YtkdokmjehblpoaaGreatDoorRv5
set_option maxRecDepth 100000
set_option linter.unusedVariables false
set_option linter.unusedSimpArgs false
namespace Go.Dx
open Go.IntKind (i64 u64 u8)
open Go.Sx Go.Proofs
noncomputable section
def ctB29 : CTab := [(131, .con CB131), (19, .con C19), (22, .con C22), (25, .con C25), (15, .con C15), (55, .con C55), (61, .con C61), (74, .con C74), (108, .con C108), (46, .con C46), (111, .con C111), (56, .con C56), (47, .con C47), (145, .con C145), (140, .con C140), (49, .con C49), (123, .con C123), (44, .con C44), (23, .con C23), (62, .con C62), (68, .con C68), (63, .con C63), (69, .con C69), (117, .inl s117 u0), (116, .inl s116 u0), (115, .con C115), (114, .con C114), (147, .con C147), (64, .con C64), (66, .con C66), (113, .con C113), (65, .con C65), (67, .con C67), (53, .con C53), (45, .con C45), (90, .con C90), (119, .con C119), (121, .con C121), (99, .con C99), (129, .con C129), (148, .con C148), (149, .con C149), (112, .con C112), (118, .con C118), (120, .con C120), (133, .con C133), (103, .con C103), (100, .con C100), (134, .con C134), (135, .con C135), (78, .con C78), (54, .con C54), (48, .con C48), (102, .con C102), (84, .con C84), (85, .con C85), (127, .con C127), (101, .con C101), (86, .con C86), (162, .con C162), (146, .con C146), (83, .inl s83 u0), (109, .inl s109 u0), (139, .inl s139 u0), (177, .inl s177 u0), (141, .inl s141 u0), (142, .inl s142 u0), (143, .inl s143 u0), (163, .inl s163 u5)]
theorem tabB29 : TabOk Tryz.prog eqs its ctB29 := .con okB131 (.con ok19 (.con ok22 (.con ok25 (.con ok15 (.con ok55 (.con ok61 (.con ok74 (.con ok108 (.con ok46 (.con ok111 (.con ok56 (.con ok47 (.con ok145 (.con ok140 (.con ok49 (.con ok123 (.con ok44 (.con ok23 (.con ok62 (.con ok68 (.con ok63 (.con ok69 (.inl Tryz.func117 (by kernel_rfl) (by kernel_rfl) (by kernel_rfl) (.inl Tryz.func116 (by kernel_rfl) (by kernel_rfl) (by kernel_rfl) (.con ok115 (.con ok114 (.con ok147 (.con ok64 (.con ok66 (.con ok113 (.con ok65 (.con ok67 (.con ok53 (.con ok45 (.con ok90 (.con ok119 (.con ok121 (.con ok99 (.con ok129 (.con ok148 (.con ok149 (.con ok112 (.con ok118 (.con ok120 (.con ok133 (.con ok103 (.con ok100 (.con ok134 (.con ok135 (.con ok78 (.con ok54 (.con ok48 (.con ok102 (.con ok84 (.con ok85 (.con ok127 (.con ok101 (.con ok86 (.con ok162 (.con ok146 (.inl Tryz.func83 (by kernel_rfl) (by kernel_rfl) (by kernel_rfl) (.inl Tryz.func109 (by kernel_rfl) (by kernel_rfl) (by kernel_rfl) (.inl Tryz.func139 (by kernel_rfl) (by kernel_rfl) (by kernel_rfl) (.inl Tryz.func177 (by kernel_rfl) (by kernel_rfl) (by kernel_rfl) (.inl Tryz.func141 (by kernel_rfl) (by kernel_rfl) (by kernel_rfl) (.inl Tryz.func142 (by kernel_rfl) (by kernel_rfl) (by kernel_rfl) (.inl Tryz.func143 (by kernel_rfl) (by kernel_rfl) (by kernel_rfl) (.inl Tryz.func163 (by kernel_rfl) (by kernel_rfl) (by kernel_rfl) (.nil)))))))))))))))))))))))))))))))))))))))))))))))))))))))))))))))))))))
def u57 : Unr := fun k => bif Nat.beq k 0 then 5 else 0
inductive S57 where
 | L0 (ia0 : Int) (fa1 : Nat -> List V)
 | L1 (ib0 ib1 : Int) (fb2 : Nat -> List V)
 | L2 (ic0 : Int) (fc1 : Nat -> List V) (ic2 : Int) (fc3 : Nat -> List V)
 | L3 (id0 : Int) (nd1 nd2 : Nat) (id3 id4 id5 : Int) (nd6 : Nat) (id7 id8 : Int) (fd9 : Nat -> List V) (id10 : Int) (fd11 : Nat -> List V)
 | L4 (ie0 : Int) (fe1 : Nat -> List V) (ne2 : Nat) (fe3 : Nat -> List V) (ie4 : Int) (fe5 : Nat -> List V)
 | L5 (if0 if1 : Int) (nf2 : Nat) (bf3 : Bool) (nf4 : Nat) (ff5 : Nat -> List V)
 | L7 (ih0 : Int) (fh1 : Nat -> List V) (nh2 : Nat) (ih3 ih4 : Int) (nh5 : Nat) (fh6 : Nat -> List V) (ih7 : Int) (fh8 : Nat -> List V)
 | L12 (im0 im1 : Int) (nm2 : Nat) (fm3 : Nat -> List V) (nm4 : Nat) (fm5 : Nat -> List V) (im6 : Int) (nm7 nm8 : Nat) (im9 im10 im11 : Int) (nm12 : Nat) (im13 im14 : Int) (fm15 : Nat -> List V)
 | L13 (in0 in1 : Int) (fn2 : Nat -> List V) (nn3 nn4 : Nat) (fn5 : Nat -> List V) (in6 : Int) (fn7 : Nat -> List V)
 | L14 (io0 io1 : Int) (no2 : Nat) (fo3 : Nat -> List V) (no4 : Nat) (io5 io6 : Int) (no7 : Nat) (fo8 : Nat -> List V) (io9 : Int) (no10 no11 : Nat) (io12 io13 io14 : Int) (no15 : Nat) (io16 io17 : Int) (fo18 : Nat -> List V)
 | L15 (ip0 ip1 ip2 : Int) (np3 : Nat) (fp4 : Nat -> List V) (np5 np6 : Nat) (fp7 : Nat -> List V) (ip8 : Int) (np9 np10 : Nat) (ip11 ip12 ip13 : Int) (np14 : Nat) (ip15 ip16 : Int) (fp17 : Nat -> List V)
 | L18 (is0 : Int) (fs1 : Nat -> List V) (ns2 ns3 : Nat) (fs4 : Nat -> List V) (is5 is6 : Int) (fs7 : Nat -> List V) (fs8 : Nat -> List V) (is9 : Int) (fs10 : Nat -> List V)
 | L20 (iu0 : Int) (fu1 : Nat -> List V) (nu2 nu3 : Nat) (fu4 : Nat -> List V) (iu5 iu6 iu7 iu8 : Int) (fu9 : Nat -> List V) (nu10 : Nat) (fu11 : Nat -> List V) (iu12 : Int) (fu13 : Nat -> List V)
 | L22 (iw0 iw1 : Int) (fw2 : Nat -> List V) (nw3 : Nat) (iw4 iw5 : Int) (fw6 : Nat -> List V) (iw7 iw8 : Int) (fw9 : Nat -> List V) (nw10 nw11 : Nat) (fw12 : Nat -> List V) (iw13 : Int) (fw14 : Nat -> List V)
 | L23 (ix0 ix1 : Int) (fx2 : Nat -> List V) (nx3 : Nat) (ix4 ix5 : Int) (nx6 : Nat) (fx7 : Nat -> List V) (ix8 ix9 : Int) (fx10 : Nat -> List V) (nx11 nx12 : Nat) (fx13 : Nat -> List V) (ix14 : Int) (fx15 : Nat -> List V)
 | L24 (iy0 : Int) (ny1 : Nat) (iy2 : Int) (fy3 : Nat -> List V) (ny4 ny5 : Nat) (fy6 : Nat -> List V) (iy7 iy8 iy9 : Int) (ny10 : Nat) (fy11 : Nat -> List V) (fy12 : Nat -> List V) (iy13 : Int) (ny14 ny15 : Nat) (iy16 iy17 iy18 : Int) (ny19 : Nat) (iy20 iy21 : Int) (fy22 : Nat -> List V)
 | L25 (iz0 : Int) (nz1 : Nat) (iz2 : Int) (fz3 : Nat -> List V) (nz4 nz5 : Nat) (fz6 : Nat -> List V) (iz7 iz8 iz9 iz10 iz11 : Int) (nz12 : Nat) (fz13 : Nat -> List V) (nz14 : Nat) (fz15 : Nat -> List V) (iz16 : Int) (nz17 nz18 : Nat) (iz19 iz20 iz21 : Int) (nz22 : Nat) (iz23 iz24 : Int) (fz25 : Nat -> List V)
 | L26 (iza0 iza1 : Int) (nza2 : Nat) (iza3 : Int) (fza4 : Nat -> List V) (nza5 : Nat) (iza6 iza7 : Int) (fza8 : Nat -> List V) (iza9 iza10 iza11 : Int) (nza12 : Nat) (fza13 : Nat -> List V) (nza14 nza15 : Nat) (fza16 : Nat -> List V) (iza17 : Int) (nza18 nza19 : Nat) (iza20 iza21 iza22 : Int) (nza23 : Nat) (iza24 iza25 : Int) (fza26 : Nat -> List V)
 | L27 (izb0 izb1 : Int) (nzb2 : Nat) (izb3 : Int) (fzb4 : Nat -> List V) (nzb5 : Nat) (izb6 izb7 : Int) (nzb8 : Nat) (fzb9 : Nat -> List V) (izb10 izb11 izb12 : Int) (nzb13 : Nat) (fzb14 : Nat -> List V) (nzb15 nzb16 : Nat) (fzb17 : Nat -> List V) (izb18 : Int) (nzb19 nzb20 : Nat) (izb21 izb22 izb23 : Int) (nzb24 : Nat) (izb25 izb26 : Int) (fzb27 : Nat -> List V)
def pf57 (x0 x1 x2 x3 x4 x5 x6 x7 : Int) (b8 : Bool) (x9 x10 x11 x12 : Int) (l : List O) : List O := O.cells [vi x0, vi x1, vi x2, vi x3, vi x4, vi x5, vi x6, vi x7, V.bool b8] 97 :: O.cells [vi x9, vi x10, vi x11, vi x12] 29 :: O.cells [vi x9, vi x10] 95 :: O.cells [vi (F102_0 x0 x2 x9 x3), vi (F102_1 x1 x2 x10 x3), vi (F102_0 x0 x2 x9 x4), vi (F102_1 x1 x2 x10 x4)] 95 :: O.hid :: O.cells [vi x11, vi x10] 95 :: O.cells [vi (F102_0 x0 x2 x11 x3), vi (F102_1 x1 x2 x10 x3), vi (F102_0 x0 x2 x11 x4), vi (F102_1 x1 x2 x10 x4)] 95 :: O.hid :: O.cells [vi x11, vi x12] 95 :: O.cells [vi (F102_0 x0 x2 x11 x3), vi (F102_1 x1 x2 x12 x3), vi (F102_0 x0 x2 x11 x4), vi (F102_1 x1 x2 x12 x4)] 95 :: O.hid :: O.cells [vi x9, vi x12] 95 :: O.cells [vi (F102_0 x0 x2 x9 x3), vi (F102_1 x1 x2 x12 x3), vi (F102_0 x0 x2 x9 x4), vi (F102_1 x1 x2 x12 x4)] 95 :: l
def inv57 (x0 x1 x2 x3 x4 x5 x6 x7 : Int) (b8 : Bool) (x9 x10 x11 x12 : Int) : S57 -> Env × List O × Option Ex
 | .L0 ia0 fa1 => ([(8, vi ia0), (0, V.gs 13 8), (1, vi 0), (2, vi (↑8 : Int)), (3, V.fn 140 [] [])], pf57 x0 x1 x2 x3 x4 x5 x6 x7 b8 x9 x10 x11 x12 [O.gl 2 8 (elV tp2 fa1) 95], none)
 | .L1 ib0 ib1 fb2 => ([(9, vi ib0), (8, vi ib1), (0, V.gs 13 8), (1, vi 0), (2, vi (↑8 : Int)), (3, V.fn 140 [] [])], pf57 x0 x1 x2 x3 x4 x5 x6 x7 b8 x9 x10 x11 x12 [O.gl 2 8 (elV tp2 fb2) 95], none)
 | .L2 ic0 fc1 ic2 fc3 => ([(3, vi ic0), (8, V.kb false), (2, V.ns), (0, V.gs 13 8)], pf57 x0 x1 x2 x3 x4 x5 x6 x7 b8 x9 x10 x11 x12 [O.gl 2 8 (elV tp2 fc1) 95], none)
 | .L3 id0 nd1 nd2 id3 id4 id5 nd6 id7 id8 fd9 id10 fd11 => ([(5, vi id0), (4, V.go 13 nd1 nd2), (28, V.go 13 nd1 nd2), (27, vi id3), (26, V.gs 13 8), (25, V.kb true), (24, V.agg [vi id4, vi id5]), (23, V.pe 13 nd6 0), (22, vi id7), (21, vi id3), (20, V.gs 13 8), (10, vi id3), (3, vi id8), (8, V.kb false), (2, V.ns), (0, V.gs 13 8)], pf57 x0 x1 x2 x3 x4 x5 x6 x7 b8 x9 x10 x11 x12 [O.gl 2 8 (elV tp2 fd9) 95], none)
 | .L4 ie0 fe1 ne2 fe3 ie4 fe5 => ([(10, vi ie0), (9, vi (↑8 : Int)), (8, V.gs 13 8), (3, vi 0), (0, V.gs 13 8), (1, V.pl 14 0)], pf57 x0 x1 x2 x3 x4 x5 x6 x7 b8 x9 x10 x11 x12 [O.gl 2 8 (elV tp2 fe1) 95, O.cells [V.gs 15 ne2] 111, O.gl 2 ne2 (elV tp2 fe3) 95], none)
 | .L5 if0 if1 nf2 bf3 nf4 ff5 => ([(40, vi if0), (39, vi if1), (38, V.gs 0 nf2), (8, V.bool bf3), (5, V.gs 0 nf2), (16, vi (i64.wrap (i64.wrap (i64.wrap (i64.wrap (0 + 1) + 1) + 1) + 1))), (15, V.agg [vi x9, vi x10, vi x11, vi x10, vi x11, vi x12, vi x9, vi x12]), (2, V.pl 1 0)], [O.gl 2 nf4 (elV tp2 ff5) 95, O.cells [vi x0, vi x1, vi x2, vi x3, vi x4, vi x5, vi x6, vi x7, V.bool b8] 97], none)
 | .L7 ih0 fh1 nh2 ih3 ih4 nh5 fh6 ih7 fh8 => ([(5, V.pl 15 0), (10, vi ih0), (9, vi (↑8 : Int)), (8, V.gs 13 8), (3, vi 0), (0, V.gs 13 8), (1, V.pl 14 0)], pf57 x0 x1 x2 x3 x4 x5 x6 x7 b8 x9 x10 x11 x12 [O.gl 2 8 (elV tp2 fh1) 95, O.cells [V.gs 16 nh2] 111, O.cells [vi ih3, vi ih4] 95, O.gl 2 nh5 (elV tp2 fh6) 95], none)
 | .L12 im0 im1 nm2 fm3 nm4 fm5 im6 nm7 nm8 im9 im10 im11 nm12 im13 im14 fm15 => ([(10, vi im0), (9, vi im1), (8, V.gs 13 nm2), (3, vi 0), (0, V.gs 13 nm2), (1, V.pl 14 0)], pf57 x0 x1 x2 x3 x4 x5 x6 x7 b8 x9 x10 x11 x12 [O.gl 2 8 (elV tp2 fm3) 95, O.cells [V.gs 15 nm4] 111, O.gl 2 nm4 (elV tp2 fm5) 95], none)
 | .L13 in0 in1 fn2 nn3 nn4 fn5 in6 fn7 => ([(3, vi in0), (2, vi in1), (5, vi (↑8 : Int)), (4, V.gs 13 8), (0, V.gs 13 8)], pf57 x0 x1 x2 x3 x4 x5 x6 x7 b8 x9 x10 x11 x12 [O.gl 2 8 (elV tp2 fn2) 95, O.cells [V.gs 15 nn3] 111, O.gl 2 nn4 (elV tp2 fn5) 95], none)
 | .L14 io0 io1 no2 fo3 no4 io5 io6 no7 fo8 io9 no10 no11 io12 io13 io14 no15 io16 io17 fo18 => ([(5, V.pl 15 0), (10, vi io0), (9, vi io1), (8, V.gs 13 no2), (3, vi 0), (0, V.gs 13 no2), (1, V.pl 14 0)], pf57 x0 x1 x2 x3 x4 x5 x6 x7 b8 x9 x10 x11 x12 [O.gl 2 8 (elV tp2 fo3) 95, O.cells [V.gs 16 no4] 111, O.cells [vi io5, vi io6] 95, O.gl 2 no7 (elV tp2 fo8) 95], none)
 | .L15 ip0 ip1 ip2 np3 fp4 np5 np6 fp7 ip8 np9 np10 ip11 ip12 ip13 np14 ip15 ip16 fp17 => ([(3, vi ip0), (2, vi ip1), (5, vi ip2), (4, V.gs 13 np3), (0, V.gs 13 np3)], pf57 x0 x1 x2 x3 x4 x5 x6 x7 b8 x9 x10 x11 x12 [O.gl 2 8 (elV tp2 fp4) 95, O.cells [V.gs 15 np5] 111, O.gl 2 np6 (elV tp2 fp7) 95], none)
 | .L18 is0 fs1 ns2 ns3 fs4 is5 is6 fs7 fs8 is9 fs10 => ([(10, vi 0), (9, vi (↑8 : Int)), (8, V.gs 13 8), (3, vi is0), (0, V.gs 13 8), (1, V.pl 14 0)], pf57 x0 x1 x2 x3 x4 x5 x6 x7 b8 x9 x10 x11 x12 [O.gl 2 8 (elV tp2 fs1) 95, O.cells [V.gs 15 ns2] 111, O.gl 2 ns3 (elV tp2 fs4) 95], none)
 | .L20 iu0 fu1 nu2 nu3 fu4 iu5 iu6 iu7 iu8 fu9 nu10 fu11 iu12 fu13 => ([(5, V.pl 16 0), (10, vi 0), (9, vi (↑8 : Int)), (8, V.gs 13 8), (3, vi iu0), (0, V.gs 13 8), (1, V.pl 14 0)], pf57 x0 x1 x2 x3 x4 x5 x6 x7 b8 x9 x10 x11 x12 [O.gl 2 8 (elV tp2 fu1) 95, O.cells [V.gs 15 nu2] 111, O.gl 2 nu3 (elV tp2 fu4) 95, O.cells [vi iu5, vi iu6] 95], none)
 | .L22 iw0 iw1 fw2 nw3 iw4 iw5 fw6 iw7 iw8 fw9 nw10 nw11 fw12 iw13 fw14 => ([(10, vi iw0), (5, V.pl 16 0), (9, vi (↑8 : Int)), (8, V.gs 13 8), (3, vi iw1), (0, V.gs 13 8), (1, V.pl 14 0)], pf57 x0 x1 x2 x3 x4 x5 x6 x7 b8 x9 x10 x11 x12 [O.gl 2 8 (elV tp2 fw2) 95, O.cells [V.gs 17 nw3] 111, O.hid, O.cells [vi iw4, vi iw5] 95, O.gl 2 nw3 (elV tp2 fw6) 95], none)
 | .L23 ix0 ix1 fx2 nx3 ix4 ix5 nx6 fx7 ix8 ix9 fx10 nx11 nx12 fx13 ix14 fx15 => ([(5, V.pl 16 0), (10, vi ix0), (9, vi (↑8 : Int)), (8, V.gs 13 8), (3, vi ix1), (0, V.gs 13 8), (1, V.pl 14 0)], pf57 x0 x1 x2 x3 x4 x5 x6 x7 b8 x9 x10 x11 x12 [O.gl 2 8 (elV tp2 fx2) 95, O.cells [V.gs 17 nx3] 111, O.hid, O.cells [vi ix4, vi ix5] 95, O.gl 2 nx6 (elV tp2 fx7) 95], none)
 | .L24 iy0 ny1 iy2 fy3 ny4 ny5 fy6 iy7 iy8 iy9 ny10 fy11 fy12 iy13 ny14 ny15 iy16 iy17 iy18 ny19 iy20 iy21 fy22 => ([(10, vi 0), (9, vi iy0), (8, V.gs 13 ny1), (3, vi iy2), (0, V.gs 13 ny1), (1, V.pl 14 0)], pf57 x0 x1 x2 x3 x4 x5 x6 x7 b8 x9 x10 x11 x12 [O.gl 2 8 (elV tp2 fy3) 95, O.cells [V.gs 15 ny4] 111, O.gl 2 ny5 (elV tp2 fy6) 95], none)
 | .L25 iz0 nz1 iz2 fz3 nz4 nz5 fz6 iz7 iz8 iz9 iz10 iz11 nz12 fz13 nz14 fz15 iz16 nz17 nz18 iz19 iz20 iz21 nz22 iz23 iz24 fz25 => ([(5, V.pl 16 0), (10, vi 0), (9, vi iz0), (8, V.gs 13 nz1), (3, vi iz2), (0, V.gs 13 nz1), (1, V.pl 14 0)], pf57 x0 x1 x2 x3 x4 x5 x6 x7 b8 x9 x10 x11 x12 [O.gl 2 8 (elV tp2 fz3) 95, O.cells [V.gs 15 nz4] 111, O.gl 2 nz5 (elV tp2 fz6) 95, O.cells [vi iz7, vi iz8] 95], none)
 | .L26 iza0 iza1 nza2 iza3 fza4 nza5 iza6 iza7 fza8 iza9 iza10 iza11 nza12 fza13 nza14 nza15 fza16 iza17 nza18 nza19 iza20 iza21 iza22 nza23 iza24 iza25 fza26 => ([(10, vi iza0), (5, V.pl 16 0), (9, vi iza1), (8, V.gs 13 nza2), (3, vi iza3), (0, V.gs 13 nza2), (1, V.pl 14 0)], pf57 x0 x1 x2 x3 x4 x5 x6 x7 b8 x9 x10 x11 x12 [O.gl 2 8 (elV tp2 fza4) 95, O.cells [V.gs 17 nza5] 111, O.hid, O.cells [vi iza6, vi iza7] 95, O.gl 2 nza5 (elV tp2 fza8) 95], none)
 | .L27 izb0 izb1 nzb2 izb3 fzb4 nzb5 izb6 izb7 nzb8 fzb9 izb10 izb11 izb12 nzb13 fzb14 nzb15 nzb16 fzb17 izb18 nzb19 nzb20 izb21 izb22 izb23 nzb24 izb25 izb26 fzb27 => ([(5, V.pl 16 0), (10, vi izb0), (9, vi izb1), (8, V.gs 13 nzb2), (3, vi izb3), (0, V.gs 13 nzb2), (1, V.pl 14 0)], pf57 x0 x1 x2 x3 x4 x5 x6 x7 b8 x9 x10 x11 x12 [O.gl 2 8 (elV tp2 fzb4) 95, O.cells [V.gs 17 nzb5] 111, O.hid, O.cells [vi izb6, vi izb7] 95, O.gl 2 nzb8 (elV tp2 fzb9) 95], none)
def id57 : S57 -> JJ
 | .L0 ia0 fa1 => (0, [])
 | .L1 ib0 ib1 fb2 => (1, [])
 | .L2 ic0 fc1 ic2 fc3 => (2, [Cx.i ic2, Cx.f fc3])
 | .L3 id0 nd1 nd2 id3 id4 id5 nd6 id7 id8 fd9 id10 fd11 => (3, [Cx.i id10, Cx.f fd11])
 | .L4 ie0 fe1 ne2 fe3 ie4 fe5 => (4, [Cx.i ie4, Cx.f fe5])
 | .L5 if0 if1 nf2 bf3 nf4 ff5 => (5, [])
 | .L7 ih0 fh1 nh2 ih3 ih4 nh5 fh6 ih7 fh8 => (7, [Cx.i ih7, Cx.f fh8])
 | .L12 im0 im1 nm2 fm3 nm4 fm5 im6 nm7 nm8 im9 im10 im11 nm12 im13 im14 fm15 => (12, [Cx.i im6, Cx.n nm7, Cx.n nm8, Cx.i im9, Cx.i im10, Cx.i im11, Cx.n nm12, Cx.i im13, Cx.i im14, Cx.f fm15])
 | .L13 in0 in1 fn2 nn3 nn4 fn5 in6 fn7 => (13, [Cx.i in6, Cx.f fn7])
 | .L14 io0 io1 no2 fo3 no4 io5 io6 no7 fo8 io9 no10 no11 io12 io13 io14 no15 io16 io17 fo18 => (14, [Cx.i io9, Cx.n no10, Cx.n no11, Cx.i io12, Cx.i io13, Cx.i io14, Cx.n no15, Cx.i io16, Cx.i io17, Cx.f fo18])
 | .L15 ip0 ip1 ip2 np3 fp4 np5 np6 fp7 ip8 np9 np10 ip11 ip12 ip13 np14 ip15 ip16 fp17 => (15, [Cx.i ip8, Cx.n np9, Cx.n np10, Cx.i ip11, Cx.i ip12, Cx.i ip13, Cx.n np14, Cx.i ip15, Cx.i ip16, Cx.f fp17])
 | .L18 is0 fs1 ns2 ns3 fs4 is5 is6 fs7 fs8 is9 fs10 => (18, [Cx.i is5, Cx.i is6, Cx.f fs7, Cx.n ns2, Cx.n ns3, Cx.f fs8, Cx.i is9, Cx.f fs10])
 | .L20 iu0 fu1 nu2 nu3 fu4 iu5 iu6 iu7 iu8 fu9 nu10 fu11 iu12 fu13 => (20, [Cx.i iu7, Cx.i iu8, Cx.f fu9, Cx.n nu10, Cx.n nu3, Cx.f fu11, Cx.i iu12, Cx.f fu13])
 | .L22 iw0 iw1 fw2 nw3 iw4 iw5 fw6 iw7 iw8 fw9 nw10 nw11 fw12 iw13 fw14 => (18, [Cx.i iw7, Cx.i iw8, Cx.f fw9, Cx.n nw10, Cx.n nw11, Cx.f fw12, Cx.i iw13, Cx.f fw14])
 | .L23 ix0 ix1 fx2 nx3 ix4 ix5 nx6 fx7 ix8 ix9 fx10 nx11 nx12 fx13 ix14 fx15 => (20, [Cx.i ix8, Cx.i ix9, Cx.f fx10, Cx.n nx11, Cx.n nx12, Cx.f fx13, Cx.i ix14, Cx.f fx15])
 | .L24 iy0 ny1 iy2 fy3 ny4 ny5 fy6 iy7 iy8 iy9 ny10 fy11 fy12 iy13 ny14 ny15 iy16 iy17 iy18 ny19 iy20 iy21 fy22 => (24, [Cx.i iy7, Cx.i iy8, Cx.i iy9, Cx.n ny10, Cx.f fy11, Cx.n ny4, Cx.n ny5, Cx.f fy12, Cx.i iy13, Cx.n ny14, Cx.n ny15, Cx.i iy16, Cx.i iy17, Cx.i iy18, Cx.n ny19, Cx.i iy20, Cx.i iy21, Cx.f fy22])
 | .L25 iz0 nz1 iz2 fz3 nz4 nz5 fz6 iz7 iz8 iz9 iz10 iz11 nz12 fz13 nz14 fz15 iz16 nz17 nz18 iz19 iz20 iz21 nz22 iz23 iz24 fz25 => (25, [Cx.i iz9, Cx.i iz10, Cx.i iz11, Cx.n nz12, Cx.f fz13, Cx.n nz14, Cx.n nz5, Cx.f fz15, Cx.i iz16, Cx.n nz17, Cx.n nz18, Cx.i iz19, Cx.i iz20, Cx.i iz21, Cx.n nz22, Cx.i iz23, Cx.i iz24, Cx.f fz25])
 | .L26 iza0 iza1 nza2 iza3 fza4 nza5 iza6 iza7 fza8 iza9 iza10 iza11 nza12 fza13 nza14 nza15 fza16 iza17 nza18 nza19 iza20 iza21 iza22 nza23 iza24 iza25 fza26 => (24, [Cx.i iza9, Cx.i iza10, Cx.i iza11, Cx.n nza12, Cx.f fza13, Cx.n nza14, Cx.n nza15, Cx.f fza16, Cx.i iza17, Cx.n nza18, Cx.n nza19, Cx.i iza20, Cx.i iza21, Cx.i iza22, Cx.n nza23, Cx.i iza24, Cx.i iza25, Cx.f fza26])
 | .L27 izb0 izb1 nzb2 izb3 fzb4 nzb5 izb6 izb7 nzb8 fzb9 izb10 izb11 izb12 nzb13 fzb14 nzb15 nzb16 fzb17 izb18 nzb19 nzb20 izb21 izb22 izb23 nzb24 izb25 izb26 fzb27 => (25, [Cx.i izb10, Cx.i izb11, Cx.i izb12, Cx.n nzb13, Cx.f fzb14, Cx.n nzb15, Cx.n nzb16, Cx.f fzb17, Cx.i izb18, Cx.n nzb19, Cx.n nzb20, Cx.i izb21, Cx.i izb22, Cx.i izb23, Cx.n nzb24, Cx.i izb25, Cx.i izb26, Cx.f fzb27])
def rl57 (x0 x1 x2 x3 x4 x5 x6 x7 : Int) (b8 : Bool) (x9 x10 x11 x12 : Int) : T (Leaf JJ) := runL JJ ctB29 u57 s57 [V.agg [vi x0, vi x1, vi x2, vi x3, vi x4, vi x5, vi x6, vi x7, V.bool b8], V.agg [vi x9, vi x10, vi x11, vi x12]]
def lp57_0 (x0 x1 x2 x3 x4 x5 x6 x7 : Int) (b8 : Bool) (x9 x10 x11 x12 : Int) (cx : List Cx) : Lp JJ := lpT (atT (rl57 x0 x1 x2 x3 x4 x5 x6 x7 b8 x9 x10 x11 x12) [false, true, true, true, true, false, true])
def lp57_1 (x0 x1 x2 x3 x4 x5 x6 x7 : Int) (b8 : Bool) (x9 x10 x11 x12 : Int) (cx : List Cx) : Lp JJ := lpT (atT (rdP ctB29 u57 (0, []) (lp57_0 x0 x1 x2 x3 x4 x5 x6 x7 b8 x9 x10 x11 x12 []) (inv57 x0 x1 x2 x3 x4 x5 x6 x7 b8 x9 x10 x11 x12 (.L0 (0 : Int) (fun _ => [])))) [true])
def lp57_2 (x0 x1 x2 x3 x4 x5 x6 x7 : Int) (b8 : Bool) (x9 x10 x11 x12 : Int) (cx : List Cx) : Lp JJ := lpT (atT (rdP ctB29 u57 (0, []) (lp57_0 x0 x1 x2 x3 x4 x5 x6 x7 b8 x9 x10 x11 x12 []) (inv57 x0 x1 x2 x3 x4 x5 x6 x7 b8 x9 x10 x11 x12 (.L0 (cxi cx 0) (cxf cx 1)))) [false, false])
def lp57_3 (x0 x1 x2 x3 x4 x5 x6 x7 : Int) (b8 : Bool) (x9 x10 x11 x12 : Int) (cx : List Cx) : Lp JJ := lpT (atT (rdP ctB29 u57 (2, [.i (cxi cx 0), .f (cxf cx 1)]) (lp57_2 x0 x1 x2 x3 x4 x5 x6 x7 b8 x9 x10 x11 x12 [.i (cxi cx 0), .f (cxf cx 1)]) (inv57 x0 x1 x2 x3 x4 x5 x6 x7 b8 x9 x10 x11 x12 (.L2 (0 : Int) (fun _ => []) (cxi cx 0) (cxf cx 1)))) [true, true])
def lp57_4 (x0 x1 x2 x3 x4 x5 x6 x7 : Int) (b8 : Bool) (x9 x10 x11 x12 : Int) (cx : List Cx) : Lp JJ := lpT (atT (rdP ctB29 u57 (2, [.i (0 : Int), .f (fun _ => [])]) (lp57_2 x0 x1 x2 x3 x4 x5 x6 x7 b8 x9 x10 x11 x12 [.i (0 : Int), .f (fun _ => [])]) (inv57 x0 x1 x2 x3 x4 x5 x6 x7 b8 x9 x10 x11 x12 (.L2 (cxi cx 0) (cxf cx 1) (0 : Int) (fun _ => [])))) [false, false])
def lp57_5 (x0 x1 x2 x3 x4 x5 x6 x7 : Int) (b8 : Bool) (x9 x10 x11 x12 : Int) (cx : List Cx) : Lp JJ := lpT (atT (rdP ctB29 u57 (3, [.i (0 : Int), .f (fun _ => [])]) (lp57_3 x0 x1 x2 x3 x4 x5 x6 x7 b8 x9 x10 x11 x12 [.i (0 : Int), .f (fun _ => [])]) (inv57 x0 x1 x2 x3 x4 x5 x6 x7 b8 x9 x10 x11 x12 (.L3 (0 : Int) 0 0 (0 : Int) (0 : Int) (0 : Int) 0 (0 : Int) (0 : Int) (fun _ => []) (0 : Int) (fun _ => [])))) [false, true])
def lp57_7 (x0 x1 x2 x3 x4 x5 x6 x7 : Int) (b8 : Bool) (x9 x10 x11 x12 : Int) (cx : List Cx) : Lp JJ := lpT (atT (rdP ctB29 u57 (4, [.i (cxi cx 0), .f (cxf cx 1)]) (lp57_4 x0 x1 x2 x3 x4 x5 x6 x7 b8 x9 x10 x11 x12 [.i (cxi cx 0), .f (cxf cx 1)]) (inv57 x0 x1 x2 x3 x4 x5 x6 x7 b8 x9 x10 x11 x12 (.L4 (0 : Int) (fun _ => []) 0 (fun _ => []) (cxi cx 0) (cxf cx 1)))) [true])
def lp57_12 (x0 x1 x2 x3 x4 x5 x6 x7 : Int) (b8 : Bool) (x9 x10 x11 x12 : Int) (cx : List Cx) : Lp JJ := lpT (atT (rdP ctB29 u57 (3, [.i (0 : Int), .f (fun _ => [])]) (lp57_3 x0 x1 x2 x3 x4 x5 x6 x7 b8 x9 x10 x11 x12 [.i (0 : Int), .f (fun _ => [])]) (inv57 x0 x1 x2 x3 x4 x5 x6 x7 b8 x9 x10 x11 x12 (.L3 (cxi cx 0) (cxn cx 1) (cxn cx 2) (cxi cx 3) (cxi cx 4) (cxi cx 5) (cxn cx 6) (cxi cx 7) (cxi cx 8) (cxf cx 9) (0 : Int) (fun _ => [])))) [false, false])
def lp57_13 (x0 x1 x2 x3 x4 x5 x6 x7 : Int) (b8 : Bool) (x9 x10 x11 x12 : Int) (cx : List Cx) : Lp JJ := lpT (atT (rdP ctB29 u57 (4, [.i (cxi cx 0), .f (cxf cx 1)]) (lp57_4 x0 x1 x2 x3 x4 x5 x6 x7 b8 x9 x10 x11 x12 [.i (cxi cx 0), .f (cxf cx 1)]) (inv57 x0 x1 x2 x3 x4 x5 x6 x7 b8 x9 x10 x11 x12 (.L4 (0 : Int) (fun _ => []) 0 (fun _ => []) (cxi cx 0) (cxf cx 1)))) [false])
def lp57_14 (x0 x1 x2 x3 x4 x5 x6 x7 : Int) (b8 : Bool) (x9 x10 x11 x12 : Int) (cx : List Cx) : Lp JJ := lpT (atT (rdP ctB29 u57 (12, [.i (cxi cx 0), .n (cxn cx 1), .n (cxn cx 2), .i (cxi cx 3), .i (cxi cx 4), .i (cxi cx 5), .n (cxn cx 6), .i (cxi cx 7), .i (cxi cx 8), .f (cxf cx 9)]) (lp57_12 x0 x1 x2 x3 x4 x5 x6 x7 b8 x9 x10 x11 x12 [.i (cxi cx 0), .n (cxn cx 1), .n (cxn cx 2), .i (cxi cx 3), .i (cxi cx 4), .i (cxi cx 5), .n (cxn cx 6), .i (cxi cx 7), .i (cxi cx 8), .f (cxf cx 9)]) (inv57 x0 x1 x2 x3 x4 x5 x6 x7 b8 x9 x10 x11 x12 (.L12 (0 : Int) (0 : Int) 0 (fun _ => []) 0 (fun _ => []) (cxi cx 0) (cxn cx 1) (cxn cx 2) (cxi cx 3) (cxi cx 4) (cxi cx 5) (cxn cx 6) (cxi cx 7) (cxi cx 8) (cxf cx 9)))) [true])
def lp57_15 (x0 x1 x2 x3 x4 x5 x6 x7 : Int) (b8 : Bool) (x9 x10 x11 x12 : Int) (cx : List Cx) : Lp JJ := lpT (atT (rdP ctB29 u57 (12, [.i (cxi cx 0), .n (cxn cx 1), .n (cxn cx 2), .i (cxi cx 3), .i (cxi cx 4), .i (cxi cx 5), .n (cxn cx 6), .i (cxi cx 7), .i (cxi cx 8), .f (cxf cx 9)]) (lp57_12 x0 x1 x2 x3 x4 x5 x6 x7 b8 x9 x10 x11 x12 [.i (cxi cx 0), .n (cxn cx 1), .n (cxn cx 2), .i (cxi cx 3), .i (cxi cx 4), .i (cxi cx 5), .n (cxn cx 6), .i (cxi cx 7), .i (cxi cx 8), .f (cxf cx 9)]) (inv57 x0 x1 x2 x3 x4 x5 x6 x7 b8 x9 x10 x11 x12 (.L12 (0 : Int) (0 : Int) 0 (fun _ => []) 0 (fun _ => []) (cxi cx 0) (cxn cx 1) (cxn cx 2) (cxi cx 3) (cxi cx 4) (cxi cx 5) (cxn cx 6) (cxi cx 7) (cxi cx 8) (cxf cx 9)))) [false])
def lp57_18 (x0 x1 x2 x3 x4 x5 x6 x7 : Int) (b8 : Bool) (x9 x10 x11 x12 : Int) (cx : List Cx) : Lp JJ := lpT (atT (rdP ctB29 u57 (13, [.i (cxi cx 6), .f (cxf cx 7)]) (lp57_13 x0 x1 x2 x3 x4 x5 x6 x7 b8 x9 x10 x11 x12 [.i (cxi cx 6), .f (cxf cx 7)]) (inv57 x0 x1 x2 x3 x4 x5 x6 x7 b8 x9 x10 x11 x12 (.L13 (cxi cx 0) (cxi cx 1) (cxf cx 2) (cxn cx 3) (cxn cx 4) (cxf cx 5) (cxi cx 6) (cxf cx 7)))) [false])
def lp57_20 (x0 x1 x2 x3 x4 x5 x6 x7 : Int) (b8 : Bool) (x9 x10 x11 x12 : Int) (cx : List Cx) : Lp JJ := lpT (atT (rdP ctB29 u57 (18, [.i (cxi cx 0), .i (cxi cx 1), .f (cxf cx 2), .n (cxn cx 3), .n (cxn cx 4), .f (cxf cx 5), .i (cxi cx 6), .f (cxf cx 7)]) (lp57_18 x0 x1 x2 x3 x4 x5 x6 x7 b8 x9 x10 x11 x12 [.i (cxi cx 0), .i (cxi cx 1), .f (cxf cx 2), .n (cxn cx 3), .n (cxn cx 4), .f (cxf cx 5), .i (cxi cx 6), .f (cxf cx 7)]) (inv57 x0 x1 x2 x3 x4 x5 x6 x7 b8 x9 x10 x11 x12 (.L18 (0 : Int) (fun _ => []) (cxn cx 3) (cxn cx 4) (fun _ => []) (cxi cx 0) (cxi cx 1) (cxf cx 2) (cxf cx 5) (cxi cx 6) (cxf cx 7)))) [true])
def lp57_24 (x0 x1 x2 x3 x4 x5 x6 x7 : Int) (b8 : Bool) (x9 x10 x11 x12 : Int) (cx : List Cx) : Lp JJ := lpT (atT (rdP ctB29 u57 (15, [.i (cxi cx 8), .n (cxn cx 9), .n (cxn cx 10), .i (cxi cx 11), .i (cxi cx 12), .i (cxi cx 13), .n (cxn cx 14), .i (cxi cx 15), .i (cxi cx 16), .f (cxf cx 17)]) (lp57_15 x0 x1 x2 x3 x4 x5 x6 x7 b8 x9 x10 x11 x12 [.i (cxi cx 8), .n (cxn cx 9), .n (cxn cx 10), .i (cxi cx 11), .i (cxi cx 12), .i (cxi cx 13), .n (cxn cx 14), .i (cxi cx 15), .i (cxi cx 16), .f (cxf cx 17)]) (inv57 x0 x1 x2 x3 x4 x5 x6 x7 b8 x9 x10 x11 x12 (.L15 (cxi cx 0) (cxi cx 1) (cxi cx 2) (cxn cx 3) (cxf cx 4) (cxn cx 5) (cxn cx 6) (cxf cx 7) (cxi cx 8) (cxn cx 9) (cxn cx 10) (cxi cx 11) (cxi cx 12) (cxi cx 13) (cxn cx 14) (cxi cx 15) (cxi cx 16) (cxf cx 17)))) [false])
def lp57_25 (x0 x1 x2 x3 x4 x5 x6 x7 : Int) (b8 : Bool) (x9 x10 x11 x12 : Int) (cx : List Cx) : Lp JJ := lpT (atT (rdP ctB29 u57 (24, [.i (cxi cx 0), .i (cxi cx 1), .i (cxi cx 2), .n (cxn cx 3), .f (cxf cx 4), .n (cxn cx 5), .n (cxn cx 6), .f (cxf cx 7), .i (cxi cx 8), .n (cxn cx 9), .n (cxn cx 10), .i (cxi cx 11), .i (cxi cx 12), .i (cxi cx 13), .n (cxn cx 14), .i (cxi cx 15), .i (cxi cx 16), .f (cxf cx 17)]) (lp57_24 x0 x1 x2 x3 x4 x5 x6 x7 b8 x9 x10 x11 x12 [.i (cxi cx 0), .i (cxi cx 1), .i (cxi cx 2), .n (cxn cx 3), .f (cxf cx 4), .n (cxn cx 5), .n (cxn cx 6), .f (cxf cx 7), .i (cxi cx 8), .n (cxn cx 9), .n (cxn cx 10), .i (cxi cx 11), .i (cxi cx 12), .i (cxi cx 13), .n (cxn cx 14), .i (cxi cx 15), .i (cxi cx 16), .f (cxf cx 17)]) (inv57 x0 x1 x2 x3 x4 x5 x6 x7 b8 x9 x10 x11 x12 (.L24 (0 : Int) 0 (0 : Int) (fun _ => []) (cxn cx 5) (cxn cx 6) (fun _ => []) (cxi cx 0) (cxi cx 1) (cxi cx 2) (cxn cx 3) (cxf cx 4) (cxf cx 7) (cxi cx 8) (cxn cx 9) (cxn cx 10) (cxi cx 11) (cxi cx 12) (cxi cx 13) (cxn cx 14) (cxi cx 15) (cxi cx 16) (cxf cx 17)))) [true])
def lp57 (x0 x1 x2 x3 x4 x5 x6 x7 : Int) (b8 : Bool) (x9 x10 x11 x12 : Int) : JJ -> Lp JJ
 | (0, cx) => lp57_0 x0 x1 x2 x3 x4 x5 x6 x7 b8 x9 x10 x11 x12 cx
 | (1, cx) => lp57_1 x0 x1 x2 x3 x4 x5 x6 x7 b8 x9 x10 x11 x12 cx
 | (2, cx) => lp57_2 x0 x1 x2 x3 x4 x5 x6 x7 b8 x9 x10 x11 x12 cx
 | (3, cx) => lp57_3 x0 x1 x2 x3 x4 x5 x6 x7 b8 x9 x10 x11 x12 cx
 | (4, cx) => lp57_4 x0 x1 x2 x3 x4 x5 x6 x7 b8 x9 x10 x11 x12 cx
 | (5, cx) => lp57_5 x0 x1 x2 x3 x4 x5 x6 x7 b8 x9 x10 x11 x12 cx
 | (7, cx) => lp57_7 x0 x1 x2 x3 x4 x5 x6 x7 b8 x9 x10 x11 x12 cx
 | (12, cx) => lp57_12 x0 x1 x2 x3 x4 x5 x6 x7 b8 x9 x10 x11 x12 cx
 | (13, cx) => lp57_13 x0 x1 x2 x3 x4 x5 x6 x7 b8 x9 x10 x11 x12 cx
 | (14, cx) => lp57_14 x0 x1 x2 x3 x4 x5 x6 x7 b8 x9 x10 x11 x12 cx
 | (15, cx) => lp57_15 x0 x1 x2 x3 x4 x5 x6 x7 b8 x9 x10 x11 x12 cx
 | (18, cx) => lp57_18 x0 x1 x2 x3 x4 x5 x6 x7 b8 x9 x10 x11 x12 cx
 | (20, cx) => lp57_20 x0 x1 x2 x3 x4 x5 x6 x7 b8 x9 x10 x11 x12 cx
 | (24, cx) => lp57_24 x0 x1 x2 x3 x4 x5 x6 x7 b8 x9 x10 x11 x12 cx
 | (25, cx) => lp57_25 x0 x1 x2 x3 x4 x5 x6 x7 b8 x9 x10 x11 x12 cx
 | (_, cx) => lp57_0 x0 x1 x2 x3 x4 x5 x6 x7 b8 x9 x10 x11 x12 cx
def D57 (x0 x1 x2 x3 x4 x5 x6 x7 : Int) (b8 : Bool) (x9 x10 x11 x12 : Int) : LD JJ S57 := ⟨id57, lp57 x0 x1 x2 x3 x4 x5 x6 x7 b8 x9 x10 x11 x12, inv57 x0 x1 x2 x3 x4 x5 x6 x7 b8 x9 x10 x11 x12⟩
def st57 (x0 x1 x2 x3 x4 x5 x6 x7 : Int) (b8 : Bool) (x9 x10 x11 x12 : Int) : S57 -> RT S57
 | .L0 ia0 fa1 => .br (decide (ia0 < (↑8 : Int))) (.enter (iR 0 14 []) (S57.L1 (ia0) (ia0) (elV tp2 fa1)) [⟨13, tp2, 8, elV tp2 fa1, vf_view rfl _ _⟩]) (.brf (.enter (iR 0 14 []) (S57.L2 (1) (elV tp2 fa1) (ia0) (fa1)) [⟨13, tp2, 8, elV tp2 fa1, vf_view rfl _ _⟩]))
 | .L1 ib0 ib1 fb2 => .obi (.obi (.obj (decide (0 < ib0)) (decide (0 <= ib0 /\ ib0 < (↑8 : Int) /\ 8 <= 8)) (.obi (.obj (decide (0 < ib0)) (decide (ib0.toNat < 8)) (.obi (.obi (.obi (.obj (decide (0 < ib0)) (decide (0 <= i64.wrap (ib0 - 1) /\ i64.wrap (ib0 - 1) < (↑8 : Int) /\ 8 <= 8)) (.obi (.obj (decide (0 < ib0)) (decide ((i64.wrap (ib0 - 1)).toNat < 8)) (.br (decide (0 < ib0)) (.ob (decide (0 < ib0)) (.ob (decide (0 < ib0)) (.ob (decide (0 < ib0)) (.obc (.obt (.br (decide (F140_0 (jv0 (fb2 ib0.toNat)) (jv1 (fb2 ib0.toNat)) (jv0 (fb2 (i64.wrap (ib0 - 1)).toNat)) (jv1 (fb2 (i64.wrap (ib0 - 1)).toNat)) < 0)) (.ob (decide (0 <= i64.wrap (ib0 - 1) /\ i64.wrap (ib0 - 1) < (↑8 : Int) /\ 8 <= 8)) (.ob (decide ((i64.wrap (ib0 - 1)).toNat < 8)) (.ob (decide (0 <= ib0 /\ ib0 < (↑8 : Int) /\ 8 <= 8)) (.ob (decide (ib0.toNat < 8)) (.ob (decide (0 <= ib0 /\ ib0 < (↑8 : Int) /\ 8 <= 8)) (.ob (decide (ib0.toNat < 8)) (.ob (decide (0 <= i64.wrap (ib0 - 1) /\ i64.wrap (ib0 - 1) < (↑8 : Int) /\ 8 <= 8)) (.ob (decide ((i64.wrap (ib0 - 1)).toNat < 8)) (.next (iR 0 14 []) (S57.L1 (i64.wrap (ib0 - 1)) (ib1) (fun i' => bif i'.beq (i64.wrap (ib0 - 1)).toNat then [vi (jv0 (fb2 ib0.toNat)), vi (jv1 (fb2 ib0.toNat))] else bif i'.beq ib0.toNat then [vi (jv0 (fb2 (i64.wrap (ib0 - 1)).toNat)), vi (jv1 (fb2 (i64.wrap (ib0 - 1)).toNat))] else elV tp2 fb2 i')) [⟨13, tp2, 8, fun i' => bif i'.beq (i64.wrap (ib0 - 1)).toNat then [vi (jv0 (fb2 ib0.toNat)), vi (jv1 (fb2 ib0.toNat))] else bif i'.beq ib0.toNat then [vi (jv0 (fb2 (i64.wrap (ib0 - 1)).toNat)), vi (jv1 (fb2 (i64.wrap (ib0 - 1)).toNat))] else elV tp2 fb2 i', vf_set rfl (vf_set rfl (vf_view rfl _ _) rfl) rfl⟩]))))))))) (.next (iR 0 14 []) (S57.L0 (i64.wrap (ib1 + 1)) (elV tp2 fb2)) [⟨13, tp2, 8, elV tp2 fb2, vf_view rfl _ _⟩]))))))) (.next (iR 0 14 []) (S57.L0 (i64.wrap (ib1 + 1)) (elV tp2 fb2)) [⟨13, tp2, 8, elV tp2 fb2, vf_view rfl _ _⟩]))))))))))))
 | .L2 ic0 fc1 ic2 fc3 => .br (decide (ic0 < (↑8 : Int))) (.ob (decide (0 <= ic0 /\ ic0 < (↑8 : Int) /\ 8 <= 8)) (.ob (decide (ic0.toNat < 8)) (.ob (decide (0 <= i64.wrap (ic0 - 1) /\ i64.wrap (ic0 - 1) < (↑8 : Int) /\ 8 <= 8)) (.ob (decide ((i64.wrap (ic0 - 1)).toNat < 8)) (.br (jv0 (fc1 ic0.toNat) == jv0 (fc1 (i64.wrap (ic0 - 1)).toNat) && (jv1 (fc1 ic0.toNat) == jv1 (fc1 (i64.wrap (ic0 - 1)).toNat) && true)) (.ob (decide (0 <= ic0 /\ ic0 <= (↑8 : Int))) (.enter (iR 0 14 []) (S57.L3 (1) (ic0.toNat) (8 - ic0.toNat) (ic0) (jv0 (fc1 (i64.wrap (ic0 - 1)).toNat)) (jv1 (fc1 (i64.wrap (ic0 - 1)).toNat)) ((i64.wrap (ic0 - 1)).toNat) (i64.wrap (ic0 - 1)) (ic0) (elV tp2 fc1) (ic2) (fc3)) [⟨13, tp2, 8, elV tp2 fc1, vf_view rfl _ _⟩])) (.next (iR 0 14 []) (S57.L2 (i64.wrap (ic0 + 1)) (elV tp2 fc1) (ic2) (fc3)) [⟨13, tp2, 8, elV tp2 fc1, vf_view rfl _ _⟩])))))) (.brf (.enter (iR 0 15 [some none]) (S57.L4 (0) (elV tp2 fc1) (0) (fun i => []) (ic0) (fc1)) [⟨13, tp2, 8, elV tp2 fc1, vf_view rfl _ _⟩]))
 | .L3 id0 nd1 nd2 id3 id4 id5 nd6 id7 id8 fd9 id10 fd11 => .br (decide (id0 < (↑nd2 : Int))) (.ob (decide (0 <= id0 /\ id0 < (↑nd2 : Int) /\ nd1 + nd2 <= 8)) (.ob (decide (nd1 + id0.toNat < 8)) (.ob (decide (0 <= i64.wrap (id0 - 1) /\ i64.wrap (id0 - 1) < (↑nd2 : Int) /\ nd1 + nd2 <= 8)) (.ob (decide (nd1 + (i64.wrap (id0 - 1)).toNat < 8)) (.br (!(jv0 (fd9 (nd1 + id0.toNat)) == jv0 (fd9 (nd1 + (i64.wrap (id0 - 1)).toNat)) && (jv1 (fd9 (nd1 + id0.toNat)) == jv1 (fd9 (nd1 + (i64.wrap (id0 - 1)).toNat)) && true))) (.ob (decide (0 <= id0 /\ id0 < (↑nd2 : Int) /\ nd1 + nd2 <= 8)) (.ob (decide (nd1 + id0.toNat < 8)) (.ob (decide (0 <= id8 /\ id8 < (↑8 : Int) /\ 8 <= 8)) (.ob (decide (id8.toNat < 8)) (.next (iR 0 14 []) (S57.L3 (i64.wrap (id0 + 1)) (nd1) (nd2) (id3) (id4) (id5) (nd6) (id7) (i64.wrap (id8 + 1)) (fun i' => bif i'.beq id8.toNat then [vi (jv0 (fd9 (nd1 + id0.toNat))), vi (jv1 (fd9 (nd1 + id0.toNat)))] else elV tp2 fd9 i') (id10) (fd11)) [⟨13, tp2, 8, fun i' => bif i'.beq id8.toNat then [vi (jv0 (fd9 (nd1 + id0.toNat))), vi (jv1 (fd9 (nd1 + id0.toNat)))] else elV tp2 fd9 i', vf_set rfl (vf_view rfl _ _) rfl⟩]))))) (.next (iR 0 14 []) (S57.L3 (i64.wrap (id0 + 1)) (nd1) (nd2) (id3) (id4) (id5) (nd6) (id7) (id8) (elV tp2 fd9) (id10) (fd11)) [⟨13, tp2, 8, elV tp2 fd9, vf_view rfl _ _⟩])))))) (.ob (decide (0 <= id8 /\ id8 <= (↑8 : Int))) (.ob (decide (0 < 8 - id8.toNat /\ id8.toNat + (8 - id8.toNat) <= 8)) (.ob (decide (0 <= id8 /\ id8 <= (↑8 : Int))) (.br (decide ((↑id8.toNat : Int) < 3)) (.enter [some (some 13), some (some 0)] (S57.L5 (0) ((↑id8.toNat : Int)) (id8.toNat) (decide (2 < (↑id8.toNat : Int))) (8) (fun i => bif id8.toNat.ble i && i.succ.ble (id8.toNat + (8 - id8.toNat)) then [vi 0, vi 0] else elV tp2 fd9 i)) [⟨0, tp2, 8, fun i => bif id8.toNat.ble i && i.succ.ble (id8.toNat + (8 - id8.toNat)) then [vi 0, vi 0] else elV tp2 fd9 i, vf_if rfl (vf_view rfl _ _) rfl⟩]) (.enter (iR 0 15 [some none]) (S57.L12 (0) ((↑id8.toNat : Int)) (id8.toNat) (fun i => bif id8.toNat.ble i && i.succ.ble (id8.toNat + (8 - id8.toNat)) then [vi 0, vi 0] else elV tp2 fd9 i) (0) (fun i => []) (id0) (nd1) (nd2) (id3) (id4) (id5) (nd6) (id7) (id8) (fd9)) [⟨13, tp2, 8, fun i => bif id8.toNat.ble i && i.succ.ble (id8.toNat + (8 - id8.toNat)) then [vi 0, vi 0] else elV tp2 fd9 i, vf_if rfl (vf_view rfl _ _) rfl⟩])))))
 | .L4 ie0 fe1 ne2 fe3 ie4 fe5 => .br (decide (ie0 < (↑8 : Int))) (.ob (decide (0 <= ie0 /\ ie0 < (↑8 : Int) /\ 8 <= 8)) (.ob (decide (ie0.toNat < 8)) (.enter (iR 0 15 [some (some 16), some (some 15)]) (S57.L7 (ie0) (elV tp2 fe1) (ne2) (jv0 (fe1 ie0.toNat)) (jv1 (fe1 ie0.toNat)) (ne2) (elV tp2 fe3) (ie4) (fe5)) [⟨13, tp2, 8, elV tp2 fe1, vf_view rfl _ _⟩, ⟨16, tp2, ne2, elV tp2 fe3, vf_view rfl _ _⟩]))) (.ob (decide (0 <= i64.wrap ((↑ne2 : Int) - 1) /\ i64.wrap ((↑ne2 : Int) - 1) <= (↑ne2 : Int))) (.enter (iR 0 16 []) (S57.L13 (i64.wrap ((↑8 : Int) - 1)) (0) (elV tp2 fe1) ((i64.wrap ((↑ne2 : Int) - 1)).toNat) (ne2) (elV tp2 fe3) (ie4) (fe5)) [⟨13, tp2, 8, elV tp2 fe1, vf_view rfl _ _⟩, ⟨15, tp2, ne2, elV tp2 fe3, vf_view rfl _ _⟩]))
 | .L5 if0 if1 nf2 bf3 nf4 ff5 => .br (decide (if0 < if1)) (.ob (decide (0 <= if0 /\ if0 < (↑nf2 : Int) /\ nf2 <= nf4)) (.ob (decide (if0.toNat < nf4)) (.ob (decide ((↑nf2 : Int) ≠ 0)) (.ob (decide (0 <= (i64.wrap (if0 + 1)).tmod (↑nf2 : Int) /\ (i64.wrap (if0 + 1)).tmod (↑nf2 : Int) < (↑nf2 : Int) /\ nf2 <= nf4)) (.ob (decide (((i64.wrap (if0 + 1)).tmod (↑nf2 : Int)).toNat < nf4)) (.obc (.obt (.br (F103_0 (jv0 (ff5 if0.toNat)) (jv1 (ff5 if0.toNat)) (jv0 (ff5 ((i64.wrap (if0 + 1)).tmod (↑nf2 : Int)).toNat)) (jv1 (ff5 ((i64.wrap (if0 + 1)).tmod (↑nf2 : Int)).toNat)) x5 x6 x7) (.ret (V.kb true)) (.obi (.br (bf3) (.ob (bf3) (.ob (bf3) (.obc (.obt (.next [some (some 0), some (some 1)] (S57.L5 (i64.wrap (if0 + 1)) (if1) (nf2) (decide (0 < F78_0 (jv0 (ff5 if0.toNat)) (jv1 (ff5 if0.toNat)) (jv0 (ff5 ((i64.wrap (if0 + 1)).tmod (↑nf2 : Int)).toNat)) (jv1 (ff5 ((i64.wrap (if0 + 1)).tmod (↑nf2 : Int)).toNat)) x5 x6)) (nf4) (elV tp2 ff5)) [⟨0, tp2, nf4, elV tp2 ff5, vf_view rfl _ _⟩]))))) (.next [some (some 0), some (some 1)] (S57.L5 (i64.wrap (if0 + 1)) (if1) (nf2) (false) (nf4) (elV tp2 ff5)) [⟨0, tp2, nf4, elV tp2 ff5, vf_view rfl _ _⟩]))))))))))) (.ret (V.bool bf3))
 | .L7 ih0 fh1 nh2 ih3 ih4 nh5 fh6 ih7 fh8 => .obi (.obi (.obi (.obi (.obj (decide (i64.wrap (0 + 1) < (↑nh2 : Int))) (decide (0 <= i64.wrap ((↑nh2 : Int) - 2) /\ i64.wrap ((↑nh2 : Int) - 2) < (↑nh2 : Int) /\ nh2 <= nh5)) (.obi (.obj (decide (i64.wrap (0 + 1) < (↑nh2 : Int))) (decide ((i64.wrap ((↑nh2 : Int) - 2)).toNat < nh5)) (.obi (.obi (.obi (.obi (.obj (decide (i64.wrap (0 + 1) < (↑nh2 : Int))) (decide (0 <= i64.wrap ((↑nh2 : Int) - 1) /\ i64.wrap ((↑nh2 : Int) - 1) < (↑nh2 : Int) /\ nh2 <= nh5)) (.obi (.obj (decide (i64.wrap (0 + 1) < (↑nh2 : Int))) (decide ((i64.wrap ((↑nh2 : Int) - 1)).toNat < nh5)) (.obi (.obi (.br (decide (i64.wrap (0 + 1) < (↑nh2 : Int))) (.ob (decide (i64.wrap (0 + 1) < (↑nh2 : Int))) (.ob (decide (i64.wrap (0 + 1) < (↑nh2 : Int))) (.obc (.obt (.br (decide (F78_0 (jv0 (fh6 (i64.wrap ((↑nh2 : Int) - 2)).toNat)) (jv1 (fh6 (i64.wrap ((↑nh2 : Int) - 2)).toNat)) (jv0 (fh6 (i64.wrap ((↑nh2 : Int) - 1)).toNat)) (jv1 (fh6 (i64.wrap ((↑nh2 : Int) - 1)).toNat)) ih3 ih4 <= 0)) (.ob (decide (0 <= i64.wrap ((↑nh2 : Int) - 1) /\ i64.wrap ((↑nh2 : Int) - 1) <= (↑nh2 : Int))) (.next (iR 0 17 []) (S57.L7 (ih0) (elV tp2 fh1) ((i64.wrap ((↑nh2 : Int) - 1)).toNat) (ih3) (ih4) (nh5) (elV tp2 fh6) (ih7) (fh8)) [⟨13, tp2, 8, elV tp2 fh1, vf_view rfl _ _⟩, ⟨16, tp2, nh5, elV tp2 fh6, vf_view rfl _ _⟩])) (.obt (.ob (decide (nh2 <= nh5 /\ (nh2 + 1) * 16 <= 140737488355328) && !Nat.beq 16 0) (.next (iR 0 15 [some (some 18)]) (S57.L4 (i64.wrap (ih0 + 1)) (elV tp2 fh1) (nh2 + 1) (joinF nh2 (elV tp2 fh6) fun x => [vi ih3, vi ih4]) (ih7) (fh8)) [⟨13, tp2, 8, elV tp2 fh1, vf_view rfl _ _⟩, ⟨15, tp2, nh2 + 1, joinF nh2 (elV tp2 fh6) fun x => [vi ih3, vi ih4], vf_join (vf_view rfl _ _) (vf_const rfl _ rfl)⟩])))))))) (.obt (.ob (decide (nh2 <= nh5 /\ (nh2 + 1) * 16 <= 140737488355328) && !Nat.beq 16 0) (.next (iR 0 15 [some (some 18)]) (S57.L4 (i64.wrap (ih0 + 1)) (elV tp2 fh1) (nh2 + 1) (joinF nh2 (elV tp2 fh6) fun x => [vi ih3, vi ih4]) (ih7) (fh8)) [⟨13, tp2, 8, elV tp2 fh1, vf_view rfl _ _⟩, ⟨15, tp2, nh2 + 1, joinF nh2 (elV tp2 fh6) fun x => [vi ih3, vi ih4], vf_join (vf_view rfl _ _) (vf_const rfl _ rfl)⟩])))))))))))))))))))
 | .L12 im0 im1 nm2 fm3 nm4 fm5 im6 nm7 nm8 im9 im10 im11 nm12 im13 im14 fm15 => .br (decide (im0 < im1)) (.ob (decide (0 <= im0 /\ im0 < (↑nm2 : Int) /\ nm2 <= 8)) (.ob (decide (im0.toNat < 8)) (.enter (iR 0 15 [some (some 16), some (some 15)]) (S57.L14 (im0) (im1) (nm2) (elV tp2 fm3) (nm4) (jv0 (fm3 im0.toNat)) (jv1 (fm3 im0.toNat)) (nm4) (elV tp2 fm5) (im6) (nm7) (nm8) (im9) (im10) (im11) (nm12) (im13) (im14) (fm15)) [⟨13, tp2, 8, elV tp2 fm3, vf_view rfl _ _⟩, ⟨16, tp2, nm4, elV tp2 fm5, vf_view rfl _ _⟩]))) (.ob (decide (0 <= i64.wrap ((↑nm4 : Int) - 1) /\ i64.wrap ((↑nm4 : Int) - 1) <= (↑nm4 : Int))) (.enter (iR 0 16 []) (S57.L15 (i64.wrap ((↑im14.toNat : Int) - 1)) (0) ((↑im14.toNat : Int)) (im14.toNat) (elV tp2 fm3) ((i64.wrap ((↑nm4 : Int) - 1)).toNat) (nm4) (elV tp2 fm5) (im6) (nm7) (nm8) (im9) (im10) (im11) (nm12) (im13) (im14) (fm15)) [⟨13, tp2, 8, elV tp2 fm3, vf_view rfl _ _⟩, ⟨15, tp2, nm4, elV tp2 fm5, vf_view rfl _ _⟩]))
 | .L13 in0 in1 fn2 nn3 nn4 fn5 in6 fn7 => .br (decide (in1 < in0)) (.ob (decide (0 <= in0 /\ in0 < (↑8 : Int) /\ 8 <= 8)) (.ob (decide (in0.toNat < 8)) (.ob (decide (0 <= in1 /\ in1 < (↑8 : Int) /\ 8 <= 8)) (.ob (decide (in1.toNat < 8)) (.ob (decide (0 <= in1 /\ in1 < (↑8 : Int) /\ 8 <= 8)) (.ob (decide (in1.toNat < 8)) (.ob (decide (0 <= in0 /\ in0 < (↑8 : Int) /\ 8 <= 8)) (.ob (decide (in0.toNat < 8)) (.next (iR 0 16 []) (S57.L13 (i64.wrap (in0 - 1)) (i64.wrap (in1 + 1)) (fun i' => bif i'.beq in0.toNat then [vi (jv0 (fn2 in1.toNat)), vi (jv1 (fn2 in1.toNat))] else bif i'.beq in1.toNat then [vi (jv0 (fn2 in0.toNat)), vi (jv1 (fn2 in0.toNat))] else elV tp2 fn2 i') (nn3) (nn4) (elV tp2 fn5) (in6) (fn7)) [⟨13, tp2, 8, fun i' => bif i'.beq in0.toNat then [vi (jv0 (fn2 in1.toNat)), vi (jv1 (fn2 in1.toNat))] else bif i'.beq in1.toNat then [vi (jv0 (fn2 in0.toNat)), vi (jv1 (fn2 in0.toNat))] else elV tp2 fn2 i', vf_set rfl (vf_set rfl (vf_view rfl _ _) rfl) rfl⟩, ⟨15, tp2, nn4, elV tp2 fn5, vf_view rfl _ _⟩]))))))))) (.enter (iR 0 16 []) (S57.L18 ((↑nn3 : Int)) (elV tp2 fn2) (nn3) (nn4) (elV tp2 fn5) (in0) (in1) (fn2) (fn5) (in6) (fn7)) [⟨13, tp2, 8, elV tp2 fn2, vf_view rfl _ _⟩, ⟨15, tp2, nn4, elV tp2 fn5, vf_view rfl _ _⟩])
 | .L14 io0 io1 no2 fo3 no4 io5 io6 no7 fo8 io9 no10 no11 io12 io13 io14 no15 io16 io17 fo18 => .obi (.obi (.obi (.obi (.obj (decide (i64.wrap (0 + 1) < (↑no4 : Int))) (decide (0 <= i64.wrap ((↑no4 : Int) - 2) /\ i64.wrap ((↑no4 : Int) - 2) < (↑no4 : Int) /\ no4 <= no7)) (.obi (.obj (decide (i64.wrap (0 + 1) < (↑no4 : Int))) (decide ((i64.wrap ((↑no4 : Int) - 2)).toNat < no7)) (.obi (.obi (.obi (.obi (.obj (decide (i64.wrap (0 + 1) < (↑no4 : Int))) (decide (0 <= i64.wrap ((↑no4 : Int) - 1) /\ i64.wrap ((↑no4 : Int) - 1) < (↑no4 : Int) /\ no4 <= no7)) (.obi (.obj (decide (i64.wrap (0 + 1) < (↑no4 : Int))) (decide ((i64.wrap ((↑no4 : Int) - 1)).toNat < no7)) (.obi (.obi (.br (decide (i64.wrap (0 + 1) < (↑no4 : Int))) (.ob (decide (i64.wrap (0 + 1) < (↑no4 : Int))) (.ob (decide (i64.wrap (0 + 1) < (↑no4 : Int))) (.obc (.obt (.br (decide (F78_0 (jv0 (fo8 (i64.wrap ((↑no4 : Int) - 2)).toNat)) (jv1 (fo8 (i64.wrap ((↑no4 : Int) - 2)).toNat)) (jv0 (fo8 (i64.wrap ((↑no4 : Int) - 1)).toNat)) (jv1 (fo8 (i64.wrap ((↑no4 : Int) - 1)).toNat)) io5 io6 <= 0)) (.ob (decide (0 <= i64.wrap ((↑no4 : Int) - 1) /\ i64.wrap ((↑no4 : Int) - 1) <= (↑no4 : Int))) (.next (iR 0 17 []) (S57.L14 (io0) (io1) (no2) (elV tp2 fo3) ((i64.wrap ((↑no4 : Int) - 1)).toNat) (io5) (io6) (no7) (elV tp2 fo8) (io9) (no10) (no11) (io12) (io13) (io14) (no15) (io16) (io17) (fo18)) [⟨13, tp2, 8, elV tp2 fo3, vf_view rfl _ _⟩, ⟨16, tp2, no7, elV tp2 fo8, vf_view rfl _ _⟩])) (.obt (.ob (decide (no4 <= no7 /\ (no4 + 1) * 16 <= 140737488355328) && !Nat.beq 16 0) (.next (iR 0 15 [some (some 18)]) (S57.L12 (i64.wrap (io0 + 1)) (io1) (no2) (elV tp2 fo3) (no4 + 1) (joinF no4 (elV tp2 fo8) fun x => [vi io5, vi io6]) (io9) (no10) (no11) (io12) (io13) (io14) (no15) (io16) (io17) (fo18)) [⟨13, tp2, 8, elV tp2 fo3, vf_view rfl _ _⟩, ⟨15, tp2, no4 + 1, joinF no4 (elV tp2 fo8) fun x => [vi io5, vi io6], vf_join (vf_view rfl _ _) (vf_const rfl _ rfl)⟩])))))))) (.obt (.ob (decide (no4 <= no7 /\ (no4 + 1) * 16 <= 140737488355328) && !Nat.beq 16 0) (.next (iR 0 15 [some (some 18)]) (S57.L12 (i64.wrap (io0 + 1)) (io1) (no2) (elV tp2 fo3) (no4 + 1) (joinF no4 (elV tp2 fo8) fun x => [vi io5, vi io6]) (io9) (no10) (no11) (io12) (io13) (io14) (no15) (io16) (io17) (fo18)) [⟨13, tp2, 8, elV tp2 fo3, vf_view rfl _ _⟩, ⟨15, tp2, no4 + 1, joinF no4 (elV tp2 fo8) fun x => [vi io5, vi io6], vf_join (vf_view rfl _ _) (vf_const rfl _ rfl)⟩])))))))))))))))))))
 | .L15 ip0 ip1 ip2 np3 fp4 np5 np6 fp7 ip8 np9 np10 ip11 ip12 ip13 np14 ip15 ip16 fp17 => .br (decide (ip1 < ip0)) (.ob (decide (0 <= ip0 /\ ip0 < (↑np3 : Int) /\ np3 <= 8)) (.ob (decide (ip0.toNat < 8)) (.ob (decide (0 <= ip1 /\ ip1 < (↑np3 : Int) /\ np3 <= 8)) (.ob (decide (ip1.toNat < 8)) (.ob (decide (0 <= ip1 /\ ip1 < (↑np3 : Int) /\ np3 <= 8)) (.ob (decide (ip1.toNat < 8)) (.ob (decide (0 <= ip0 /\ ip0 < (↑np3 : Int) /\ np3 <= 8)) (.ob (decide (ip0.toNat < 8)) (.next (iR 0 16 []) (S57.L15 (i64.wrap (ip0 - 1)) (i64.wrap (ip1 + 1)) (ip2) (np3) (fun i' => bif i'.beq ip0.toNat then [vi (jv0 (fp4 ip1.toNat)), vi (jv1 (fp4 ip1.toNat))] else bif i'.beq ip1.toNat then [vi (jv0 (fp4 ip0.toNat)), vi (jv1 (fp4 ip0.toNat))] else elV tp2 fp4 i') (np5) (np6) (elV tp2 fp7) (ip8) (np9) (np10) (ip11) (ip12) (ip13) (np14) (ip15) (ip16) (fp17)) [⟨13, tp2, 8, fun i' => bif i'.beq ip0.toNat then [vi (jv0 (fp4 ip1.toNat)), vi (jv1 (fp4 ip1.toNat))] else bif i'.beq ip1.toNat then [vi (jv0 (fp4 ip0.toNat)), vi (jv1 (fp4 ip0.toNat))] else elV tp2 fp4 i', vf_set rfl (vf_set rfl (vf_view rfl _ _) rfl) rfl⟩, ⟨15, tp2, np6, elV tp2 fp7, vf_view rfl _ _⟩]))))))))) (.enter (iR 0 16 []) (S57.L24 ((↑ip16.toNat : Int)) (ip16.toNat) ((↑np5 : Int)) (elV tp2 fp4) (np5) (np6) (elV tp2 fp7) (ip0) (ip1) (ip2) (np3) (fp4) (fp7) (ip8) (np9) (np10) (ip11) (ip12) (ip13) (np14) (ip15) (ip16) (fp17)) [⟨13, tp2, 8, elV tp2 fp4, vf_view rfl _ _⟩, ⟨15, tp2, np6, elV tp2 fp7, vf_view rfl _ _⟩])
 | .L18 is0 fs1 ns2 ns3 fs4 is5 is6 fs7 fs8 is9 fs10 => .brt (.obt (.obt (.enter (iR 0 17 []) (S57.L20 (is0) (elV tp2 fs1) (ns2) (ns3) (elV tp2 fs4) (jv0 (fs1 0)) (jv1 (fs1 0)) (is5) (is6) (fs7) (ns2) (fs8) (is9) (fs10)) [⟨13, tp2, 8, elV tp2 fs1, vf_view rfl _ _⟩, ⟨15, tp2, ns3, elV tp2 fs4, vf_view rfl _ _⟩])))
 | .L20 iu0 fu1 nu2 nu3 fu4 iu5 iu6 iu7 iu8 fu9 nu10 fu11 iu12 fu13 => .obi (.obi (.obi (.obi (.obj (decide (i64.wrap (iu0 + 1) < (↑nu2 : Int))) (decide (0 <= i64.wrap ((↑nu2 : Int) - 2) /\ i64.wrap ((↑nu2 : Int) - 2) < (↑nu2 : Int) /\ nu2 <= nu3)) (.obi (.obj (decide (i64.wrap (iu0 + 1) < (↑nu2 : Int))) (decide ((i64.wrap ((↑nu2 : Int) - 2)).toNat < nu3)) (.obi (.obi (.obi (.obi (.obj (decide (i64.wrap (iu0 + 1) < (↑nu2 : Int))) (decide (0 <= i64.wrap ((↑nu2 : Int) - 1) /\ i64.wrap ((↑nu2 : Int) - 1) < (↑nu2 : Int) /\ nu2 <= nu3)) (.obi (.obj (decide (i64.wrap (iu0 + 1) < (↑nu2 : Int))) (decide ((i64.wrap ((↑nu2 : Int) - 1)).toNat < nu3)) (.obi (.obi (.br (decide (i64.wrap (iu0 + 1) < (↑nu2 : Int))) (.ob (decide (i64.wrap (iu0 + 1) < (↑nu2 : Int))) (.ob (decide (i64.wrap (iu0 + 1) < (↑nu2 : Int))) (.obc (.obt (.br (decide (F78_0 (jv0 (fu4 (i64.wrap ((↑nu2 : Int) - 2)).toNat)) (jv1 (fu4 (i64.wrap ((↑nu2 : Int) - 2)).toNat)) (jv0 (fu4 (i64.wrap ((↑nu2 : Int) - 1)).toNat)) (jv1 (fu4 (i64.wrap ((↑nu2 : Int) - 1)).toNat)) iu5 iu6 <= 0)) (.ob (decide (0 <= i64.wrap ((↑nu2 : Int) - 1) /\ i64.wrap ((↑nu2 : Int) - 1) <= (↑nu2 : Int))) (.next (iR 0 17 []) (S57.L20 (iu0) (elV tp2 fu1) ((i64.wrap ((↑nu2 : Int) - 1)).toNat) (nu3) (elV tp2 fu4) (iu5) (iu6) (iu7) (iu8) (fu9) (nu10) (fu11) (iu12) (fu13)) [⟨13, tp2, 8, elV tp2 fu1, vf_view rfl _ _⟩, ⟨15, tp2, nu3, elV tp2 fu4, vf_view rfl _ _⟩])) (.obt (.ob (decide (nu2 <= nu3 /\ (nu2 + 1) * 16 <= 140737488355328) && !Nat.beq 16 0) (.next (iR 0 17 [some (some 18)]) (S57.L22 (i64.wrap (0 + 1)) (iu0) (elV tp2 fu1) (nu2 + 1) (iu5) (iu6) (joinF nu2 (elV tp2 fu4) fun x => [vi iu5, vi iu6]) (iu7) (iu8) (fu9) (nu10) (nu3) (fu11) (iu12) (fu13)) [⟨13, tp2, 8, elV tp2 fu1, vf_view rfl _ _⟩, ⟨17, tp2, nu2 + 1, joinF nu2 (elV tp2 fu4) fun x => [vi iu5, vi iu6], vf_join (vf_view rfl _ _) (vf_const rfl _ rfl)⟩])))))))) (.obt (.ob (decide (nu2 <= nu3 /\ (nu2 + 1) * 16 <= 140737488355328) && !Nat.beq 16 0) (.next (iR 0 17 [some (some 18)]) (S57.L22 (i64.wrap (0 + 1)) (iu0) (elV tp2 fu1) (nu2 + 1) (iu5) (iu6) (joinF nu2 (elV tp2 fu4) fun x => [vi iu5, vi iu6]) (iu7) (iu8) (fu9) (nu10) (nu3) (fu11) (iu12) (fu13)) [⟨13, tp2, 8, elV tp2 fu1, vf_view rfl _ _⟩, ⟨17, tp2, nu2 + 1, joinF nu2 (elV tp2 fu4) fun x => [vi iu5, vi iu6], vf_join (vf_view rfl _ _) (vf_const rfl _ rfl)⟩])))))))))))))))))))
 | .L22 iw0 iw1 fw2 nw3 iw4 iw5 fw6 iw7 iw8 fw9 nw10 nw11 fw12 iw13 fw14 => .br (decide (iw0 < (↑8 : Int))) (.ob (decide (0 <= iw0 /\ iw0 < (↑8 : Int) /\ 8 <= 8)) (.ob (decide (iw0.toNat < 8)) (.enter (iR 0 16 [some (some 18), some (some 17)]) (S57.L23 (iw0) (iw1) (elV tp2 fw2) (nw3) (jv0 (fw2 iw0.toNat)) (jv1 (fw2 iw0.toNat)) (nw3) (elV tp2 fw6) (iw7) (iw8) (fw9) (nw10) (nw11) (fw12) (iw13) (fw14)) [⟨13, tp2, 8, elV tp2 fw2, vf_view rfl _ _⟩, ⟨17, tp2, nw3, elV tp2 fw6, vf_view rfl _ _⟩]))) (.ob (decide (0 <= i64.wrap ((↑nw3 : Int) - 1) /\ i64.wrap ((↑nw3 : Int) - 1) <= (↑nw3 : Int))) (.enter [some (some 17), some (some 0)] (S57.L5 (0) ((↑(i64.wrap ((↑nw3 : Int) - 1)).toNat : Int)) ((i64.wrap ((↑nw3 : Int) - 1)).toNat) (decide (2 < (↑(i64.wrap ((↑nw3 : Int) - 1)).toNat : Int))) (nw3) (elV tp2 fw6)) [⟨0, tp2, nw3, elV tp2 fw6, vf_view rfl _ _⟩]))
 | .L23 ix0 ix1 fx2 nx3 ix4 ix5 nx6 fx7 ix8 ix9 fx10 nx11 nx12 fx13 ix14 fx15 => .obi (.obi (.obi (.obi (.obj (decide (i64.wrap (ix1 + 1) < (↑nx3 : Int))) (decide (0 <= i64.wrap ((↑nx3 : Int) - 2) /\ i64.wrap ((↑nx3 : Int) - 2) < (↑nx3 : Int) /\ nx3 <= nx6)) (.obi (.obj (decide (i64.wrap (ix1 + 1) < (↑nx3 : Int))) (decide ((i64.wrap ((↑nx3 : Int) - 2)).toNat < nx6)) (.obi (.obi (.obi (.obi (.obj (decide (i64.wrap (ix1 + 1) < (↑nx3 : Int))) (decide (0 <= i64.wrap ((↑nx3 : Int) - 1) /\ i64.wrap ((↑nx3 : Int) - 1) < (↑nx3 : Int) /\ nx3 <= nx6)) (.obi (.obj (decide (i64.wrap (ix1 + 1) < (↑nx3 : Int))) (decide ((i64.wrap ((↑nx3 : Int) - 1)).toNat < nx6)) (.obi (.obi (.br (decide (i64.wrap (ix1 + 1) < (↑nx3 : Int))) (.ob (decide (i64.wrap (ix1 + 1) < (↑nx3 : Int))) (.ob (decide (i64.wrap (ix1 + 1) < (↑nx3 : Int))) (.obc (.obt (.br (decide (F78_0 (jv0 (fx7 (i64.wrap ((↑nx3 : Int) - 2)).toNat)) (jv1 (fx7 (i64.wrap ((↑nx3 : Int) - 2)).toNat)) (jv0 (fx7 (i64.wrap ((↑nx3 : Int) - 1)).toNat)) (jv1 (fx7 (i64.wrap ((↑nx3 : Int) - 1)).toNat)) ix4 ix5 <= 0)) (.ob (decide (0 <= i64.wrap ((↑nx3 : Int) - 1) /\ i64.wrap ((↑nx3 : Int) - 1) <= (↑nx3 : Int))) (.next (iR 0 18 []) (S57.L23 (ix0) (ix1) (elV tp2 fx2) ((i64.wrap ((↑nx3 : Int) - 1)).toNat) (ix4) (ix5) (nx6) (elV tp2 fx7) (ix8) (ix9) (fx10) (nx11) (nx12) (fx13) (ix14) (fx15)) [⟨13, tp2, 8, elV tp2 fx2, vf_view rfl _ _⟩, ⟨17, tp2, nx6, elV tp2 fx7, vf_view rfl _ _⟩])) (.obt (.ob (decide (nx3 <= nx6 /\ (nx3 + 1) * 16 <= 140737488355328) && !Nat.beq 16 0) (.next (iR 0 17 [some (some 19)]) (S57.L22 (i64.wrap (ix0 + 1)) (ix1) (elV tp2 fx2) (nx3 + 1) (ix4) (ix5) (joinF nx3 (elV tp2 fx7) fun x => [vi ix4, vi ix5]) (ix8) (ix9) (fx10) (nx11) (nx12) (fx13) (ix14) (fx15)) [⟨13, tp2, 8, elV tp2 fx2, vf_view rfl _ _⟩, ⟨17, tp2, nx3 + 1, joinF nx3 (elV tp2 fx7) fun x => [vi ix4, vi ix5], vf_join (vf_view rfl _ _) (vf_const rfl _ rfl)⟩])))))))) (.obt (.ob (decide (nx3 <= nx6 /\ (nx3 + 1) * 16 <= 140737488355328) && !Nat.beq 16 0) (.next (iR 0 17 [some (some 19)]) (S57.L22 (i64.wrap (ix0 + 1)) (ix1) (elV tp2 fx2) (nx3 + 1) (ix4) (ix5) (joinF nx3 (elV tp2 fx7) fun x => [vi ix4, vi ix5]) (ix8) (ix9) (fx10) (nx11) (nx12) (fx13) (ix14) (fx15)) [⟨13, tp2, 8, elV tp2 fx2, vf_view rfl _ _⟩, ⟨17, tp2, nx3 + 1, joinF nx3 (elV tp2 fx7) fun x => [vi ix4, vi ix5], vf_join (vf_view rfl _ _) (vf_const rfl _ rfl)⟩])))))))))))))))))))
 | .L24 iy0 ny1 iy2 fy3 ny4 ny5 fy6 iy7 iy8 iy9 ny10 fy11 fy12 iy13 ny14 ny15 iy16 iy17 iy18 ny19 iy20 iy21 fy22 => .br (decide (0 < iy0)) (.ob (decide ((0 : Int) <= 0 /\ 0 < (↑ny1 : Int) /\ ny1 <= 8)) (.obt (.enter (iR 0 17 []) (S57.L25 (iy0) (ny1) (iy2) (elV tp2 fy3) (ny4) (ny5) (elV tp2 fy6) (jv0 (fy3 0)) (jv1 (fy3 0)) (iy7) (iy8) (iy9) (ny10) (fy11) (ny4) (fy12) (iy13) (ny14) (ny15) (iy16) (iy17) (iy18) (ny19) (iy20) (iy21) (fy22)) [⟨13, tp2, 8, elV tp2 fy3, vf_view rfl _ _⟩, ⟨15, tp2, ny5, elV tp2 fy6, vf_view rfl _ _⟩]))) (.ob (decide (0 <= i64.wrap ((↑ny4 : Int) - 1) /\ i64.wrap ((↑ny4 : Int) - 1) <= (↑ny4 : Int))) (.enter [some (some 15), some (some 0)] (S57.L5 (0) ((↑(i64.wrap ((↑ny4 : Int) - 1)).toNat : Int)) ((i64.wrap ((↑ny4 : Int) - 1)).toNat) (decide (2 < (↑(i64.wrap ((↑ny4 : Int) - 1)).toNat : Int))) (ny5) (elV tp2 fy6)) [⟨0, tp2, ny5, elV tp2 fy6, vf_view rfl _ _⟩]))
 | .L25 iz0 nz1 iz2 fz3 nz4 nz5 fz6 iz7 iz8 iz9 iz10 iz11 nz12 fz13 nz14 fz15 iz16 nz17 nz18 iz19 iz20 iz21 nz22 iz23 iz24 fz25 => .obi (.obi (.obi (.obi (.obj (decide (i64.wrap (iz2 + 1) < (↑nz4 : Int))) (decide (0 <= i64.wrap ((↑nz4 : Int) - 2) /\ i64.wrap ((↑nz4 : Int) - 2) < (↑nz4 : Int) /\ nz4 <= nz5)) (.obi (.obj (decide (i64.wrap (iz2 + 1) < (↑nz4 : Int))) (decide ((i64.wrap ((↑nz4 : Int) - 2)).toNat < nz5)) (.obi (.obi (.obi (.obi (.obj (decide (i64.wrap (iz2 + 1) < (↑nz4 : Int))) (decide (0 <= i64.wrap ((↑nz4 : Int) - 1) /\ i64.wrap ((↑nz4 : Int) - 1) < (↑nz4 : Int) /\ nz4 <= nz5)) (.obi (.obj (decide (i64.wrap (iz2 + 1) < (↑nz4 : Int))) (decide ((i64.wrap ((↑nz4 : Int) - 1)).toNat < nz5)) (.obi (.obi (.br (decide (i64.wrap (iz2 + 1) < (↑nz4 : Int))) (.ob (decide (i64.wrap (iz2 + 1) < (↑nz4 : Int))) (.ob (decide (i64.wrap (iz2 + 1) < (↑nz4 : Int))) (.obc (.obt (.br (decide (F78_0 (jv0 (fz6 (i64.wrap ((↑nz4 : Int) - 2)).toNat)) (jv1 (fz6 (i64.wrap ((↑nz4 : Int) - 2)).toNat)) (jv0 (fz6 (i64.wrap ((↑nz4 : Int) - 1)).toNat)) (jv1 (fz6 (i64.wrap ((↑nz4 : Int) - 1)).toNat)) iz7 iz8 <= 0)) (.ob (decide (0 <= i64.wrap ((↑nz4 : Int) - 1) /\ i64.wrap ((↑nz4 : Int) - 1) <= (↑nz4 : Int))) (.next (iR 0 17 []) (S57.L25 (iz0) (nz1) (iz2) (elV tp2 fz3) ((i64.wrap ((↑nz4 : Int) - 1)).toNat) (nz5) (elV tp2 fz6) (iz7) (iz8) (iz9) (iz10) (iz11) (nz12) (fz13) (nz14) (fz15) (iz16) (nz17) (nz18) (iz19) (iz20) (iz21) (nz22) (iz23) (iz24) (fz25)) [⟨13, tp2, 8, elV tp2 fz3, vf_view rfl _ _⟩, ⟨15, tp2, nz5, elV tp2 fz6, vf_view rfl _ _⟩])) (.obt (.ob (decide (nz4 <= nz5 /\ (nz4 + 1) * 16 <= 140737488355328) && !Nat.beq 16 0) (.next (iR 0 17 [some (some 18)]) (S57.L26 (i64.wrap (0 + 1)) (iz0) (nz1) (iz2) (elV tp2 fz3) (nz4 + 1) (iz7) (iz8) (joinF nz4 (elV tp2 fz6) fun x => [vi iz7, vi iz8]) (iz9) (iz10) (iz11) (nz12) (fz13) (nz14) (nz5) (fz15) (iz16) (nz17) (nz18) (iz19) (iz20) (iz21) (nz22) (iz23) (iz24) (fz25)) [⟨13, tp2, 8, elV tp2 fz3, vf_view rfl _ _⟩, ⟨17, tp2, nz4 + 1, joinF nz4 (elV tp2 fz6) fun x => [vi iz7, vi iz8], vf_join (vf_view rfl _ _) (vf_const rfl _ rfl)⟩])))))))) (.obt (.ob (decide (nz4 <= nz5 /\ (nz4 + 1) * 16 <= 140737488355328) && !Nat.beq 16 0) (.next (iR 0 17 [some (some 18)]) (S57.L26 (i64.wrap (0 + 1)) (iz0) (nz1) (iz2) (elV tp2 fz3) (nz4 + 1) (iz7) (iz8) (joinF nz4 (elV tp2 fz6) fun x => [vi iz7, vi iz8]) (iz9) (iz10) (iz11) (nz12) (fz13) (nz14) (nz5) (fz15) (iz16) (nz17) (nz18) (iz19) (iz20) (iz21) (nz22) (iz23) (iz24) (fz25)) [⟨13, tp2, 8, elV tp2 fz3, vf_view rfl _ _⟩, ⟨17, tp2, nz4 + 1, joinF nz4 (elV tp2 fz6) fun x => [vi iz7, vi iz8], vf_join (vf_view rfl _ _) (vf_const rfl _ rfl)⟩])))))))))))))))))))
 | .L26 iza0 iza1 nza2 iza3 fza4 nza5 iza6 iza7 fza8 iza9 iza10 iza11 nza12 fza13 nza14 nza15 fza16 iza17 nza18 nza19 iza20 iza21 iza22 nza23 iza24 iza25 fza26 => .br (decide (iza0 < iza1)) (.ob (decide (0 <= iza0 /\ iza0 < (↑nza2 : Int) /\ nza2 <= 8)) (.ob (decide (iza0.toNat < 8)) (.enter (iR 0 16 [some (some 18), some (some 17)]) (S57.L27 (iza0) (iza1) (nza2) (iza3) (elV tp2 fza4) (nza5) (jv0 (fza4 iza0.toNat)) (jv1 (fza4 iza0.toNat)) (nza5) (elV tp2 fza8) (iza9) (iza10) (iza11) (nza12) (fza13) (nza14) (nza15) (fza16) (iza17) (nza18) (nza19) (iza20) (iza21) (iza22) (nza23) (iza24) (iza25) (fza26)) [⟨13, tp2, 8, elV tp2 fza4, vf_view rfl _ _⟩, ⟨17, tp2, nza5, elV tp2 fza8, vf_view rfl _ _⟩]))) (.ob (decide (0 <= i64.wrap ((↑nza5 : Int) - 1) /\ i64.wrap ((↑nza5 : Int) - 1) <= (↑nza5 : Int))) (.enter [some (some 17), some (some 0)] (S57.L5 (0) ((↑(i64.wrap ((↑nza5 : Int) - 1)).toNat : Int)) ((i64.wrap ((↑nza5 : Int) - 1)).toNat) (decide (2 < (↑(i64.wrap ((↑nza5 : Int) - 1)).toNat : Int))) (nza5) (elV tp2 fza8)) [⟨0, tp2, nza5, elV tp2 fza8, vf_view rfl _ _⟩]))
 | .L27 izb0 izb1 nzb2 izb3 fzb4 nzb5 izb6 izb7 nzb8 fzb9 izb10 izb11 izb12 nzb13 fzb14 nzb15 nzb16 fzb17 izb18 nzb19 nzb20 izb21 izb22 izb23 nzb24 izb25 izb26 fzb27 => .obi (.obi (.obi (.obi (.obj (decide (i64.wrap (izb3 + 1) < (↑nzb5 : Int))) (decide (0 <= i64.wrap ((↑nzb5 : Int) - 2) /\ i64.wrap ((↑nzb5 : Int) - 2) < (↑nzb5 : Int) /\ nzb5 <= nzb8)) (.obi (.obj (decide (i64.wrap (izb3 + 1) < (↑nzb5 : Int))) (decide ((i64.wrap ((↑nzb5 : Int) - 2)).toNat < nzb8)) (.obi (.obi (.obi (.obi (.obj (decide (i64.wrap (izb3 + 1) < (↑nzb5 : Int))) (decide (0 <= i64.wrap ((↑nzb5 : Int) - 1) /\ i64.wrap ((↑nzb5 : Int) - 1) < (↑nzb5 : Int) /\ nzb5 <= nzb8)) (.obi (.obj (decide (i64.wrap (izb3 + 1) < (↑nzb5 : Int))) (decide ((i64.wrap ((↑nzb5 : Int) - 1)).toNat < nzb8)) (.obi (.obi (.br (decide (i64.wrap (izb3 + 1) < (↑nzb5 : Int))) (.ob (decide (i64.wrap (izb3 + 1) < (↑nzb5 : Int))) (.ob (decide (i64.wrap (izb3 + 1) < (↑nzb5 : Int))) (.obc (.obt (.br (decide (F78_0 (jv0 (fzb9 (i64.wrap ((↑nzb5 : Int) - 2)).toNat)) (jv1 (fzb9 (i64.wrap ((↑nzb5 : Int) - 2)).toNat)) (jv0 (fzb9 (i64.wrap ((↑nzb5 : Int) - 1)).toNat)) (jv1 (fzb9 (i64.wrap ((↑nzb5 : Int) - 1)).toNat)) izb6 izb7 <= 0)) (.ob (decide (0 <= i64.wrap ((↑nzb5 : Int) - 1) /\ i64.wrap ((↑nzb5 : Int) - 1) <= (↑nzb5 : Int))) (.next (iR 0 18 []) (S57.L27 (izb0) (izb1) (nzb2) (izb3) (elV tp2 fzb4) ((i64.wrap ((↑nzb5 : Int) - 1)).toNat) (izb6) (izb7) (nzb8) (elV tp2 fzb9) (izb10) (izb11) (izb12) (nzb13) (fzb14) (nzb15) (nzb16) (fzb17) (izb18) (nzb19) (nzb20) (izb21) (izb22) (izb23) (nzb24) (izb25) (izb26) (fzb27)) [⟨13, tp2, 8, elV tp2 fzb4, vf_view rfl _ _⟩, ⟨17, tp2, nzb8, elV tp2 fzb9, vf_view rfl _ _⟩])) (.obt (.ob (decide (nzb5 <= nzb8 /\ (nzb5 + 1) * 16 <= 140737488355328) && !Nat.beq 16 0) (.next (iR 0 17 [some (some 19)]) (S57.L26 (i64.wrap (izb0 + 1)) (izb1) (nzb2) (izb3) (elV tp2 fzb4) (nzb5 + 1) (izb6) (izb7) (joinF nzb5 (elV tp2 fzb9) fun x => [vi izb6, vi izb7]) (izb10) (izb11) (izb12) (nzb13) (fzb14) (nzb15) (nzb16) (fzb17) (izb18) (nzb19) (nzb20) (izb21) (izb22) (izb23) (nzb24) (izb25) (izb26) (fzb27)) [⟨13, tp2, 8, elV tp2 fzb4, vf_view rfl _ _⟩, ⟨17, tp2, nzb5 + 1, joinF nzb5 (elV tp2 fzb9) fun x => [vi izb6, vi izb7], vf_join (vf_view rfl _ _) (vf_const rfl _ rfl)⟩])))))))) (.obt (.ob (decide (nzb5 <= nzb8 /\ (nzb5 + 1) * 16 <= 140737488355328) && !Nat.beq 16 0) (.next (iR 0 17 [some (some 19)]) (S57.L26 (i64.wrap (izb0 + 1)) (izb1) (nzb2) (izb3) (elV tp2 fzb4) (nzb5 + 1) (izb6) (izb7) (joinF nzb5 (elV tp2 fzb9) fun x => [vi izb6, vi izb7]) (izb10) (izb11) (izb12) (nzb13) (fzb14) (nzb15) (nzb16) (fzb17) (izb18) (nzb19) (nzb20) (izb21) (izb22) (izb23) (nzb24) (izb25) (izb26) (fzb27)) [⟨13, tp2, 8, elV tp2 fzb4, vf_view rfl _ _⟩, ⟨17, tp2, nzb5 + 1, joinF nzb5 (elV tp2 fzb9) fun x => [vi izb6, vi izb7], vf_join (vf_view rfl _ _) (vf_const rfl _ rfl)⟩])))))))))))))))))))
def m57 (x0 x1 x2 x3 x4 x5 x6 x7 : Int) (b8 : Bool) (x9 x10 x11 x12 : Int) : RT S57 := .br (b8) (.ret (V.kb false)) (.obc (.obt (.brt (.obt (.obc (.obt (.obc (.obt (.obt (.obt (.brt (.obt (.obc (.obt (.obc (.obt (.obt (.obt (.brt (.obt (.obc (.obt (.obc (.obt (.obt (.obt (.brt (.obt (.obc (.obt (.obc (.obt (.obt (.obt (.brf (.obc (.obt (.brt (.enter (iR 0 14 []) (S57.L0 (i64.wrap (0 + 1)) (joinF 6 (joinF 4 (joinF 2 (fun i => List.take 2 (List.drop (i * 2) [vi (F102_0 x0 x2 x9 x3), vi (F102_1 x1 x2 x10 x3), vi (F102_0 x0 x2 x9 x4), vi (F102_1 x1 x2 x10 x4)])) fun i => List.take 2 (List.drop (i * 2) [vi (F102_0 x0 x2 x11 x3), vi (F102_1 x1 x2 x10 x3), vi (F102_0 x0 x2 x11 x4), vi (F102_1 x1 x2 x10 x4)])) fun i => List.take 2 (List.drop (i * 2) [vi (F102_0 x0 x2 x11 x3), vi (F102_1 x1 x2 x12 x3), vi (F102_0 x0 x2 x11 x4), vi (F102_1 x1 x2 x12 x4)])) fun i => List.take 2 (List.drop (i * 2) [vi (F102_0 x0 x2 x9 x3), vi (F102_1 x1 x2 x12 x3), vi (F102_0 x0 x2 x9 x4), vi (F102_1 x1 x2 x12 x4)]))) [⟨13, tp2, 8, joinF 6 (joinF 4 (joinF 2 (fun i => List.take 2 (List.drop (i * 2) [vi (F102_0 x0 x2 x9 x3), vi (F102_1 x1 x2 x10 x3), vi (F102_0 x0 x2 x9 x4), vi (F102_1 x1 x2 x10 x4)])) fun i => List.take 2 (List.drop (i * 2) [vi (F102_0 x0 x2 x11 x3), vi (F102_1 x1 x2 x10 x3), vi (F102_0 x0 x2 x11 x4), vi (F102_1 x1 x2 x10 x4)])) fun i => List.take 2 (List.drop (i * 2) [vi (F102_0 x0 x2 x11 x3), vi (F102_1 x1 x2 x12 x3), vi (F102_0 x0 x2 x11 x4), vi (F102_1 x1 x2 x12 x4)])) fun i => List.take 2 (List.drop (i * 2) [vi (F102_0 x0 x2 x9 x3), vi (F102_1 x1 x2 x12 x3), vi (F102_0 x0 x2 x9 x4), vi (F102_1 x1 x2 x12 x4)]), vf_all rfl rfl⟩])))))))))))))))))))))))))))))))))))))))
theorem run57 (x0 x1 x2 x3 x4 x5 x6 x7 : Int) (b8 : Bool) (x9 x10 x11 x12 : Int) : Fits ctB29 u57 (D57 x0 x1 x2 x3 x4 x5 x6 x7 b8 x9 x10 x11 x12) (rl57 x0 x1 x2 x3 x4 x5 x6 x7 b8 x9 x10 x11 x12) (m57 x0 x1 x2 x3 x4 x5 x6 x7 b8 x9 x10 x11 x12) (st57 x0 x1 x2 x3 x4 x5 x6 x7 b8 x9 x10 x11 x12) := ⟨⟨by kernel_rfl, by kernel_rfl⟩, fun s => by cases s <;> exact ⟨by kernel_rfl, by kernel_rfl⟩⟩
attribute [local irreducible] F103_0 F78_0 F140_0
def pl57 (x0 x1 x2 x3 x4 x9 x10 x11 x12 : Int) : List P2 := [(F102_0 x0 x2 x9 x3, F102_1 x1 x2 x10 x3), (F102_0 x0 x2 x9 x4, F102_1 x1 x2 x10 x4), (F102_0 x0 x2 x11 x3, F102_1 x1 x2 x10 x3), (F102_0 x0 x2 x11 x4, F102_1 x1 x2 x10 x4), (F102_0 x0 x2 x11 x3, F102_1 x1 x2 x12 x3), (F102_0 x0 x2 x11 x4, F102_1 x1 x2 x12 x4), (F102_0 x0 x2 x9 x3, F102_1 x1 x2 x12 x3), (F102_0 x0 x2 x9 x4, F102_1 x1 x2 x12 x4)]
def F57 (x0 x1 x2 x3 x4 x5 x6 x7 : Int) (b8 : Bool) (x9 x10 x11 x12 : Int) : Bool := !b8 && refB (pl57 x0 x1 x2 x3 x4 x9 x10 x11 x12) (x5, x6) x7
def In57 (x0 x1 x2 x3 x4 x5 x6 x7 x9 x10 x11 x12 : Int) : Prop := (-100000 <= x0 /\ x0 <= 100000) /\ (-100000 <= x1 /\ x1 <= 100000) /\ (0 <= x2 /\ x2 <= 200) /\ (0 <= x3 /\ x3 <= 200) /\ (0 <= x4 /\ x4 <= 200) /\ sm x5 /\ sm x6 /\ (0 <= x7 /\ x7 <= 1073741824) /\ (-100000 <= x9 /\ x9 <= 100000) /\ (-100000 <= x10 /\ x10 <= 100000) /\ (-100000 <= x11 /\ x11 <= 100000) /\ (-100000 <= x12 /\ x12 <= 100000)
theorem atS {l h n x : Int} (hl : -100000 <= l /\ l <= 100000) (hh : 0 <= h /\ h <= 200) (hn : 0 <= n /\ n <= 200) (hx : -100000 <= x /\ x <= 100000) : F102_0 l h x n = h * l + n * (x - l) /\ F102_1 l h x n = h * l + n * (x - l) /\ sm (h * l + n * (x - l)) := by
 have k1 := mulS (x := h) (y := l) (A := 200) (B := 100000) (by omega) (by omega) (by omega) (by omega)
 have k2 := mulS (x := n) (y := x - l) (A := 200) (B := 200000) (by omega) (by omega) (by omega) (by omega)
 unfold F102_0 F102_1 F84_0 F84_1
 rw [wrapI (x := x - l) (by omega) (by omega), wrapI (x := h * l) (by omega) (by omega), wrapI (x := n * (x - l)) (by omega) (by omega), wrapI (x := h * l + n * (x - l)) (by omega) (by omega)]
 exact ⟨rfl, rfl, by unfold sm; omega⟩
theorem pl57_sm {x0 x1 x2 x3 x4 x5 x6 x7 x9 x10 x11 x12 : Int} (h : In57 x0 x1 x2 x3 x4 x5 x6 x7 x9 x10 x11 x12) : ∀ q ∈ pl57 x0 x1 x2 x3 x4 x9 x10 x11 x12, SmP q := by
 obtain ⟨h0, h1, h2, h3, h4, h5, h6, h7, h9, h10, h11, h12⟩ := h
 have k : ∀ a b n : Int, (-100000 <= a /\ a <= 100000) -> (-100000 <= b /\ b <= 100000) -> (0 <= n /\ n <= 200) -> SmP (F102_0 x0 x2 a n, F102_1 x1 x2 b n) := fun a b n ha hb hn => by
  have e1 := atS h0 h2 hn ha
  have e2 := atS h1 h2 hn hb
  exact ⟨by show sm (F102_0 x0 x2 a n); rw [e1.1]; exact e1.2.2, by show sm (F102_1 x1 x2 b n); rw [e2.2.1]; exact e2.2.2⟩
 intro q hq
 simp only [pl57, List.mem_cons, List.not_mem_nil, or_false] at hq
 rcases hq with rfl | rfl | rfl | rfl | rfl | rfl | rfl | rfl
 ·exact k _ _ _ h9 h10 h3
 ·exact k _ _ _ h9 h10 h4
 ·exact k _ _ _ h11 h10 h3
 ·exact k _ _ _ h11 h10 h4
 ·exact k _ _ _ h11 h12 h3
 ·exact k _ _ _ h11 h12 h4
 ·exact k _ _ _ h9 h12 h3
 ·exact k _ _ _ h9 h12 h4
theorem fin57 (x0 x1 x2 x3 x4 x5 x6 x7 : Int) (b8 : Bool) (x9 x10 x11 x12 : Int) (hm : SmP (x5, x6)) (h7 : 0 <= x7) (h8 : x7 <= 1073741824) {n cap : Nat} {fo : (Nat -> List V)} (hc : n <= cap) (hC : cap <= 100) (h1 : 1 <= n) (hs : ∀ k, k < n -> SmP (pq fo k)) :
 Ev (st57 x0 x1 x2 x3 x4 x5 x6 x7 b8 x9 x10 x11 x12) (.L5 0 (n : Int) n (decide (2 < (n : Int))) cap fo) (.bool (tpB (ptL n fo) (x5, x6) x7)) := by
 have key : ∀ i, i <= n -> ∀ (b : Bool) (g : (Nat -> List V)), (∀ k, pq g k = pq fo k) -> (b = true ↔ 2 < n /\ ∀ k, k < i -> 0 < sdp (pq fo k) (pq fo ((k + 1) % n)) (x5, x6)) -> (∀ k, k < i -> nrp (pq fo k) (pq fo ((k + 1) % n)) (x5, x6) x7 = false) -> Ev (st57 x0 x1 x2 x3 x4 x5 x6 x7 b8 x9 x10 x11 x12) (.L5 (i : Int) (n : Int) n b cap g) (.bool (tpB (ptL n fo) (x5, x6) x7)) := by
  refine up_ind fun i hi ih b g hg hb hN => ?_
  by_cases hlt : i < n
  ·have hmod : (i + 1) % n < n := Nat.mod_lt _ (by omega)
   have e : (i64.wrap ((i : Int) + 1)).tmod (n : Int) = (((i + 1) % n : Nat) : Int) := by
    rw [wp1 (by omega)]; exact (Int.ofNat_tmod _ _).symm
   have n1 : F103_0 (pq g i).1 (pq g i).2 (pq g ((i + 1) % n)).1 (pq g ((i + 1) % n)).2 x5 x6 x7 = nrp (pq fo i) (pq fo ((i + 1) % n)) (x5, x6) x7 := by
    rw [hg, hg]; exact nrT (a := pq fo i) (b := pq fo ((i + 1) % n)) (p := (x5, x6)) (hs i hlt) (hs _ hmod) hm h7 h8
   have n2 : F78_0 (pq g i).1 (pq g i).2 (pq g ((i + 1) % n)).1 (pq g ((i + 1) % n)).2 x5 x6 = sdp (pq fo i) (pq fo ((i + 1) % n)) (x5, x6) := by
    rw [hg, hg]; exact sdT (a := pq fo i) (b := pq fo ((i + 1) % n)) (p := (x5, x6)) (hs i hlt) (hs _ hmod) hm
   refine Ev.of rfl (evBrT (dqt (by omega)) (evOb (dqt (by omega)) (evOb (dqt (by omega)) (evOb (dqt (by omega)) (evOb (dqt (by rw [e]; omega)) (evOb (dqt (by rw [e]; omega)) (evObc (evObt ?_))))))))
   have hstep : ∀ b', (b' = true ↔ b = true /\ 0 < sdp (pq fo i) (pq fo ((i + 1) % n)) (x5, x6)) -> nrp (pq fo i) (pq fo ((i + 1) % n)) (x5, x6) x7 = false -> Ev (st57 x0 x1 x2 x3 x4 x5 x6 x7 b8 x9 x10 x11 x12) (.L5 (i64.wrap ((i : Int) + 1)) (n : Int) n b' cap (elV ty2 g)) (.bool (tpB (ptL n fo) (x5, x6) x7)) := fun b' hb' hn => by
    rw [wp1 (by omega)]
    refine ih hlt b' _ (fun k => hg k) ?_ ?_
    ·rw [hb', hb]
     constructor
     ·rintro ⟨⟨q1, q2⟩, q3⟩
      refine ⟨q1, fun k hk => ?_⟩
      by_cases ek : k = i
      ·rw [ek]; exact q3
      ·exact q2 k (by omega)
     ·rintro ⟨q1, q2⟩
      exact ⟨⟨q1, fun k hk => q2 k (by omega)⟩, q2 i (by omega)⟩
    ·intro k hk
     by_cases ek : k = i
     ·rw [ek]; exact hn
     ·exact hN k (by omega)
   have e' : ((i64.wrap ((i : Int) + 1)).tmod (n : Int)).toNat = (i + 1) % n := by rw [e]; rfl
   refine evBr (fun hx => evRet ?_) (fun hx => evObi (evBr (fun hb0 => evOb hb0 (evOb hb0 (evObc (evObt (evNext ?_))))) (fun hb0 => evNext ?_)))
   ·rw [e'] at hx
    have hx : nrp (pq fo i) (pq fo ((i + 1) % n)) (x5, x6) x7 = true := n1.symm.trans hx
    rw [tpB_t (.inl ⟨i, by rw [ptL_len]; exact hlt, by rw [ptL_len, ptL_pAt hlt, ptL_pAt hmod]; exact hx⟩)]; rfl
   ·rw [e'] at hx ⊢
    refine hstep _ ?_ (n1.symm.trans hx)
    rw [decide_eq_true_eq]
    have n2' : F78_0 (jv0 (g (i : Int).toNat)) (jv1 (g (i : Int).toNat)) (jv0 (g ((i + 1) % n))) (jv1 (g ((i + 1) % n))) x5 x6 = _ := n2
    rw [n2']
    exact ⟨fun q => ⟨hb0, q⟩, fun q => q.2⟩
   ·rw [e'] at hx
    refine hstep _ ?_ (n1.symm.trans hx)
    rw [hb0]
    exact ⟨(fun q => by cases q), fun q => q.1⟩
  ·have ei : i = n := by omega
   subst ei
   refine Ev.of rfl (evBrF (dqf (by omega)) (evRet ?_))
   have : b = tpB (ptL i fo) (x5, x6) x7 := by
    cases hb' : b with
    | true =>
      have := hb.1 hb'
      refine (tpB_t (.inr ⟨by rw [ptL_len]; exact this.1, fun k hk => ?_⟩)).symm
      rw [ptL_len] at hk ⊢
      rw [ptL_pAt hk, ptL_pAt (Nat.mod_lt _ (by omega))]
      exact this.2 k hk
    | false =>
      refine (tpB_f ?_).symm
      rintro (⟨k, hk, h⟩ | ⟨q1, q2⟩)
      ·rw [ptL_len] at hk h
       rw [ptL_pAt hk, ptL_pAt (Nat.mod_lt _ (by omega)), hN k hk] at h; cases h
      ·rw [ptL_len] at q1 q2
       have := hb.2 ⟨q1, fun k hk => by
        have := q2 k hk
        rwa [ptL_pAt hk, ptL_pAt (Nat.mod_lt _ (by omega))] at this⟩
       rw [hb'] at this; cases this
   rw [this]
 exact key 0 (Nat.zero_le _) _ fo (fun _ => rfl) ⟨fun h => ⟨by have := of_decide_eq_true h; omega, fun k hk => by omega⟩, fun h => dqt (by omega)⟩ (fun k hk => by omega)
theorem srt57 (x0 x1 x2 x3 x4 x5 x6 x7 : Int) (b8 : Bool) (x9 x10 x11 x12 : Int) {r : V} {D : P2 -> Prop} (hD : ∀ q, D q -> SmP q) (h2 : ∀ f j g, Srt 8 f -> MemN 8 D f -> Ev (st57 x0 x1 x2 x3 x4 x5 x6 x7 b8 x9 x10 x11 x12) (.L2 1 f j g) r) {f : (Nat -> List V)} (hf : MemN 8 D f) : Ev (st57 x0 x1 x2 x3 x4 x5 x6 x7 b8 x9 x10 x11 x12) (.L0 1 f) r := by
 refine sort_ind (N := 8) (D := D) (P0 := fun i f => Ev (st57 x0 x1 x2 x3 x4 x5 x6 x7 b8 x9 x10 x11 x12) (.L0 (i : Int) f) r) (P1 := fun j i f => Ev (st57 x0 x1 x2 x3 x4 x5 x6 x7 b8 x9 x10 x11 x12) (.L1 (j : Int) (i : Int) f) r) ?_ ?_ ?_ ?_ 7 1 f rfl (Nat.le_refl _) (fun a b h1 h2 => by omega) hf
 ·intro i f h1 h2 h
  exact Ev.of rfl (evBrT (dqt (by omega)) (evEnter h))
 ·intro f hs hm
  exact Ev.of rfl (evBrF (dqf (by omega)) (evBrf (evEnter (h2 _ _ _ hs hm))))
 ·intro j i f h0 hji hi hm hlt h
  have e := wm1 h0 (by omega)
  have hC : decide (0 < (j : Int)) = true := dqt (by omega)
  have hlt' := (cmpT (hD _ ((hm _).2 ⟨j, by omega, rfl⟩)) (hD _ ((hm _).2 ⟨j - 1, by omega, rfl⟩))).2 hlt
  refine Ev.of rfl (evObi (evObi (evObj (fun _ => dqt (by first | omega | (rw [e]; omega))) (evObi (evObj (fun _ => dqt (by first | omega | (rw [e]; omega))) (evObi (evObi (evObi (evObj (fun _ => dqt (by first | omega | (rw [e]; omega))) (evObi (evObj (fun _ => dqt (by first | omega | (rw [e]; omega))) (evBrT hC (evOb hC (evOb hC (evOb hC (evObc (evObt (evBrT ?_
   (evOb (dqt (by first | omega | (rw [e]; omega))) (evOb (dqt (by first | omega | (rw [e]; omega))) (evOb (dqt (by first | omega | (rw [e]; omega))) (evOb (dqt (by first | omega | (rw [e]; omega))) (evOb (dqt (by first | omega | (rw [e]; omega))) (evOb (dqt (by first | omega | (rw [e]; omega))) (evOb (dqt (by first | omega | (rw [e]; omega))) (evOb (dqt (by first | omega | (rw [e]; omega))) (evNext ?_)))))))))))))))))))))))))))
  ·rw [e]; exact hlt'
  ·rw [e]; exact h
 ·intro j i f hji hi hm hn h
  have h' : Ev (st57 x0 x1 x2 x3 x4 x5 x6 x7 b8 x9 x10 x11 x12) (.L0 (i64.wrap ((i : Int) + 1)) (elV ty2 f)) r := by rw [wp1 (by omega)]; exact h
  by_cases h0 : 0 < j
  ·have e := wm1 h0 (by omega)
   have hC : decide (0 < (j : Int)) = true := dqt (by omega)
   have hlt' := fun hh => hn h0 ((cmpT (hD _ ((hm _).2 ⟨j, by omega, rfl⟩)) (hD _ ((hm _).2 ⟨j - 1, by omega, rfl⟩))).1 hh)
   refine Ev.of rfl (evObi (evObi (evObj (fun _ => dqt (by first | omega | (rw [e]; omega))) (evObi (evObj (fun _ => dqt (by first | omega | (rw [e]; omega))) (evObi (evObi (evObi (evObj (fun _ => dqt (by first | omega | (rw [e]; omega))) (evObi (evObj (fun _ => dqt (by first | omega | (rw [e]; omega))) (evBrT hC (evOb hC (evOb hC (evOb hC (evObc (evObt (evBrF ?_ (evNext h')))))))))))))))))))
   rw [e]; exact Bool.eq_false_iff.2 hlt'
  ·have hC : decide (0 < (j : Int)) = false := dqf (by omega)
   have hx : ∀ {b : Bool}, decide (0 < (j : Int)) = true -> b = true := fun hh => by rw [hC] at hh; cases hh
   exact Ev.of rfl (evObi (evObi (evObj hx (evObi (evObj hx (evObi (evObi (evObi (evObj hx (evObi (evObj hx (evBrF hC (evNext h')))))))))))))
theorem cmp57 (x0 x1 x2 x3 x4 x5 x6 x7 : Int) (b8 : Bool) (x9 x10 x11 x12 : Int) {r : V} {D : P2 -> Prop} (h4 : ∀ f j g, SSr 8 f -> MemN 8 D f -> Ev (st57 x0 x1 x2 x3 x4 x5 x6 x7 b8 x9 x10 x11 x12) (.L4 0 f 0 (fun _ => []) j g) r) (h5 : ∀ m f, 1 <= m -> m < 3 -> SSr m f -> MemN m D f -> Ev (st57 x0 x1 x2 x3 x4 x5 x6 x7 b8 x9 x10 x11 x12) (.L5 0 (m : Int) m (decide (2 < (m : Int))) 8 f) r)
 (h12 : ∀ m f i n1 n2 i1 i2 i3 n3 i4 g, 3 <= m -> m < 8 -> SSr m f -> MemN m D f -> Ev (st57 x0 x1 x2 x3 x4 x5 x6 x7 b8 x9 x10 x11 x12) (.L12 0 (m : Int) m f 0 (fun _ => []) i n1 n2 i1 i2 i3 n3 i4 (m : Int) g) r) {f : (Nat -> List V)} (j : Int) (g : (Nat -> List V)) (hs : Srt 8 f) (hf : MemN 8 D f) : Ev (st57 x0 x1 x2 x3 x4 x5 x6 x7 b8 x9 x10 x11 x12) (.L2 1 f j g) r := by
 refine comp_ind (N := 8) (D := D) (P2' := fun i f => ∀ j g, Ev (st57 x0 x1 x2 x3 x4 x5 x6 x7 b8 x9 x10 x11 x12) (.L2 (i : Int) f j g) r) (P3 := fun k off m f => ∀ i1 i2 i3 n i4 i5 g, Ev (st57 x0 x1 x2 x3 x4 x5 x6 x7 b8 x9 x10 x11 x12) (.L3 (k : Int) off (8 - off) i1 i2 i3 n i4 (m : Int) f i5 g) r) ?_ ?_ ?_ ?_ ?_ ?_ 7 1 f rfl (Nat.le_refl _) hs (fun a b h1 h2 => by omega) hf j g
 ·intro f hs hm j g
  exact Ev.of rfl (evBrF (dqf (by omega)) (evBrf (evEnter (h4 _ _ _ hs hm))))
 ·intro i f h1 h8 hne h j g
  have e := wm1 (show 0 < i by omega) (by omega)
  refine Ev.of rfl (evBrT (dqt (by omega)) (evOb (dqt (by first | omega | (rw [e]; omega))) (evOb (dqt (by first | omega | (rw [e]; omega))) (evOb (dqt (by first | omega | (rw [e]; omega))) (evOb (dqt (by first | omega | (rw [e]; omega))) (evBrF ?_ (evNext ?_)))))))
  ·rw [e]; exact (eqB _ _ _ _).trans (dqf hne)
  ·rw [wp1 (by omega)]; exact h j g
 ·intro i f h1 h8 he h j g
  have e := wm1 (show 0 < i by omega) (by omega)
  refine Ev.of rfl (evBrT (dqt (by omega)) (evOb (dqt (by first | omega | (rw [e]; omega))) (evOb (dqt (by first | omega | (rw [e]; omega))) (evOb (dqt (by first | omega | (rw [e]; omega))) (evOb (dqt (by first | omega | (rw [e]; omega))) (evBrT ?_ (evOb (dqt (by omega)) (evEnter (h _ _ _ _ _ _ _)))))))))
  rw [e]; exact (eqB _ _ _ _).trans (dqt he)
 ·intro k off m f h1 hN hm hmk hne h i1 i2 i3 n i4 i5 g
  have e := wm1 (show 0 < k by omega) (by omega)
  refine Ev.of rfl (evBrT (dqt (by omega)) (evOb (dqt (by first | omega | (rw [e]; omega))) (evOb (dqt (by first | omega | (rw [e]; omega))) (evOb (dqt (by first | omega | (rw [e]; omega))) (evOb (dqt (by first | omega | (rw [e]; omega))) (evBrT ?_ (evOb (dqt (by first | omega | (rw [e]; omega))) (evOb (dqt (by first | omega | (rw [e]; omega))) (evOb (dqt (by first | omega | (rw [e]; omega))) (evOb (dqt (by first | omega | (rw [e]; omega))) (evNext ?_)))))))))))
  ·rw [e]; exact ntT ((eqB _ _ _ _).trans (dqf hne))
  ·rw [wp1 (j := k) (by omega), wp1 (j := m) (by omega)]; exact h _ _ _ _ _ _ _
 ·intro k off m f h1 hN hm hmk he h i1 i2 i3 n i4 i5 g
  have e := wm1 (show 0 < k by omega) (by omega)
  refine Ev.of rfl (evBrT (dqt (by omega)) (evOb (dqt (by first | omega | (rw [e]; omega))) (evOb (dqt (by first | omega | (rw [e]; omega))) (evOb (dqt (by first | omega | (rw [e]; omega))) (evOb (dqt (by first | omega | (rw [e]; omega))) (evBrF ?_ (evNext ?_)))))))
  ·rw [e]; exact ntF ((eqB _ _ _ _).trans (dqt he))
  ·rw [wp1 (j := k) (by omega)]; exact h _ _ _ _ _ _ _
 ·intro off m f hoff hm1 hmN hs hm i1 i2 i3 n i4 i5 g
  refine Ev.of rfl (evBrF (dqf (by omega)) (evOb (dqt (by omega)) (evOb (dqt (by omega)) (evOb (dqt (by omega)) (evBr (fun hh => evEnter ?_) (fun hh => evEnter ?_))))))
  ·have := of_decide_eq_true hh
   exact h5 m _ hm1 (by omega) (hs.cong fun k hk => pq_clr hk) (hm.cong fun k hk => pq_clr hk)
  ·have := of_decide_eq_false hh
   exact h12 m _ _ _ _ _ _ _ _ _ _ (by omega) hmN (hs.cong fun k hk => pq_clr hk) (hm.cong fun k hk => pq_clr hk)
theorem pmem {c : List P2} {i : Nat} (h : i < c.length) : pAt c i ∈ c := by
 have := pAt_some h
 exact List.mem_of_getElem? this
theorem sdX {fo : Nat -> List V} {p : P2} {n : Nat} {s : Int} (w1 : i64.wrap ((n : Int) - 1) = ((n - 1 : Nat) : Int)) (w2 : i64.wrap ((n : Int) - 2) = ((n - 2 : Nat) : Int)) (e : F78_0 (pq fo (n - 2)).1 (pq fo (n - 2)).2 (pq fo (n - 1)).1 (pq fo (n - 1)).2 p.1 p.2 = s) :
 decide (F78_0 (jv0 (fo (i64.wrap ((n : Int) - 2)).toNat)) (jv1 (fo (i64.wrap ((n : Int) - 2)).toNat)) (jv0 (fo (i64.wrap ((n : Int) - 1)).toNat)) (jv1 (fo (i64.wrap ((n : Int) - 1)).toNat)) p.1 p.2 <= 0) = decide (s <= 0) := by
 rw [w1, w2, ← e]; rfl
theorem secA (x0 x1 x2 x3 x4 x5 x6 x7 : Int) (b8 : Bool) (x9 x10 x11 x12 : Int) {r : V} {c : List P2} {bl : Nat} {base : List P2} {f : (Nat -> List V)} (hf : ptL 8 f = c) (hsm : ∀ q ∈ c, SmP q) (hb : ∀ q ∈ base, SmP q) (hbl : base.length = bl) (hb8 : bl <= 8)
 (h5 : ∀ n fo cap, n <= cap -> cap <= 100 -> ptL n fo = base ++ (chainS [] c).tail.reverse -> n = base.length + (chainS [] c).tail.length -> Ev (st57 x0 x1 x2 x3 x4 x5 x6 x7 b8 x9 x10 x11 x12) (.L5 0 (n : Int) n (decide (2 < (n : Int))) cap fo) r)
 {cap : Nat} {fo : (Nat -> List V)} (hc : bl <= cap) (hcM : cap <= 50) (hfo : ptL bl fo = base) (i5 : Int) (i6 : Int) (f7 : (Nat -> List V)) (f8 : (Nat -> List V)) (i9 : Int) (f10 : (Nat -> List V)) : Ev (st57 x0 x1 x2 x3 x4 x5 x6 x7 b8 x9 x10 x11 x12) (.L18 (bl : Int) f bl cap fo i5 i6 f7 f8 i9 f10) r := by
 have hcl : c.length = 8 := by rw [← hf, ptL_len]
 have ew := wp1 (j := bl) (by omega)
 have e0 : i64.wrap (0 + 1) = ((1 : Nat) : Int) := by rw [wrapI (by omega) (by omega)]; rfl
 have at' : ∀ (g : (Nat -> List V)), (∀ k, k < 8 -> pq g k = pq f k) -> ∀ i, i < 8 -> pAt c i = pq g i := fun g hg i hi => by rw [hg i hi, ← hf]; exact ptL_pAt hi
 have key := chain_ind (base := base) (c := c) (M := bl + 8) (by omega)
  (PO := fun i n fo => ∀ (g : (Nat -> List V)) (ix : Int) (iy : Int) (i7 : Int) (i8 : Int) (f9 : (Nat -> List V)) (n10 : Nat) (n11 : Nat) (f12 : (Nat -> List V)) (i13 : Int) (f14 : (Nat -> List V)), (∀ k, k < 8 -> pq g k = pq f k) -> Ev (st57 x0 x1 x2 x3 x4 x5 x6 x7 b8 x9 x10 x11 x12) (.L22 (i : Int) (bl : Int) g n ix iy fo i7 i8 f9 n10 n11 f12 i13 f14) r)
  (PI := fun i n cap fo => ∀ (g : (Nat -> List V)) (i7 : Int) (i8 : Int) (f9 : (Nat -> List V)) (n10 : Nat) (n11 : Nat) (f12 : (Nat -> List V)) (i13 : Int) (f14 : (Nat -> List V)), (∀ k, k < 8 -> pq g k = pq f k) -> Ev (st57 x0 x1 x2 x3 x4 x5 x6 x7 b8 x9 x10 x11 x12) (.L23 (i : Int) (bl : Int) g n (pAt c i).1 (pAt c i).2 cap fo i7 i8 f9 n10 n11 f12 i13 f14) r) ?_ ?_ ?_ ?_
 ·-- the first round
  obtain ⟨p, l, ec⟩ : ∃ p l, c = p :: l := by
   cases c with
   | nil => simp at hcl
   | cons p l => exact ⟨p, l, rfl⟩
  have hp : pq f 0 = p := by
   have := at' f (fun _ _ => rfl) 0 (by omega)
   rw [← this, ec]; rfl
  subst hp
  have k1 := key l [pq f 0] [pq f 0] (bl + 1) (joinF bl (elV ty2 fo) fun _ => pv2 (pq f 0)) (by rw [ec]; rfl) (by rw [ec]; rfl) (by rw [ptL_snoc, hfo]; rfl) (Nat.le_refl _) (fun q hq => by rw [ec]; simp at hq; simp [hq])
  have T0 : ∀ (i7 : Int) (i8 : Int) (f9 : (Nat -> List V)) (n10 : Nat) (f11 : (Nat -> List V)) (i12 : Int) (f13 : (Nat -> List V)), Ev (st57 x0 x1 x2 x3 x4 x5 x6 x7 b8 x9 x10 x11 x12) (.L20 (bl : Int) (elV ty2 f) bl cap (elV ty2 fo) (pq f 0).1 (pq f 0).2 i7 i8 f9 n10 f11 i12 f13) r := by
   intro i7 i8 f9 n10 f11 i12 f13
   have hC : decide (i64.wrap ((bl : Int) + 1) < (bl : Int)) = false := dqf (by rw [ew]; omega)
   have hx : ∀ {P : Prop}, decide (i64.wrap ((bl : Int) + 1) < (bl : Int)) = true -> P := fun hh => by rw [hC] at hh; cases hh
   refine Ev.of rfl (inStep hx hx hx fun _ => evObt (evOb (app_ok hc (by omega)) (evNext ?_)))
   rw [e0]
   exact k1 (elV ty2 f) _ _ _ _ _ _ _ _ _ _ (fun k hk => rfl)
  exact Ev.of rfl (evBrt (evObt (evObt (evEnter (T0 _ _ _ _ _ _ _)))))
 ·intro i n fo hi hn h g ix iy i7 i8 f9 n10 n11 f12 i13 f14 hg
  rw [hcl] at hi
  have e := at' g hg i hi
  have h' := h
  rw [e] at h'
  exact Ev.of rfl (evBrT (dqt (by omega)) (evOb (dqt (by omega)) (evOb (dqt (by omega)) (evEnter (h' (elV ty2 g) _ _ _ _ _ _ _ _ (fun k hk => hg k hk))))))
 ·intro i n cap fo hi h1 h2 h3' hel hs h g i7 i8 f9 n10 n11 f12 i13 f14 hg
  have hb2 : bl + 1 < n := by rw [← hbl]; exact h1
  have w1 := wm1 (j := n) (by omega) (by omega)
  have w2 := wm2 (j := n) (by omega) (by omega)
  have sm : ∀ k, k < n -> SmP (pq fo k) := fun k hk => (hel k hk).elim (hb _) (hsm _)
  have e3 := sdT (sm (n - 2) (by omega)) (sm (n - 1) (by omega)) (hsm (pAt c i) (pmem hi))
  have hC : decide (i64.wrap ((bl : Int) + 1) < (n : Int)) = true := dqt (by rw [ew]; omega)
  have hS := sdX (fo := fo) (p := pAt c i) w1 w2 e3
  refine Ev.of rfl (inStep (fun _ => ⟨dqt (by rw [w2]; omega), dqt (by rw [w2]; omega), dqt (by rw [w1]; omega), dqt (by rw [w1]; omega)⟩) (fun _ _ => evOb (dqt (by rw [w1]; omega)) (evNext ?_)) (fun _ hf => by rw [hS, dqt hs] at hf; cases hf) (fun hf => by rw [hC] at hf; cases hf))
  rw [w1]; exact h (elV ty2 g) _ _ _ _ _ _ _ _ (fun k hk => hg k hk)
 ·intro i n cap fo hi h1 hel hs h2 h3' h g i7 i8 f9 n10 n11 f12 i13 f14 hg
  have nx : ∀ (_ : Unit), Ev (st57 x0 x1 x2 x3 x4 x5 x6 x7 b8 x9 x10 x11 x12) (.L22 (i64.wrap ((i : Int) + 1)) (bl : Int) (elV ty2 g) (n + 1) (pAt c i).1 (pAt c i).2 (joinF n (elV ty2 fo) fun _ => pv2 (pAt c i)) i7 i8 f9 n10 n11 f12 i13 f14) r := fun _ => by rw [wp1 (j := i) (by omega)]; exact h (elV ty2 g) _ _ _ _ _ _ _ _ _ _ (fun k hk => hg k hk)
  by_cases hb2 : bl + 1 < n
  ·have w1 := wm1 (j := n) (by omega) (by omega)
   have w2 := wm2 (j := n) (by omega) (by omega)
   have sm : ∀ k, k < n -> SmP (pq fo k) := fun k hk => (hel k hk).elim (hb _) (hsm _)
   have e3 := sdT (sm (n - 2) (by omega)) (sm (n - 1) (by omega)) (hsm (pAt c i) (pmem hi))
   have hC : decide (i64.wrap ((bl : Int) + 1) < (n : Int)) = true := dqt (by rw [ew]; omega)
   have hS := sdX (fo := fo) (p := pAt c i) w1 w2 e3
   have hs' := hs (by first | exact hb2 | (rw [hbl]; exact hb2))
   exact Ev.of rfl (inStep (fun _ => ⟨dqt (by rw [w2]; omega), dqt (by rw [w2]; omega), dqt (by rw [w1]; omega), dqt (by rw [w1]; omega)⟩) (fun _ hf => by rw [hS, dqf (by omega)] at hf; cases hf) (fun _ _ => evObt (evOb (app_ok h2 (by omega)) (evNext (nx ())))) (fun hf => by rw [hC] at hf; cases hf))
  ·have hC : decide (i64.wrap ((bl : Int) + 1) < (n : Int)) = false := dqf (by rw [ew]; omega)
   have hx : ∀ {P : Prop}, decide (i64.wrap ((bl : Int) + 1) < (n : Int)) = true -> P := fun hh => by rw [hC] at hh; cases hh
   exact Ev.of rfl (inStep hx hx hx fun _ => evObt (evOb (app_ok h2 (by omega)) (evNext (nx ()))))
 ·intro n fo hpt g ix iy i7 i8 f9 n10 n11 f12 i13 f14 hg
  rw [hcl]
  obtain ⟨q1, q2, q3, q4⟩ := ptL_last hpt (chainS_ne (.inr (by intro h; rw [h] at hcl; simp at hcl)))
  have w1 := wm1 (j := n) q1 (by have := chainS_len (l := c) (st := []); simp only [List.length_nil] at this; omega)
  have hl := chainS_len (l := c) (st := [])
  simp only [List.length_nil] at hl
  have := h5 (n - 1) (elV ty2 fo) n (by omega) (by omega) q2 (by rw [List.length_tail]; omega)
  refine Ev.of rfl (evBrF (dqf (by omega)) (evOb (dqt (by rw [w1]; omega)) (evEnter ?_)))
  rw [w1]; exact this
theorem fstA (x0 x1 x2 x3 x4 x5 x6 x7 : Int) (b8 : Bool) (x9 x10 x11 x12 : Int) {r : V} {f : (Nat -> List V)} (hS : SSr 8 f) (hsm : ∀ q ∈ ptL 8 f, SmP q)
 (h5 : ∀ n fo cap, n <= cap -> cap <= 100 -> ptL n fo = hullL (ptL 8 f) -> n = (hullL (ptL 8 f)).length -> Ev (st57 x0 x1 x2 x3 x4 x5 x6 x7 b8 x9 x10 x11 x12) (.L5 0 (n : Int) n (decide (2 < (n : Int))) cap fo) r) (ia : Int) (fz : (Nat -> List V)) : Ev (st57 x0 x1 x2 x3 x4 x5 x6 x7 b8 x9 x10 x11 x12) (.L4 0 f 0 (fun _ => []) ia fz) r := by
 generalize hc : ptL 8 f = c at *
 have hcl : c.length = 8 := by rw [← hc, ptL_len]
 have e0 : i64.wrap (0 + 1) = ((1 : Nat) : Int) := by rw [wrapI (by omega) (by omega)]; rfl
 have at' : ∀ (g : (Nat -> List V)), (∀ k, k < 8 -> pq g k = pq f k) -> ∀ i, i < 8 -> pAt c i = pq g i := fun g hg i hi => by rw [hg i hi, ← hc]; exact ptL_pAt hi
 have hlA := chainS_len (l := c) (st := [])
 simp only [List.length_nil] at hlA
 have key := chain_ind (base := []) (c := c) (M := 8) (by simp; omega)
  (PO := fun i n fo => ∀ (g : (Nat -> List V)) (ia : Int) (fz : (Nat -> List V)), (∀ k, k < 8 -> pq g k = pq f k) -> Ev (st57 x0 x1 x2 x3 x4 x5 x6 x7 b8 x9 x10 x11 x12) (.L4 (i : Int) g n fo ia fz) r)
  (PI := fun i n cap fo => ∀ (g : (Nat -> List V)) (ia : Int) (fz : (Nat -> List V)), (∀ k, k < 8 -> pq g k = pq f k) -> Ev (st57 x0 x1 x2 x3 x4 x5 x6 x7 b8 x9 x10 x11 x12) (.L7 (i : Int) g n (pAt c i).1 (pAt c i).2 cap fo ia fz) r) ?_ ?_ ?_ ?_
 ·exact key c [] [] 0 (fun _ => []) rfl rfl rfl (Nat.le_refl _) (fun q hq => by cases hq) f ia fz (fun _ _ => rfl)
 ·intro i n fo hi hn h g ia fz hg
  rw [hcl] at hi
  have e := at' g hg i hi
  have h' := h
  rw [e] at h'
  exact Ev.of rfl (evBrT (dqt (by omega)) (evOb (dqt (by omega)) (evOb (dqt (by omega)) (evEnter (h' (elV ty2 g) _ _ (fun k hk => hg k hk))))))
 ·intro i n cap fo hi h1 h2 h3' hel hs h g ia fz hg
  have hb2 : 0 + 1 < n := by simpa using h1
  have w1 := wm1 (j := n) (by omega) (by omega)
  have w2 := wm2 (j := n) (by omega) (by omega)
  have sm : ∀ k, k < n -> SmP (pq fo k) := fun k hk => (hel k hk).elim (fun h => by cases h) (hsm _)
  have e3 := sdT (sm (n - 2) (by omega)) (sm (n - 1) (by omega)) (hsm (pAt c i) (pmem hi))
  have hC : decide (i64.wrap (0 + 1) < (n : Int)) = true := dqt (by rw [e0]; omega)
  have hS := sdX (fo := fo) (p := pAt c i) w1 w2 e3
  refine Ev.of rfl (inStep (fun _ => ⟨dqt (by rw [w2]; omega), dqt (by rw [w2]; omega), dqt (by rw [w1]; omega), dqt (by rw [w1]; omega)⟩) (fun _ _ => evOb (dqt (by rw [w1]; omega)) (evNext ?_)) (fun _ hf => by rw [hS, dqt hs] at hf; cases hf) (fun hf => by rw [hC] at hf; cases hf))
  rw [w1]; exact h (elV ty2 g) _ _ (fun k hk => hg k hk)
 ·intro i n cap fo hi h1 hel hs h2 h3' h g ia fz hg
  have nx : ∀ (_ : Unit), Ev (st57 x0 x1 x2 x3 x4 x5 x6 x7 b8 x9 x10 x11 x12) (.L4 (i64.wrap ((i : Int) + 1)) (elV ty2 g) (n + 1) (joinF n (elV ty2 fo) fun _ => pv2 (pAt c i)) ia fz) r := fun _ => by rw [wp1 (j := i) (by omega)]; exact h (elV ty2 g) _ _ (fun k hk => hg k hk)
  by_cases hb2 : 0 + 1 < n
  ·have w1 := wm1 (j := n) (by omega) (by omega)
   have w2 := wm2 (j := n) (by omega) (by omega)
   have sm : ∀ k, k < n -> SmP (pq fo k) := fun k hk => (hel k hk).elim (fun h => by cases h) (hsm _)
   have e3 := sdT (sm (n - 2) (by omega)) (sm (n - 1) (by omega)) (hsm (pAt c i) (pmem hi))
   have hC : decide (i64.wrap (0 + 1) < (n : Int)) = true := dqt (by rw [e0]; omega)
   have hS := sdX (fo := fo) (p := pAt c i) w1 w2 e3
   have hs' := hs (by simpa using hb2)
   exact Ev.of rfl (inStep (fun _ => ⟨dqt (by rw [w2]; omega), dqt (by rw [w2]; omega), dqt (by rw [w1]; omega), dqt (by rw [w1]; omega)⟩) (fun _ hf => by rw [hS, dqf (by omega)] at hf; cases hf) (fun _ _ => evObt (evOb (app_ok h2 (by omega)) (evNext (nx ())))) (fun hf => by rw [hC] at hf; cases hf))
  ·have hC : decide (i64.wrap (0 + 1) < (n : Int)) = false := dqf (by rw [e0]; omega)
   have hx : ∀ {P : Prop}, decide (i64.wrap (0 + 1) < (n : Int)) = true -> P := fun hh => by rw [hC] at hh; cases hh
   exact Ev.of rfl (inStep hx hx hx fun _ => evObt (evOb (app_ok h2 (by omega)) (evNext (nx ()))))
 ·intro n fo hpt g ia fz hg
  rw [hcl]
  obtain ⟨q1, q2, q3, q4⟩ := ptL_last hpt (chainS_ne (.inr (by intro h; rw [h] at hcl; simp at hcl)))
  simp only [List.length_nil, Nat.zero_add, List.nil_append] at q2 q3
  have w1 := wm1 (j := n) q1 (by omega)
  have wN : i64.wrap ((8 : Int) - 1) = ((8 - 1 : Nat) : Int) := by rw [wrapI (by omega) (by omega)]; rfl
  refine Ev.of rfl (evBrF (dqf (by omega)) (evOb (dqt (by rw [w1]; omega)) (evEnter ?_)))
  rw [w1, wN]
  have rev := rev_ind (N := 8) (g := pq f) (P := fun i j f2 => ∀ (fo2 : (Nat -> List V)) (ia : Int) (fz : (Nat -> List V)), (∀ k, pq fo2 k = pq fo k) -> Ev (st57 x0 x1 x2 x3 x4 x5 x6 x7 b8 x9 x10 x11 x12) (.L13 (j : Int) (i : Int) f2 (n - 1) n fo2 ia fz) r) ?_ ?_
  ·exact rev 8 0 (8 - 1) (elV ty2 g) (by omega) (by omega) (fun k hk => by rw [if_neg (by omega)]; exact hg k hk) (elV ty2 fo) _ _ (fun _ => rfl)
  ·intro i j f2 hij hj h fo2 ia fz hfo2
   have v1 := wm1 (j := j) (by omega) (by omega)
   have v2 := wp1 (j := i) (by omega)
   refine Ev.of rfl (evBrT (dqt (by omega)) (evOb (dqt (by omega)) (evOb (dqt (by omega)) (evOb (dqt (by omega)) (evOb (dqt (by omega)) (evOb (dqt (by omega)) (evOb (dqt (by omega)) (evOb (dqt (by omega)) (evOb (dqt (by omega)) (evNext ?_))))))))))
   rw [v1, v2]; exact h (elV ty2 fo2) _ _ (fun k => hfo2 k)
  ·intro i j f2 hij hf2 fo2 ia fz hfo2
   have hb : ptL (n - 1) fo2 = (chainS [] c).tail.reverse := by rw [ptL_cong fun k _ => hfo2 k]; exact q2
   have hrv : ptL 8 f2 = c.reverse := by rw [← hc]; exact ptL_rev hf2
   have hlt : (chainS [] c).tail.reverse.length = n - 1 := by rw [List.length_reverse, List.length_tail, ← q3]
   have hu : hullL c = (chainS [] c).tail.reverse ++ (chainS [] c.reverse).tail.reverse := hullL_eq (by omega)
   have hbs : ∀ q ∈ (chainS [] c).tail.reverse, SmP q := fun q hq => by
    rcases chainS_sub (List.mem_of_mem_tail (List.mem_reverse.1 hq)) with h | h
    ·cases h
    ·exact hsm q h
   have fin := secA x0 x1 x2 x3 x4 x5 x6 x7 b8 x9 x10 x11 x12  (r := r) (c := c.reverse) (base := (chainS [] c).tail.reverse) (f := elV ty2 f2) hrv (fun q hq => hsm q (List.mem_reverse.1 hq)) hbs hlt (by omega) (fun n fo cap k1 k2 k3 k4 => h5 n fo cap k1 k2 (by rw [hu]; exact k3) (by rw [hu, List.length_append, k4]; congr 1; exact (List.length_reverse ..).symm)) (cap := n) (fo := elV ty2 fo2) (by omega) (by omega) hb
   exact Ev.of rfl (evBrF (dqf (by omega)) (evEnter (fin _ _ _ _ _ _)))
theorem secB (x0 x1 x2 x3 x4 x5 x6 x7 : Int) (b8 : Bool) (x9 x10 x11 x12 : Int) {r : V} {N : Nat} {c : List P2} {bl : Nat} {base : List P2} {f : (Nat -> List V)} (h3 : 3 <= N) (h8 : N <= 8) (hf : ptL N f = c) (hsm : ∀ q ∈ c, SmP q) (hb : ∀ q ∈ base, SmP q) (hbl : base.length = bl) (hb8 : bl <= 8)
 (h5 : ∀ n fo cap, n <= cap -> cap <= 100 -> ptL n fo = base ++ (chainS [] c).tail.reverse -> n = base.length + (chainS [] c).tail.length -> Ev (st57 x0 x1 x2 x3 x4 x5 x6 x7 b8 x9 x10 x11 x12) (.L5 0 (n : Int) n (decide (2 < (n : Int))) cap fo) r)
 {cap : Nat} {fo : (Nat -> List V)} (hc : bl <= cap) (hcM : cap <= 50) (hfo : ptL bl fo = base) (i7 : Int) (i8 : Int) (i9 : Int) (n10 : Nat) (f11 : (Nat -> List V)) (f12 : (Nat -> List V)) (i13 : Int) (n14 : Nat) (n15 : Nat) (i16 : Int) (i17 : Int) (i18 : Int) (n19 : Nat) (i20 : Int) (i21 : Int) (f22 : (Nat -> List V)) : Ev (st57 x0 x1 x2 x3 x4 x5 x6 x7 b8 x9 x10 x11 x12) (.L24 (N : Int) N (bl : Int) f bl cap fo i7 i8 i9 n10 f11 f12 i13 n14 n15 i16 i17 i18 n19 i20 i21 f22) r := by
 have hcl : c.length = N := by rw [← hf, ptL_len]
 have ew := wp1 (j := bl) (by omega)
 have e0 : i64.wrap (0 + 1) = ((1 : Nat) : Int) := by rw [wrapI (by omega) (by omega)]; rfl
 have at' : ∀ (g : (Nat -> List V)), (∀ k, k < N -> pq g k = pq f k) -> ∀ i, i < N -> pAt c i = pq g i := fun g hg i hi => by rw [hg i hi, ← hf]; exact ptL_pAt hi
 have key := chain_ind (base := base) (c := c) (M := bl + 8) (by omega)
  (PO := fun i n fo => ∀ (g : (Nat -> List V)) (ix : Int) (iy : Int) (i09 : Int) (i10 : Int) (i11 : Int) (n12 : Nat) (f13 : (Nat -> List V)) (n14 : Nat) (n15 : Nat) (f16 : (Nat -> List V)) (i17 : Int) (n18 : Nat) (n19 : Nat) (i20 : Int) (i21 : Int) (i22 : Int) (n23 : Nat) (i24 : Int) (i25 : Int) (f26 : (Nat -> List V)), (∀ k, k < N -> pq g k = pq f k) -> Ev (st57 x0 x1 x2 x3 x4 x5 x6 x7 b8 x9 x10 x11 x12) (.L26 (i : Int) (N : Int) N (bl : Int) g n ix iy fo i09 i10 i11 n12 f13 n14 n15 f16 i17 n18 n19 i20 i21 i22 n23 i24 i25 f26) r)
  (PI := fun i n cap fo => ∀ (g : (Nat -> List V)) (i09 : Int) (i10 : Int) (i11 : Int) (n12 : Nat) (f13 : (Nat -> List V)) (n14 : Nat) (n15 : Nat) (f16 : (Nat -> List V)) (i17 : Int) (n18 : Nat) (n19 : Nat) (i20 : Int) (i21 : Int) (i22 : Int) (n23 : Nat) (i24 : Int) (i25 : Int) (f26 : (Nat -> List V)), (∀ k, k < N -> pq g k = pq f k) -> Ev (st57 x0 x1 x2 x3 x4 x5 x6 x7 b8 x9 x10 x11 x12) (.L27 (i : Int) (N : Int) N (bl : Int) g n (pAt c i).1 (pAt c i).2 cap fo i09 i10 i11 n12 f13 n14 n15 f16 i17 n18 n19 i20 i21 i22 n23 i24 i25 f26) r) ?_ ?_ ?_ ?_
 ·-- the first round
  obtain ⟨p, l, ec⟩ : ∃ p l, c = p :: l := by
   cases c with
   | nil => simp at hcl; omega
   | cons p l => exact ⟨p, l, rfl⟩
  have hp : pq f 0 = p := by
   have := at' f (fun _ _ => rfl) 0 (by omega)
   rw [← this, ec]; rfl
  subst hp
  have k1 := key l [pq f 0] [pq f 0] (bl + 1) (joinF bl (elV ty2 fo) fun _ => pv2 (pq f 0)) (by rw [ec]; rfl) (by rw [ec]; rfl) (by rw [ptL_snoc, hfo]; rfl) (Nat.le_refl _) (fun q hq => by rw [ec]; simp at hq; simp [hq])
  have T0 : ∀ (i09 : Int) (i10 : Int) (i11 : Int) (n12 : Nat) (f13 : (Nat -> List V)) (n14 : Nat) (f15 : (Nat -> List V)) (i16 : Int) (n17 : Nat) (n18 : Nat) (i19 : Int) (i20 : Int) (i21 : Int) (n22 : Nat) (i23 : Int) (i24 : Int) (f25 : (Nat -> List V)), Ev (st57 x0 x1 x2 x3 x4 x5 x6 x7 b8 x9 x10 x11 x12) (.L25 (N : Int) N (bl : Int) (elV ty2 f) bl cap (elV ty2 fo) (pq f 0).1 (pq f 0).2 i09 i10 i11 n12 f13 n14 f15 i16 n17 n18 i19 i20 i21 n22 i23 i24 f25) r := by
   intro i09 i10 i11 n12 f13 n14 f15 i16 n17 n18 i19 i20 i21 n22 i23 i24 f25
   have hC : decide (i64.wrap ((bl : Int) + 1) < (bl : Int)) = false := dqf (by rw [ew]; omega)
   have hx : ∀ {P : Prop}, decide (i64.wrap ((bl : Int) + 1) < (bl : Int)) = true -> P := fun hh => by rw [hC] at hh; cases hh
   refine Ev.of rfl (inStep hx hx hx fun _ => evObt (evOb (app_ok hc (by omega)) (evNext ?_)))
   rw [e0]
   exact k1 (elV ty2 f) _ _ _ _ _ _ _ _ _ _ _ _ _ _ _ _ _ _ _ _ (fun k hk => rfl)
  exact Ev.of rfl (evBrT (dqt (by omega)) (evOb (dqt (by omega)) (evObt (evEnter (T0 _ _ _ _ _ _ _ _ _ _ _ _ _ _ _ _ _)))))
 ·intro i n fo hi hn h g ix iy i09 i10 i11 n12 f13 n14 n15 f16 i17 n18 n19 i20 i21 i22 n23 i24 i25 f26 hg
  rw [hcl] at hi
  have e := at' g hg i hi
  have h' := h
  rw [e] at h'
  exact Ev.of rfl (evBrT (dqt (by omega)) (evOb (dqt (by omega)) (evOb (dqt (by omega)) (evEnter (h' (elV ty2 g) _ _ _ _ _ _ _ _ _ _ _ _ _ _ _ _ _ _ (fun k hk => hg k hk))))))
 ·intro i n cap fo hi h1 h2 h3' hel hs h g i09 i10 i11 n12 f13 n14 n15 f16 i17 n18 n19 i20 i21 i22 n23 i24 i25 f26 hg
  have hb2 : bl + 1 < n := by rw [← hbl]; exact h1
  have w1 := wm1 (j := n) (by omega) (by omega)
  have w2 := wm2 (j := n) (by omega) (by omega)
  have sm : ∀ k, k < n -> SmP (pq fo k) := fun k hk => (hel k hk).elim (hb _) (hsm _)
  have e3 := sdT (sm (n - 2) (by omega)) (sm (n - 1) (by omega)) (hsm (pAt c i) (pmem hi))
  have hC : decide (i64.wrap ((bl : Int) + 1) < (n : Int)) = true := dqt (by rw [ew]; omega)
  have hS := sdX (fo := fo) (p := pAt c i) w1 w2 e3
  refine Ev.of rfl (inStep (fun _ => ⟨dqt (by rw [w2]; omega), dqt (by rw [w2]; omega), dqt (by rw [w1]; omega), dqt (by rw [w1]; omega)⟩) (fun _ _ => evOb (dqt (by rw [w1]; omega)) (evNext ?_)) (fun _ hf => by rw [hS, dqt hs] at hf; cases hf) (fun hf => by rw [hC] at hf; cases hf))
  rw [w1]; exact h (elV ty2 g) _ _ _ _ _ _ _ _ _ _ _ _ _ _ _ _ _ _ (fun k hk => hg k hk)
 ·intro i n cap fo hi h1 hel hs h2 h3' h g i09 i10 i11 n12 f13 n14 n15 f16 i17 n18 n19 i20 i21 i22 n23 i24 i25 f26 hg
  have nx : ∀ (_ : Unit), Ev (st57 x0 x1 x2 x3 x4 x5 x6 x7 b8 x9 x10 x11 x12) (.L26 (i64.wrap ((i : Int) + 1)) (N : Int) N (bl : Int) (elV ty2 g) (n + 1) (pAt c i).1 (pAt c i).2 (joinF n (elV ty2 fo) fun _ => pv2 (pAt c i)) i09 i10 i11 n12 f13 n14 n15 f16 i17 n18 n19 i20 i21 i22 n23 i24 i25 f26) r := fun _ => by rw [wp1 (j := i) (by omega)]; exact h (elV ty2 g) _ _ _ _ _ _ _ _ _ _ _ _ _ _ _ _ _ _ _ _ (fun k hk => hg k hk)
  by_cases hb2 : bl + 1 < n
  ·have w1 := wm1 (j := n) (by omega) (by omega)
   have w2 := wm2 (j := n) (by omega) (by omega)
   have sm : ∀ k, k < n -> SmP (pq fo k) := fun k hk => (hel k hk).elim (hb _) (hsm _)
   have e3 := sdT (sm (n - 2) (by omega)) (sm (n - 1) (by omega)) (hsm (pAt c i) (pmem hi))
   have hC : decide (i64.wrap ((bl : Int) + 1) < (n : Int)) = true := dqt (by rw [ew]; omega)
   have hS := sdX (fo := fo) (p := pAt c i) w1 w2 e3
   have hs' := hs (by first | exact hb2 | (rw [hbl]; exact hb2))
   exact Ev.of rfl (inStep (fun _ => ⟨dqt (by rw [w2]; omega), dqt (by rw [w2]; omega), dqt (by rw [w1]; omega), dqt (by rw [w1]; omega)⟩) (fun _ hf => by rw [hS, dqf (by omega)] at hf; cases hf) (fun _ _ => evObt (evOb (app_ok h2 (by omega)) (evNext (nx ())))) (fun hf => by rw [hC] at hf; cases hf))
  ·have hC : decide (i64.wrap ((bl : Int) + 1) < (n : Int)) = false := dqf (by rw [ew]; omega)
   have hx : ∀ {P : Prop}, decide (i64.wrap ((bl : Int) + 1) < (n : Int)) = true -> P := fun hh => by rw [hC] at hh; cases hh
   exact Ev.of rfl (inStep hx hx hx fun _ => evObt (evOb (app_ok h2 (by omega)) (evNext (nx ()))))
 ·intro n fo hpt g ix iy i09 i10 i11 n12 f13 n14 n15 f16 i17 n18 n19 i20 i21 i22 n23 i24 i25 f26 hg
  rw [hcl]
  obtain ⟨q1, q2, q3, q4⟩ := ptL_last hpt (chainS_ne (.inr (by intro h; rw [h] at hcl; simp at hcl; omega)))
  have w1 := wm1 (j := n) q1 (by have := chainS_len (l := c) (st := []); simp only [List.length_nil] at this; omega)
  have hl := chainS_len (l := c) (st := [])
  simp only [List.length_nil] at hl
  have := h5 (n - 1) (elV ty2 fo) n (by omega) (by omega) q2 (by rw [List.length_tail]; omega)
  refine Ev.of rfl (evBrF (dqf (by omega)) (evOb (dqt (by rw [w1]; omega)) (evEnter ?_)))
  rw [w1]; exact this
theorem fstB (x0 x1 x2 x3 x4 x5 x6 x7 : Int) (b8 : Bool) (x9 x10 x11 x12 : Int) {r : V} {N : Nat} {f : (Nat -> List V)} (h3 : 3 <= N) (h8 : N <= 8) (hS : SSr N f) (hsm : ∀ q ∈ ptL N f, SmP q)
 (h5 : ∀ n fo cap, n <= cap -> cap <= 100 -> ptL n fo = hullL (ptL N f) -> n = (hullL (ptL N f)).length -> Ev (st57 x0 x1 x2 x3 x4 x5 x6 x7 b8 x9 x10 x11 x12) (.L5 0 (n : Int) n (decide (2 < (n : Int))) cap fo) r) (ia : Int) (na : Nat) (nb : Nat) (ib : Int) (ic : Int) (id : Int) (nc : Nat) (ie : Int) (fz : (Nat -> List V)) : Ev (st57 x0 x1 x2 x3 x4 x5 x6 x7 b8 x9 x10 x11 x12) (.L12 0 (N : Int) N f 0 (fun _ => []) ia na nb ib ic id nc ie (N : Int) fz) r := by
 generalize hc : ptL N f = c at *
 have hcl : c.length = N := by rw [← hc, ptL_len]
 have e0 : i64.wrap (0 + 1) = ((1 : Nat) : Int) := by rw [wrapI (by omega) (by omega)]; rfl
 have at' : ∀ (g : (Nat -> List V)), (∀ k, k < N -> pq g k = pq f k) -> ∀ i, i < N -> pAt c i = pq g i := fun g hg i hi => by rw [hg i hi, ← hc]; exact ptL_pAt hi
 have hlA := chainS_len (l := c) (st := [])
 simp only [List.length_nil] at hlA
 have key := chain_ind (base := []) (c := c) (M := 8) (by simp; omega)
  (PO := fun i n fo => ∀ (g : (Nat -> List V)) (ia : Int) (na : Nat) (nb : Nat) (ib : Int) (ic : Int) (id : Int) (nc : Nat) (ie : Int) (fz : (Nat -> List V)), (∀ k, k < N -> pq g k = pq f k) -> Ev (st57 x0 x1 x2 x3 x4 x5 x6 x7 b8 x9 x10 x11 x12) (.L12 (i : Int) (N : Int) N g n fo ia na nb ib ic id nc ie (N : Int) fz) r)
  (PI := fun i n cap fo => ∀ (g : (Nat -> List V)) (ia : Int) (na : Nat) (nb : Nat) (ib : Int) (ic : Int) (id : Int) (nc : Nat) (ie : Int) (fz : (Nat -> List V)), (∀ k, k < N -> pq g k = pq f k) -> Ev (st57 x0 x1 x2 x3 x4 x5 x6 x7 b8 x9 x10 x11 x12) (.L14 (i : Int) (N : Int) N g n (pAt c i).1 (pAt c i).2 cap fo ia na nb ib ic id nc ie (N : Int) fz) r) ?_ ?_ ?_ ?_
 ·exact key c [] [] 0 (fun _ => []) rfl rfl rfl (Nat.le_refl _) (fun q hq => by cases hq) f ia na nb ib ic id nc ie fz (fun _ _ => rfl)
 ·intro i n fo hi hn h g ia na nb ib ic id nc ie fz hg
  rw [hcl] at hi
  have e := at' g hg i hi
  have h' := h
  rw [e] at h'
  exact Ev.of rfl (evBrT (dqt (by omega)) (evOb (dqt (by omega)) (evOb (dqt (by omega)) (evEnter (h' (elV ty2 g) _ _ _ _ _ _ _ _ _ (fun k hk => hg k hk))))))
 ·intro i n cap fo hi h1 h2 h3' hel hs h g ia na nb ib ic id nc ie fz hg
  have hb2 : 0 + 1 < n := by simpa using h1
  have w1 := wm1 (j := n) (by omega) (by omega)
  have w2 := wm2 (j := n) (by omega) (by omega)
  have sm : ∀ k, k < n -> SmP (pq fo k) := fun k hk => (hel k hk).elim (fun h => by cases h) (hsm _)
  have e3 := sdT (sm (n - 2) (by omega)) (sm (n - 1) (by omega)) (hsm (pAt c i) (pmem hi))
  have hC : decide (i64.wrap (0 + 1) < (n : Int)) = true := dqt (by rw [e0]; omega)
  have hS := sdX (fo := fo) (p := pAt c i) w1 w2 e3
  refine Ev.of rfl (inStep (fun _ => ⟨dqt (by rw [w2]; omega), dqt (by rw [w2]; omega), dqt (by rw [w1]; omega), dqt (by rw [w1]; omega)⟩) (fun _ _ => evOb (dqt (by rw [w1]; omega)) (evNext ?_)) (fun _ hf => by rw [hS, dqt hs] at hf; cases hf) (fun hf => by rw [hC] at hf; cases hf))
  rw [w1]; exact h (elV ty2 g) _ _ _ _ _ _ _ _ _ (fun k hk => hg k hk)
 ·intro i n cap fo hi h1 hel hs h2 h3' h g ia na nb ib ic id nc ie fz hg
  have nx : ∀ (_ : Unit), Ev (st57 x0 x1 x2 x3 x4 x5 x6 x7 b8 x9 x10 x11 x12) (.L12 (i64.wrap ((i : Int) + 1)) (N : Int) N (elV ty2 g) (n + 1) (joinF n (elV ty2 fo) fun _ => pv2 (pAt c i)) ia na nb ib ic id nc ie (N : Int) fz) r := fun _ => by rw [wp1 (j := i) (by omega)]; exact h (elV ty2 g) _ _ _ _ _ _ _ _ _ (fun k hk => hg k hk)
  by_cases hb2 : 0 + 1 < n
  ·have w1 := wm1 (j := n) (by omega) (by omega)
   have w2 := wm2 (j := n) (by omega) (by omega)
   have sm : ∀ k, k < n -> SmP (pq fo k) := fun k hk => (hel k hk).elim (fun h => by cases h) (hsm _)
   have e3 := sdT (sm (n - 2) (by omega)) (sm (n - 1) (by omega)) (hsm (pAt c i) (pmem hi))
   have hC : decide (i64.wrap (0 + 1) < (n : Int)) = true := dqt (by rw [e0]; omega)
   have hS := sdX (fo := fo) (p := pAt c i) w1 w2 e3
   have hs' := hs (by simpa using hb2)
   exact Ev.of rfl (inStep (fun _ => ⟨dqt (by rw [w2]; omega), dqt (by rw [w2]; omega), dqt (by rw [w1]; omega), dqt (by rw [w1]; omega)⟩) (fun _ hf => by rw [hS, dqf (by omega)] at hf; cases hf) (fun _ _ => evObt (evOb (app_ok h2 (by omega)) (evNext (nx ())))) (fun hf => by rw [hC] at hf; cases hf))
  ·have hC : decide (i64.wrap (0 + 1) < (n : Int)) = false := dqf (by rw [e0]; omega)
   have hx : ∀ {P : Prop}, decide (i64.wrap (0 + 1) < (n : Int)) = true -> P := fun hh => by rw [hC] at hh; cases hh
   exact Ev.of rfl (inStep hx hx hx fun _ => evObt (evOb (app_ok h2 (by omega)) (evNext (nx ()))))
 ·intro n fo hpt g ia na nb ib ic id nc ie fz hg
  rw [hcl]
  obtain ⟨q1, q2, q3, q4⟩ := ptL_last hpt (chainS_ne (.inr (by intro h; rw [h] at hcl; simp at hcl; omega)))
  simp only [List.length_nil, Nat.zero_add, List.nil_append] at q2 q3
  have w1 := wm1 (j := n) q1 (by omega)
  have wN : i64.wrap ((((N : Int)).toNat : Int) - 1) = ((N - 1 : Nat) : Int) := by exact wm1 (by omega) (by omega)
  refine Ev.of rfl (evBrF (dqf (by omega)) (evOb (dqt (by rw [w1]; omega)) (evEnter ?_)))
  rw [w1, wN]
  have rev := rev_ind (N := N) (g := pq f) (P := fun i j f2 => ∀ (fo2 : (Nat -> List V)) (ia : Int) (na : Nat) (nb : Nat) (ib : Int) (ic : Int) (id : Int) (nc : Nat) (ie : Int) (fz : (Nat -> List V)), (∀ k, pq fo2 k = pq fo k) -> Ev (st57 x0 x1 x2 x3 x4 x5 x6 x7 b8 x9 x10 x11 x12) (.L15 (j : Int) (i : Int) (N : Int) N f2 (n - 1) n fo2 ia na nb ib ic id nc ie (N : Int) fz) r) ?_ ?_
  ·exact rev N 0 (N - 1) (elV ty2 g) (by omega) (by omega) (fun k hk => by rw [if_neg (by omega)]; exact hg k hk) (elV ty2 fo) _ _ _ _ _ _ _ _ _ (fun _ => rfl)
  ·intro i j f2 hij hj h fo2 ia na nb ib ic id nc ie fz hfo2
   have v1 := wm1 (j := j) (by omega) (by omega)
   have v2 := wp1 (j := i) (by omega)
   refine Ev.of rfl (evBrT (dqt (by omega)) (evOb (dqt (by omega)) (evOb (dqt (by omega)) (evOb (dqt (by omega)) (evOb (dqt (by omega)) (evOb (dqt (by omega)) (evOb (dqt (by omega)) (evOb (dqt (by omega)) (evOb (dqt (by omega)) (evNext ?_))))))))))
   rw [v1, v2]; exact h (elV ty2 fo2) _ _ _ _ _ _ _ _ _ (fun k => hfo2 k)
  ·intro i j f2 hij hf2 fo2 ia na nb ib ic id nc ie fz hfo2
   have hb : ptL (n - 1) fo2 = (chainS [] c).tail.reverse := by rw [ptL_cong fun k _ => hfo2 k]; exact q2
   have hrv : ptL N f2 = c.reverse := by rw [← hc]; exact ptL_rev hf2
   have hlt : (chainS [] c).tail.reverse.length = n - 1 := by rw [List.length_reverse, List.length_tail, ← q3]
   have hu : hullL c = (chainS [] c).tail.reverse ++ (chainS [] c.reverse).tail.reverse := hullL_eq (by omega)
   have hbs : ∀ q ∈ (chainS [] c).tail.reverse, SmP q := fun q hq => by
    rcases chainS_sub (List.mem_of_mem_tail (List.mem_reverse.1 hq)) with h | h
    ·cases h
    ·exact hsm q h
   have fin := secB x0 x1 x2 x3 x4 x5 x6 x7 b8 x9 x10 x11 x12 h3 h8 (r := r) (c := c.reverse) (base := (chainS [] c).tail.reverse) (f := elV ty2 f2) hrv (fun q hq => hsm q (List.mem_reverse.1 hq)) hbs hlt (by omega) (fun n fo cap k1 k2 k3 k4 => h5 n fo cap k1 k2 (by rw [hu]; exact k3) (by rw [hu, List.length_append, k4]; congr 1; exact (List.length_reverse ..).symm)) (cap := n) (fo := elV ty2 fo2) (by omega) (by omega) hb
   exact Ev.of rfl (evBrF (dqf (by omega)) (evEnter (fin _ _ _ _ _ _ _ _ _ _ _ _ _ _ _ _)))
theorem end57 (x0 x1 x2 x3 x4 x5 x6 x7 : Int) (b8 : Bool) (x9 x10 x11 x12 : Int) (hm : SmP (x5, x6)) (h7 : 0 <= x7) (h8 : x7 <= 1073741824) {L : List P2} (hL : ∀ q ∈ L, SmP q) {m : Nat} {f : (Nat -> List V)} (h1 : 1 <= m) (hs : SSr m f) (hf : MemN m (fun q => q ∈ L) f) {n cap : Nat} {fo : (Nat -> List V)} (k1 : n <= cap) (k2 : cap <= 100) (k3 : ptL n fo = hullL (ptL m f)) (k4 : n = (hullL (ptL m f)).length) :
 Ev (st57 x0 x1 x2 x3 x4 x5 x6 x7 b8 x9 x10 x11 x12) (.L5 0 (n : Int) n (decide (2 < (n : Int))) cap fo) (.bool (refB L (x5, x6) x7)) := by
 have hmem : ∀ q, q ∈ L ↔ q ∈ ptL m f := fun q => (hf q).trans ptL_mem.symm
 have hne : ptL m f ≠ [] := fun h => by have := ptL_len m f; rw [h] at this; simp at this; omega
 have := fin57 x0 x1 x2 x3 x4 x5 x6 x7 b8 x9 x10 x11 x12 hm h7 h8 k1 k2 (by have := hullL_pos (ptL_pw hs) hne; omega) (fun k hk => hL _ ((hmem _).2 (hullL_sub (by rw [← k3]; exact ptL_mem.2 ⟨k, hk, rfl⟩))))
 rw [k3, tp_refB (ptL_pw hs) hne hmem h7] at this
 exact this
theorem all57 (x0 x1 x2 x3 x4 x5 x6 x7 : Int) (b8 : Bool) (x9 x10 x11 x12 : Int) (hb : b8 = false) (hin : In57 x0 x1 x2 x3 x4 x5 x6 x7 x9 x10 x11 x12) {f : (Nat -> List V)} (hf : ptL 8 f = pl57 x0 x1 x2 x3 x4 x9 x10 x11 x12) : Ev (st57 x0 x1 x2 x3 x4 x5 x6 x7 b8 x9 x10 x11 x12) (.L0 1 f) (.bool (F57 x0 x1 x2 x3 x4 x5 x6 x7 b8 x9 x10 x11 x12)) := by
 have hF : F57 x0 x1 x2 x3 x4 x5 x6 x7 b8 x9 x10 x11 x12 = refB (pl57 x0 x1 x2 x3 x4 x9 x10 x11 x12) (x5, x6) x7 := by unfold F57; rw [hb]; rfl
 rw [hF]
 have hL := pl57_sm hin
 have hm : SmP (x5, x6) := ⟨hin.2.2.2.2.2.1, hin.2.2.2.2.2.2.1⟩
 have h7 := hin.2.2.2.2.2.2.2.1
 have sml : ∀ {m : Nat} {f : (Nat -> List V)}, MemN m (fun q => q ∈ pl57 x0 x1 x2 x3 x4 x9 x10 x11 x12) f -> ∀ q ∈ ptL m f, SmP q := fun hm q hq => hL q ((hm q).2 (ptL_mem.1 hq))
 refine srt57 x0 x1 x2 x3 x4 x5 x6 x7 b8 x9 x10 x11 x12 (D := fun q => q ∈ pl57 x0 x1 x2 x3 x4 x9 x10 x11 x12) hL (fun f j g hs hmm => cmp57 x0 x1 x2 x3 x4 x5 x6 x7 b8 x9 x10 x11 x12 ?_ ?_ ?_ j g hs hmm) (fun q => by rw [← hf]; exact ptL_mem)
 ·exact fun f j g hs hmm => fstA x0 x1 x2 x3 x4 x5 x6 x7 b8 x9 x10 x11 x12 hs (sml hmm) (fun n fo cap k1 k2 k3 k4 => end57 x0 x1 x2 x3 x4 x5 x6 x7 b8 x9 x10 x11 x12 hm h7.1 h7.2 hL (by omega) hs hmm k1 k2 k3 k4) j g
 ·exact fun m f h1 h3 hs hmm => end57 x0 x1 x2 x3 x4 x5 x6 x7 b8 x9 x10 x11 x12 hm h7.1 h7.2 hL h1 hs hmm (n := m) (by omega) (by omega) (hull2 (by rw [ptL_len]; exact h3)).symm (by rw [hull2 (by rw [ptL_len]; exact h3), ptL_len])
 ·exact fun m f i n1 n2 i1 i2 i3 n3 i4 g h3 h8 hs hmm => fstB x0 x1 x2 x3 x4 x5 x6 x7 b8 x9 x10 x11 x12 h3 (by omega) hs (sml hmm) (fun n fo cap k1 k2 k3 k4 => end57 x0 x1 x2 x3 x4 x5 x6 x7 b8 x9 x10 x11 x12 hm h7.1 h7.2 hL (by omega) hs hmm k1 k2 k3 k4) i n1 n2 i1 i2 i3 n3 i4 g
theorem ev57_0 (x0 x1 x2 x3 x4 x5 x6 x7 : Int) (b8 : Bool) (x9 x10 x11 x12 : Int) (hp : b8 = false -> In57 x0 x1 x2 x3 x4 x5 x6 x7 x9 x10 x11 x12) : evR (Ev (st57 x0 x1 x2 x3 x4 x5 x6 x7 b8 x9 x10 x11 x12)) (m57 x0 x1 x2 x3 x4 x5 x6 x7 b8 x9 x10 x11 x12) (.bool (F57 x0 x1 x2 x3 x4 x5 x6 x7 b8 x9 x10 x11 x12)) := by
 refine evBr (fun h => evRet ?_) (fun h => ?_)
 ·have : F57 x0 x1 x2 x3 x4 x5 x6 x7 b8 x9 x10 x11 x12 = false := by unfold F57; rw [h]; rfl
  rw [this]; rfl
 ·have e1 : i64.wrap (0 + 1) = 1 := by rw [wrapI (by omega) (by omega)]; rfl
  repeat (first | refine evObt ?_ | refine evObc ?_ | refine evBrt ?_ | refine evBrf ?_)
  refine evEnter ?_
  rw [e1]
  exact all57 x0 x1 x2 x3 x4 x5 x6 x7 b8 x9 x10 x11 x12 h (hp h) rfl
theorem ev57 (x0 x1 x2 x3 x4 x5 x6 x7 : Int) (b8 : Bool) (x9 x10 x11 x12 : Int) (hp : b8 = false -> In57 x0 x1 x2 x3 x4 x5 x6 x7 x9 x10 x11 x12) : evR (Ev (st57 x0 x1 x2 x3 x4 x5 x6 x7 b8 x9 x10 x11 x12)) (m57 x0 x1 x2 x3 x4 x5 x6 x7 b8 x9 x10 x11 x12) (.bool (F57 x0 x1 x2 x3 x4 x5 x6 x7 b8 x9 x10 x11 x12)) := ev57_0 x0 x1 x2 x3 x4 x5 x6 x7 b8 x9 x10 x11 x12 hp
def C57 : PCon := mkC [.agg [.int .i64, .int .i64, .int .i64, .int .i64, .int .i64, .int .i64, .int .i64, .int .i64, .bool], .agg tp4] (fun
 | [.agg [.int _ x0, .int _ x1, .int _ x2, .int _ x3, .int _ x4, .int _ x5, .int _ x6, .int _ x7, .bool b8], .agg [.int _ x9, .int _ x10, .int _ x11, .int _ x12]] => b8 = false -> In57 x0 x1 x2 x3 x4 x5 x6 x7 x9 x10 x11 x12
 | _ => False) fun
 | [.agg [.int _ x0, .int _ x1, .int _ x2, .int _ x3, .int _ x4, .int _ x5, .int _ x6, .int _ x7, .bool b8], .agg [.int _ x9, .int _ x10, .int _ x11, .int _ x12]] => .bool (F57 x0 x1 x2 x3 x4 x5 x6 x7 b8 x9 x10 x11 x12)
 | _ => .any
theorem ok57 : (vP C57).Ok Tryz.prog 57 := mkE tabB29 Tryz.func57 (by kernel_rfl) fun ds hp => rfs (run57 ..) (ev57 _ _ _ _ _ _ _ _ _ _ _ _ _ hp)
end
end Go.Dx
namespace Go.Dx
open Go.Sx
noncomputable section
end
end Go.Dx
namespace Go.Dx
open Go.IntKind (i64 u64 u8)
open Go.Sx Go.Proofs
noncomputable section
def ctB30 : CTab := (57, .con C57) :: (131, .con CB131) :: ctB24
theorem tabB30 : TabOk Tryz.prog eqs its ctB30 := .con ok57 (.con okB131 (tabB24))
attribute [local irreducible] F106_0 F110_0
end
end Go.Dx
namespace Go.Dx
open Go.Sx
noncomputable section
theorem tree_in {x y a z w : Int} (h : treeE x y a z w = 0) : (-100000 <= x /\ x <= 100000) /\ (-100000 <= y /\ y <= 100000) /\ (1 <= a /\ a <= 20000) /\ 0 <= z /\ z < w /\ w <= 1000 := by
 unfold treeE at h
 cases hp : ptOk x y with
 | false => rw [hp] at h; cases h
 | true =>
   rw [hp] at h
   simp only [Bool.not_true, Bool.not_false, cond_true] at h
   cases hf : F71_0 a 1 20000 with
   | false => rw [hf] at h; cases h
   | true =>
     rw [hf] at h
     have ha := from_in hf
     have hq := pt_in hp
     by_cases h1 : z < 0
     ·simp [h1] at h
     ·by_cases h2 : w <= z
      ·simp [h1, h2] at h
      ·by_cases h3 : 1000 < w
       ·simp [h1, h2, h3] at h
       ·exact ⟨hq.1, hq.2, ha, by omega, by omega, by omega⟩
theorem col_in {x y h dx dy : Int} (hc : colE x y h dx dy = 0) : (-100000 <= x /\ x <= 100000) /\ (-100000 <= y /\ y <= 100000) /\ (1 <= h /\ h <= 200) := by
 have hc' : (bif bif bif bif !ptOk x y then true else !F71_0 h 1 200 then true else !F71_0 dx (-1000) 1000 then true else !F71_0 dy (-1000) 1000 then 7 else bif bif dx == 0 then dy == 0 else false then 2 else (0 : Int)) = 0 := hc
 cases hp : ptOk x y with
 | false => rw [hp] at hc'; cases hc'
 | true =>
   rw [hp] at hc'
   cases hf : F71_0 h 1 200 with
   | false => rw [hf] at hc'; cases hc'
   | true => exact ⟨(pt_in hp).1, (pt_in hp).2, from_in hf⟩
theorem col_of {n6 : Nat} {f6 : Nat -> List V} {i : Nat} (h : cC n6 f6 i = 0) : colE (jv1 (f6 i)) (jv2 (f6 i)) (jv3 (f6 i)) (jv4 (f6 i)) (jv5 (f6 i)) = 0 := by
 have h' : F73 n6 (elV tyC f6) (i : Int) = 0 := h
 unfold F73 at h'
 simp only [Int.toNat_natCast] at h'
 cases hn : F122 (sv (hdV (elV tyC f6 i))) with
 | false => rw [hn] at h'; cases h'
 | true =>
   rw [hn, Bool.not_true, cond_false] at h'
   cases hd : exB i (fun k => (sv (hdV (elV tyC f6 k))).toList == (sv (hdV (elV tyC f6 i))).toList) with
   | true => rw [hd] at h'; cases h'
   | false => rw [hd, cond_false] at h'; exact h'
section
variable {X Y h tx ty R lo hi x9 x10 x11 x12 px py : Int}
structure TC (X Y h tx ty R lo hi : Int) : Prop where
 X' : -100000 <= X /\ X <= 100000
 Y' : -100000 <= Y /\ Y <= 100000
 h' : 1 <= h /\ h <= 200
 tx' : -100000 <= tx /\ tx <= 100000
 ty' : -100000 <= ty /\ ty <= 100000
 R' : 1 <= R /\ R <= 20000
 lo' : 0 <= lo /\ lo < hi /\ hi <= 1000
theorem TC.vals (t : TC X Y h tx ty R lo hi) : F48_0 h hi = max 0 (h - hi) /\ F104_0 h hi = max 0 (h - hi) /\ F48_1 h lo = h - lo /\ F104_1 h lo = h - lo /\ F48_2 h tx = h * tx /\ F105_0 h tx = h * tx /\ F48_3 h ty = h * ty /\ F105_1 h ty = h * ty /\ F48_4 h R = h * R /\ F105_2 h R = h * R /\ sm (h * tx) /\ sm (h * ty) /\ 0 <= h * R /\ h * R <= 1073741824 := by
 obtain ⟨_, _, hh, h1, h2, h3, h4⟩ := t
 have k1 := mulS (x := h) (y := tx) (A := 200) (B := 100000) (by omega) (by omega) (by omega) (by omega)
 have k2 := mulS (x := h) (y := ty) (A := 200) (B := 100000) (by omega) (by omega) (by omega) (by omega)
 have k3 := mulS (x := h) (y := R) (A := 200) (B := 20000) (by omega) (by omega) (by omega) (by omega)
 have k4 := imn (show 0 <= h by omega) (show 0 <= R by omega)
 unfold F48_0 F104_0 F48_1 F104_1 F48_2 F48_3 F48_4 F101_0 F101_1 F105_0 F105_1 F105_2
 rw [Int.mul_comm R h, wrapI (x := h - hi) (by omega) (by omega), wrapI (x := h - min hi h) (by omega) (by omega), wrapI (x := h - lo) (by omega) (by omega), wrapI (x := h * tx) (by omega) (by omega), wrapI (x := h * ty) (by omega) (by omega), wrapI (x := h * R) (by omega) (by omega)]
 unfold sm
 refine ⟨rfl, by omega, rfl, rfl, rfl, rfl, rfl, rfl, rfl, rfl, by omega, by omega, k4, by omega⟩
theorem TC.in57 (t : TC X Y h tx ty R lo hi) (hb : F48_5 h lo = false) (h9 : -100000 <= x9 /\ x9 <= 100000) (h10 : -100000 <= x10 /\ x10 <= 100000) (h11 : -100000 <= x11 /\ x11 <= 100000) (h12 : -100000 <= x12 /\ x12 <= 100000) : In57 X Y h (F48_0 h hi) (F48_1 h lo) (F48_2 h tx) (F48_3 h ty) (F48_4 h R) x9 x10 x11 x12 := by
 obtain ⟨e1, _, e2, _, e3, _, e4, _, e5, _, s1, s2, s3, s4⟩ := t.vals
 have := t.h'; have := t.lo'
 unfold F48_5 at hb
 have hb := of_decide_eq_false hb
 rw [e1, e2, e3, e4, e5]
 exact ⟨t.X', t.Y', by omega, by omega, by omega, s1, s2, ⟨s3, s4⟩, h9, h10, h11, h12⟩
end
def bestF (d t : Nat -> Bool) : Nat -> Int
 | 0 => 0
 | k + 1 => bif d k then 2 else bif t k then max (bestF d t k) 1 else bestF d t k
theorem exB_succ (n : Nat) (p : Nat -> Bool) : exB (n + 1) p = (exB n p || p n) := by
 cases h : exB (n + 1) p with
 | true =>
   obtain ⟨i, hi, hp⟩ := exB_iff.1 h
   by_cases e : i = n
   ·rw [← e, hp]; simp
   ·rw [exB_true i (by omega) hp]; rfl
 | false =>
   have h1 : exB n p = false := by
    cases h2 : exB n p with
    | false => rfl
    | true => obtain ⟨i, hi, hp⟩ := exB_iff.1 h2; rw [exB_true i (by omega) hp] at h; cases h
   have h2 : p n = false := by
    cases h2 : p n with
    | false => rfl
    | true => rw [exB_true n (by omega) h2] at h; cases h
   rw [h1, h2]; rfl
end
end Go.Dx
namespace Go.Dx
open Go.IntKind (i64 u64 u8)
open Go.Sx Go.Proofs
noncomputable section
def ctB31 : CTab := ctB30
theorem tabB31 : TabOk Tryz.prog eqs its ctB31 := tabB30
attribute [local irreducible] F44 F50_0 F91_0
theorem sc_in {n0 : Nat} {f0 : Nat -> List V} {n2 : Nat} {f2 : Nat -> List V} {n4 : Nat} {f4 : Nat -> List V} {n6 : Nat} {f6 : Nat -> List V} {x8 : Int} (h : ix1 (F24_2 n0 (elV tyR f0) n2 (elV tyT f2) n4 (elV tyF f4) n6 (elV tyC f6)) x8 n6 = 0) : (0 <= x8 /\ x8 < (n6 : Int)) /\ ∀ i, i < n2 -> TC (jv1 (f6 x8.toNat)) (jv2 (f6 x8.toNat)) (jv3 (f6 x8.toNat)) (jv0 (f2 i)) (jv1 (f2 i)) (jv2 (f2 i)) (jv3 (f2 i)) (jv4 (f2 i)) := by
 obtain ⟨h1, h2, h3⟩ := ix1_zero h
 have hv := valid h1
 refine ⟨⟨h2, h3⟩, fun i hi => ?_⟩
 have hc := col_in (col_of (f6 := elV tyC f6) (hv.cl x8.toNat (by omega)))
 have ht := tree_in (hv.tr i hi)
 exact ⟨hc.1, hc.2.1, hc.2.2, ht.1, ht.2.1, ht.2.2.1, ht.2.2.2⟩
inductive S17 where
 | L0 (ia0 ia1 : Int)
def inv17 (n0 : Nat) (f0 : FnV) (n2 : Nat) (f2 : FnV) (n4 : Nat) (f4 : FnV) (n6 : Nat) (f6 : FnV) (x8 x9 x10 x11 x12 : Int) : S17 -> Env × List O × Option Ex
 | .L0 ia0 ia1 => ([(31, vi ia0), (30, vi (↑n2 : Int)), (29, V.sl n2 (elV tyT f2)), (9, vi ia1), (5, V.pl 0 0), (3, V.pl 1 0), (1, vi x8)], [O.cells [vi x9, vi x10, vi x11, vi x12] 29, O.cells [V.sl n0 (elV tyR f0), V.sl n2 (elV tyT f2), V.sl n4 (elV tyF f4), V.sl n6 (elV tyC f6)] 27], none)
def id17 : S17 -> JJ
 | .L0 ia0 ia1 => (0, [])
def rl17 (n0 : Nat) (f0 : FnV) (n2 : Nat) (f2 : FnV) (n4 : Nat) (f4 : FnV) (n6 : Nat) (f6 : FnV) (x8 x9 x10 x11 x12 : Int) : T (Leaf JJ) := runL JJ ctB31 u0 s17 [scV n0 f0 n2 f2 n4 f4 n6 f6, vi x8, V.agg [vi x9, vi x10, vi x11, vi x12]]
def lp17_0 (n0 : Nat) (f0 : FnV) (n2 : Nat) (f2 : FnV) (n4 : Nat) (f4 : FnV) (n6 : Nat) (f6 : FnV) (x8 x9 x10 x11 x12 : Int) (cx : List Cx) : Lp JJ := lpT (atT (rl17 n0 f0 n2 f2 n4 f4 n6 f6 x8 x9 x10 x11 x12) [false, false])
def lp17 (n0 : Nat) (f0 : FnV) (n2 : Nat) (f2 : FnV) (n4 : Nat) (f4 : FnV) (n6 : Nat) (f6 : FnV) (x8 x9 x10 x11 x12 : Int) : JJ -> Lp JJ
 | (0, cx) => lp17_0 n0 f0 n2 f2 n4 f4 n6 f6 x8 x9 x10 x11 x12 cx
 | (_, cx) => lp17_0 n0 f0 n2 f2 n4 f4 n6 f6 x8 x9 x10 x11 x12 cx
def D17 (n0 : Nat) (f0 : FnV) (n2 : Nat) (f2 : FnV) (n4 : Nat) (f4 : FnV) (n6 : Nat) (f6 : FnV) (x8 x9 x10 x11 x12 : Int) : LD JJ S17 := ⟨id17, lp17 n0 f0 n2 f2 n4 f4 n6 f6 x8 x9 x10 x11 x12, inv17 n0 f0 n2 f2 n4 f4 n6 f6 x8 x9 x10 x11 x12⟩
def st17 (n0 : Nat) (f0 : FnV) (n2 : Nat) (f2 : FnV) (n4 : Nat) (f4 : FnV) (n6 : Nat) (f6 : FnV) (x8 x9 x10 x11 x12 : Int) : S17 -> RT S17
 | .L0 ia0 ia1 => .br (decide (ia0 < (↑n2 : Int))) (.ob (decide (0 <= ia0 /\ ia0 < (↑n2 : Int))) (.ob (decide (0 <= x8 /\ x8 < (↑n6 : Int))) (.obc (.obt (.obc (.obt (.obc (.obt (.br (!F55_0 4 (elV tp2 (secF [vi x9, vi x10, vi x11, vi x10, vi x11, vi x12, vi x9, vi x12] 0 2)) (jv1 (f6 x8.toNat)) (jv2 (f6 x8.toNat)) (jv3 (f6 x8.toNat)) (F48_0 (jv3 (f6 x8.toNat)) (jv4 (f2 ia0.toNat))) (F48_1 (jv3 (f6 x8.toNat)) (jv3 (f2 ia0.toNat))) (F48_2 (jv3 (f6 x8.toNat)) (jv0 (f2 ia0.toNat))) (F48_3 (jv3 (f6 x8.toNat)) (jv1 (f2 ia0.toNat))) (F48_4 (jv3 (f6 x8.toNat)) (jv2 (f2 ia0.toNat))) (F48_5 (jv3 (f6 x8.toNat)) (jv3 (f2 ia0.toNat)))) (.next [some (some 0), some (some 1)] (S17.L0 (i64.wrap (ia0 + 1)) (2)) []) (.obp (F48_5 (jv3 (f6 x8.toNat)) (jv3 (f2 ia0.toNat)) = false -> ((-100000 : Int) <= jv1 (f6 x8.toNat) /\ jv1 (f6 x8.toNat) <= (100000 : Int)) /\ ((-100000 : Int) <= jv2 (f6 x8.toNat) /\ jv2 (f6 x8.toNat) <= (100000 : Int)) /\ ((0 : Int) <= jv3 (f6 x8.toNat) /\ jv3 (f6 x8.toNat) <= (200 : Int)) /\ ((0 : Int) <= F48_0 (jv3 (f6 x8.toNat)) (jv4 (f2 ia0.toNat)) /\ F48_0 (jv3 (f6 x8.toNat)) (jv4 (f2 ia0.toNat)) <= (200 : Int)) /\ ((0 : Int) <= F48_1 (jv3 (f6 x8.toNat)) (jv3 (f2 ia0.toNat)) /\ F48_1 (jv3 (f6 x8.toNat)) (jv3 (f2 ia0.toNat)) <= (200 : Int)) /\ ((-536870912 : Int) <= F48_2 (jv3 (f6 x8.toNat)) (jv0 (f2 ia0.toNat)) /\ F48_2 (jv3 (f6 x8.toNat)) (jv0 (f2 ia0.toNat)) <= (536870912 : Int)) /\ ((-536870912 : Int) <= F48_3 (jv3 (f6 x8.toNat)) (jv1 (f2 ia0.toNat)) /\ F48_3 (jv3 (f6 x8.toNat)) (jv1 (f2 ia0.toNat)) <= (536870912 : Int)) /\ ((0 : Int) <= F48_4 (jv3 (f6 x8.toNat)) (jv2 (f2 ia0.toNat)) /\ F48_4 (jv3 (f6 x8.toNat)) (jv2 (f2 ia0.toNat)) <= (1073741824 : Int)) /\ ((-100000 : Int) <= x9 /\ x9 <= (100000 : Int)) /\ ((-100000 : Int) <= x10 /\ x10 <= (100000 : Int)) /\ ((-100000 : Int) <= x11 /\ x11 <= (100000 : Int)) /\ (-100000 : Int) <= x12 /\ x12 <= (100000 : Int)) (.obt (.br (F57 (jv1 (f6 x8.toNat)) (jv2 (f6 x8.toNat)) (jv3 (f6 x8.toNat)) (F48_0 (jv3 (f6 x8.toNat)) (jv4 (f2 ia0.toNat))) (F48_1 (jv3 (f6 x8.toNat)) (jv3 (f2 ia0.toNat))) (F48_2 (jv3 (f6 x8.toNat)) (jv0 (f2 ia0.toNat))) (F48_3 (jv3 (f6 x8.toNat)) (jv1 (f2 ia0.toNat))) (F48_4 (jv3 (f6 x8.toNat)) (jv2 (f2 ia0.toNat))) (F48_5 (jv3 (f6 x8.toNat)) (jv3 (f2 ia0.toNat))) x9 x10 x11 x12) (.next [some (some 0), some (some 1)] (S17.L0 (i64.wrap (ia0 + 1)) (max ia1 1)) []) (.next [some (some 0), some (some 1)] (S17.L0 (i64.wrap (ia0 + 1)) (ia1)) []))))))))))))) (.ret (V.tup [vi ia1, vi 0]))
def m17 (n0 : Nat) (f0 : FnV) (n2 : Nat) (f2 : FnV) (n4 : Nat) (f4 : FnV) (n6 : Nat) (f6 : FnV) (x8 x9 x10 x11 x12 : Int) : RT S17 := .asm (true = true -> n6 <= 9223372036854775807) (.obp (((∀ (i : Nat), i < n0 -> (sv (hdV (f0 i))).size <= (9223372036854775807 : Nat)) /\ ∀ (i : Nat), i < n6 -> (sv (hdV (f6 i))).size <= (9223372036854775807 : Nat)) /\ (0 : Nat) = (0 : Nat) /\ (2 : Nat) <= (100 : Nat)) (.obt (.br (F44 n0 (elV tyR f0) n2 (elV tyT f2) n4 (elV tyF f4) n6 (elV tyC f6) 2 (elV tp1 (secF [vi x8, vi (↑n6 : Int)] 0 1)) != 0) (.ret (V.tup [vi 0, vi (F44 n0 (elV tyR f0) n2 (elV tyT f2) n4 (elV tyF f4) n6 (elV tyC f6) 2 (elV tp1 (secF [vi x8, vi (↑n6 : Int)] 0 1)))])) (.obc (.obt (.br (F53_0 x9 x10 x11 x12) (.ret (V.tup [vi 0, vi 7])) (.asm (true = true -> n2 <= 9223372036854775807) (.enter [some (some 1), some (some 0)] (S17.L0 (0) (0)) []))))))))
theorem run17 (n0 : Nat) (f0 : FnV) (n2 : Nat) (f2 : FnV) (n4 : Nat) (f4 : FnV) (n6 : Nat) (f6 : FnV) (x8 x9 x10 x11 x12 : Int) : Fits ctB31 u0 (D17 n0 f0 n2 f2 n4 f4 n6 f6 x8 x9 x10 x11 x12) (rl17 n0 f0 n2 f2 n4 f4 n6 f6 x8 x9 x10 x11 x12) (m17 n0 f0 n2 f2 n4 f4 n6 f6 x8 x9 x10 x11 x12) (st17 n0 f0 n2 f2 n4 f4 n6 f6 x8 x9 x10 x11 x12) := ⟨⟨by kernel_rfl, by kernel_rfl⟩, fun s => by cases s <;> exact ⟨by kernel_rfl, by kernel_rfl⟩⟩
def d17 (n0 : Nat) (f0 : FnV) (n2 : Nat) (f2 : FnV) (n4 : Nat) (f4 : FnV) (n6 : Nat) (f6 : FnV) (x8 x9 x10 x11 x12 : Int) (ii : Nat) : Bool := !F55_0 4 (elV tp2 (secF [vi x9, vi x10, vi x11, vi x10, vi x11, vi x12, vi x9, vi x12] 0 2)) (jv1 (f6 x8.toNat)) (jv2 (f6 x8.toNat)) (jv3 (f6 x8.toNat)) (F48_0 (jv3 (f6 x8.toNat)) (jv4 (f2 ii))) (F48_1 (jv3 (f6 x8.toNat)) (jv3 (f2 ii))) (F48_2 (jv3 (f6 x8.toNat)) (jv0 (f2 ii))) (F48_3 (jv3 (f6 x8.toNat)) (jv1 (f2 ii))) (F48_4 (jv3 (f6 x8.toNat)) (jv2 (f2 ii))) (F48_5 (jv3 (f6 x8.toNat)) (jv3 (f2 ii)))
def t17 (n0 : Nat) (f0 : FnV) (n2 : Nat) (f2 : FnV) (n4 : Nat) (f4 : FnV) (n6 : Nat) (f6 : FnV) (x8 x9 x10 x11 x12 : Int) (ii : Nat) : Bool := F57 (jv1 (f6 x8.toNat)) (jv2 (f6 x8.toNat)) (jv3 (f6 x8.toNat)) (F48_0 (jv3 (f6 x8.toNat)) (jv4 (f2 ii))) (F48_1 (jv3 (f6 x8.toNat)) (jv3 (f2 ii))) (F48_2 (jv3 (f6 x8.toNat)) (jv0 (f2 ii))) (F48_3 (jv3 (f6 x8.toNat)) (jv1 (f2 ii))) (F48_4 (jv3 (f6 x8.toNat)) (jv2 (f2 ii))) (F48_5 (jv3 (f6 x8.toNat)) (jv3 (f2 ii))) x9 x10 x11 x12
def F17_0 (n0 : Nat) (f0 : FnV) (n2 : Nat) (f2 : FnV) (n4 : Nat) (f4 : FnV) (n6 : Nat) (f6 : FnV) (x8 x9 x10 x11 x12 : Int) : Int := bif F44 n0 (elV tyR f0) n2 (elV tyT f2) n4 (elV tyF f4) n6 (elV tyC f6) 2 (elV tp1 (secF [vi x8, vi (↑n6 : Int)] 0 1)) != 0 then 0 else bif F53_0 x9 x10 x11 x12 then 0 else bestF (d17 n0 f0 n2 f2 n4 f4 n6 f6 x8 x9 x10 x11 x12) (t17 n0 f0 n2 f2 n4 f4 n6 f6 x8 x9 x10 x11 x12) n2
def F17_1 (n0 : Nat) (f0 : FnV) (n2 : Nat) (f2 : FnV) (n4 : Nat) (f4 : FnV) (n6 : Nat) (f6 : FnV) (x8 x9 x10 x11 x12 : Int) : Int := bif F44 n0 (elV tyR f0) n2 (elV tyT f2) n4 (elV tyF f4) n6 (elV tyC f6) 2 (elV tp1 (secF [vi x8, vi (↑n6 : Int)] 0 1)) != 0 then F44 n0 (elV tyR f0) n2 (elV tyT f2) n4 (elV tyF f4) n6 (elV tyC f6) 2 (elV tp1 (secF [vi x8, vi (↑n6 : Int)] 0 1)) else bif F53_0 x9 x10 x11 x12 then 7 else 0
theorem c17 (n0 : Nat) (f0 : FnV) (n2 : Nat) (f2 : FnV) (n4 : Nat) (f4 : FnV) (n6 : Nat) (f6 : FnV) (x8 x9 x10 x11 x12 : Int) (hx : 0 <= x8 /\ x8 < (n6 : Int)) (hn : n2 <= 9223372036854775807) (hin : ∀ i, i < n2 -> TC (jv1 (f6 x8.toNat)) (jv2 (f6 x8.toNat)) (jv3 (f6 x8.toNat)) (jv0 (f2 i)) (jv1 (f2 i)) (jv2 (f2 i)) (jv3 (f2 i)) (jv4 (f2 i))) (hp : (-100000 <= x9 /\ x9 <= 100000) /\ (-100000 <= x10 /\ x10 <= 100000) /\ (-100000 <= x11 /\ x11 <= 100000) /\ (-100000 <= x12 /\ x12 <= 100000)) :
 ∀ i, i <= n2 -> Ev (st17 n0 f0 n2 f2 n4 f4 n6 f6 x8 x9 x10 x11 x12) (.L0 (i : Int) (bestF (d17 n0 f0 n2 f2 n4 f4 n6 f6 x8 x9 x10 x11 x12) (t17 n0 f0 n2 f2 n4 f4 n6 f6 x8 x9 x10 x11 x12) i)) (.tup [.int .i64 (bestF (d17 n0 f0 n2 f2 n4 f4 n6 f6 x8 x9 x10 x11 x12) (t17 n0 f0 n2 f2 n4 f4 n6 f6 x8 x9 x10 x11 x12) n2), .int .i64 0]) := by
 refine up_ind fun i hi ih => ?_
 by_cases hlt : i < n2
 ·have ih := ih hlt
  have hw := wrapS hlt hn
  refine Ev.of rfl (evBrT (dqt (by omega)) (evOb (dqt (by omega)) (evOb (dqt hx) (evObc (evObt (evObc (evObt (evObc (evObt (evBr (fun h => evNext ?_) (fun h => evObp ?_ (evObt (evBr (fun h2 => evNext ?_) (fun h2 => evNext ?_))))))))))))))
  ·rw [hw]
   have e : bestF (d17 n0 f0 n2 f2 n4 f4 n6 f6 x8 x9 x10 x11 x12) (t17 n0 f0 n2 f2 n4 f4 n6 f6 x8 x9 x10 x11 x12) (i + 1) = 2 := by simp only [bestF]; rw [show d17 n0 f0 n2 f2 n4 f4 n6 f6 x8 x9 x10 x11 x12 i = true from h]; rfl
   rw [e] at ih; exact ih
  ·exact fun hb => (hin i hlt).in57 hb hp.1 hp.2.1 hp.2.2.1 hp.2.2.2
  ·rw [hw]
   have e : bestF (d17 n0 f0 n2 f2 n4 f4 n6 f6 x8 x9 x10 x11 x12) (t17 n0 f0 n2 f2 n4 f4 n6 f6 x8 x9 x10 x11 x12) (i + 1) = max (bestF (d17 n0 f0 n2 f2 n4 f4 n6 f6 x8 x9 x10 x11 x12) (t17 n0 f0 n2 f2 n4 f4 n6 f6 x8 x9 x10 x11 x12) i) 1 := by simp only [bestF]; rw [show d17 n0 f0 n2 f2 n4 f4 n6 f6 x8 x9 x10 x11 x12 i = false from h, show t17 n0 f0 n2 f2 n4 f4 n6 f6 x8 x9 x10 x11 x12 i = true from h2]; rfl
   rw [e] at ih; exact ih
  ·rw [hw]
   have e : bestF (d17 n0 f0 n2 f2 n4 f4 n6 f6 x8 x9 x10 x11 x12) (t17 n0 f0 n2 f2 n4 f4 n6 f6 x8 x9 x10 x11 x12) (i + 1) = bestF (d17 n0 f0 n2 f2 n4 f4 n6 f6 x8 x9 x10 x11 x12) (t17 n0 f0 n2 f2 n4 f4 n6 f6 x8 x9 x10 x11 x12) i := by simp only [bestF]; rw [show d17 n0 f0 n2 f2 n4 f4 n6 f6 x8 x9 x10 x11 x12 i = false from h, show t17 n0 f0 n2 f2 n4 f4 n6 f6 x8 x9 x10 x11 x12 i = false from h2]; rfl
   rw [e] at ih; exact ih
 ·have e : i = n2 := by omega
  subst e
  exact Ev.of rfl (evBrF (dqf (by omega)) (evRet rfl))
theorem ev17_0 (n0 : Nat) (f0 : FnV) (n2 : Nat) (f2 : FnV) (n4 : Nat) (f4 : FnV) (n6 : Nat) (f6 : FnV) (x8 x9 x10 x11 x12 : Int) (hp : SzOk n0 f0 /\ SzOk n6 f6) : evR (Ev (st17 n0 f0 n2 f2 n4 f4 n6 f6 x8 x9 x10 x11 x12)) (m17 n0 f0 n2 f2 n4 f4 n6 f6 x8 x9 x10 x11 x12) (.tup [.int .i64 (F17_0 n0 f0 n2 f2 n4 f4 n6 f6 x8 x9 x10 x11 x12), .int .i64 (F17_1 n0 f0 n2 f2 n4 f4 n6 f6 x8 x9 x10 x11 x12)]) := evAsm1 fun h6 => evObp ⟨hp, rfl, by decide⟩ (evObt (evBr (fun h => evRet (by unfold F17_0 F17_1; rw [h]; rfl)) (fun h => evObc (evObt (evBr (fun h2 => evRet (by unfold F17_0 F17_1; rw [h, h2]; rfl)) (fun h2 => evAsm1 fun hn => evEnter (by
 have e0 : F17_0 n0 f0 n2 f2 n4 f4 n6 f6 x8 x9 x10 x11 x12 = bestF (d17 n0 f0 n2 f2 n4 f4 n6 f6 x8 x9 x10 x11 x12) (t17 n0 f0 n2 f2 n4 f4 n6 f6 x8 x9 x10 x11 x12) n2 := by unfold F17_0; rw [h, h2]; rfl
 have e1 : F17_1 n0 f0 n2 f2 n4 f4 n6 f6 x8 x9 x10 x11 x12 = 0 := by unfold F17_1; rw [h, h2]; rfl
 rw [e0, e1]
 have hc := chk2 (n0 := n0) (f0 := f0) (n2 := n2) (f2 := f2) (n4 := n4) (f4 := f4) (n6 := n6) (f6 := f6) (i := x8) (m := n6) (fun _ => h6)
 have hz : ix1 (F24_2 n0 (elV tyR f0) n2 (elV tyT f2) n4 (elV tyF f4) n6 (elV tyC f6)) x8 n6 = 0 := by rw [← hc]; simpa using h
 obtain ⟨hx, hin⟩ := sc_in hz
 rw [rough_eq] at h2
 have hq := patch_in (tnT h2)
 exact c17 _ _ _ _ _ _ _ _ _ _ _ _ _ hx hn hin ⟨hq.1, hq.2.1, hq.2.2.1, hq.2.2.2.1⟩ 0 (Nat.zero_le _))))))))
theorem ev17 (n0 : Nat) (f0 : FnV) (n2 : Nat) (f2 : FnV) (n4 : Nat) (f4 : FnV) (n6 : Nat) (f6 : FnV) (x8 x9 x10 x11 x12 : Int) (hp : SzOk n0 (elV tyR f0) /\ SzOk n6 (elV tyC f6)) : evR (Ev (st17 n0 f0 n2 f2 n4 f4 n6 f6 x8 x9 x10 x11 x12)) (m17 n0 f0 n2 f2 n4 f4 n6 f6 x8 x9 x10 x11 x12) (.tup [.int .i64 (F17_0 n0 (elV tyR f0) n2 (elV tyT f2) n4 (elV tyF f4) n6 (elV tyC f6) x8 x9 x10 x11 x12), .int .i64 (F17_1 n0 (elV tyR f0) n2 (elV tyT f2) n4 (elV tyF f4) n6 (elV tyC f6) x8 x9 x10 x11 x12)]) := ev17_0 n0 f0 n2 f2 n4 f4 n6 f6 x8 x9 x10 x11 x12 hp
def C17 : PCon := mkC [.agg [.sl tyR, .sl tyT, .sl tyF, .sl tyC], .int .i64, .agg tp4] (fun
 | [.agg [.sl n0 f0, .sl n2 f2, .sl n4 f4, .sl n6 f6], .int _ x8, .agg [.int _ x9, .int _ x10, .int _ x11, .int _ x12]] => SzOk n0 f0 /\ SzOk n6 f6
 | _ => False) fun
 | [.agg [.sl n0 f0, .sl n2 f2, .sl n4 f4, .sl n6 f6], .int _ x8, .agg [.int _ x9, .int _ x10, .int _ x11, .int _ x12]] => .tup [.int .i64 (F17_0 n0 f0 n2 f2 n4 f4 n6 f6 x8 x9 x10 x11 x12), .int .i64 (F17_1 n0 f0 n2 f2 n4 f4 n6 f6 x8 x9 x10 x11 x12)]
 | _ => .any
theorem ok17 : (vP C17).Ok Tryz.prog 17 := mkE tabB31 Tryz.func17 (by kernel_rfl) fun ds hp => rfs (run17 ..) (ev17 _ _ _ _ _ _ _ _ _ _ _ _ _ hp)
end
end Go.Dx
namespace Go.Dx
open Go.IntKind (i64 u64 u8)
open Go.Sx
noncomputable section
end
end Go.Dx
namespace Go.Dx
section
variable {n0 n1 Mx My r vx vy k X0 Y0 X1 Y1 : Int}
def Sh (n0 n1 Mx My r vx vy k : Int) : Prop := ∃ N W, 0 < W /\ n0 * W <= N /\ N <= n1 * W /\ q2 (W * k * Mx - N * vx) (W * k * My - N * vy) <= (W * k * r) * (W * k * r)
def Tou (n0 n1 Mx My r X0 Y0 X1 Y1 : Int) : Prop := ∃ vx vy k, 0 < k /\ (k * X0 <= vx /\ vx <= k * X1) /\ (k * Y0 <= vy /\ vy <= k * Y1) /\ Sh n0 n1 Mx My r vx vy k
theorem Sh.scale {l : Int} (hl : 0 < l) : Sh n0 n1 Mx My r (l * vx) (l * vy) (l * k) ↔ Sh n0 n1 Mx My r vx vy k := by
 have key : ∀ N W : Int, q2 (W * (l * k) * Mx - N * (l * vx)) (W * (l * k) * My - N * (l * vy)) = l * l * q2 (W * k * Mx - N * vx) (W * k * My - N * vy) := fun N W => by rw [← q2_mul]; congr 1 <;> grind
 have key2 : ∀ W : Int, W * (l * k) * r * (W * (l * k) * r) = l * l * (W * k * r * (W * k * r)) := fun W => by grind
 constructor
 ·rintro ⟨N, W, h1, h2, h3, h4⟩
  exact ⟨N, W, h1, h2, h3, by rw [key, key2] at h4; exact cancel2 hl h4⟩
 ·rintro ⟨N, W, h1, h2, h3, h4⟩
  exact ⟨N, W, h1, h2, h3, by rw [key, key2]; exact iml h4 (sq0 l)⟩
theorem sh0 (h0 : n0 <= 0) (h1 : 0 <= n1) (hk : 0 < k) (h : q2 Mx My <= r * r) : Sh n0 n1 Mx My r vx vy k := by
 refine ⟨0, 1, by omega, by omega, by omega, ?_⟩
 have e : q2 (1 * k * Mx - 0 * vx) (1 * k * My - 0 * vy) = k * k * q2 Mx My := by rw [← q2_mul]; congr 1 <;> grind
 have e2 : 1 * k * r * (1 * k * r) = k * k * (r * r) := by grind
 rw [e, e2]
 exact iml h (sq0 k)
theorem sh_lamp {W N : Int} (hn : 0 <= n0) (hW : 0 < W) (h1 : n0 * W <= N) (h2 : N <= n1 * W) (hN : N = 0) (h : q2 (W * Mx - N * vx) (W * My - N * vy) <= (W * r) * (W * r)) : n0 <= 0 /\ 0 <= n1 /\ q2 Mx My <= r * r := by
 subst hN
 refine ⟨?_, ?_, ?_⟩
 ·apply Classical.byContradiction; intro hh
  have := Int.mul_pos (show 0 < n0 by omega) hW
  omega
 ·apply Classical.byContradiction; intro hh
  have := Int.mul_pos (show 0 < -n1 by omega) hW
  rw [Int.neg_mul] at this; omega
 ·rw [show W * Mx - 0 * vx = W * Mx by omega, show W * My - 0 * vy = W * My by omega, q2_mul, show W * r * (W * r) = W * W * (r * r) by grind] at h
  exact cancel2 hW h
theorem Sh.cv {ux uy j l : Int} (hn : 0 <= n0) (hr : 0 <= r) (h1 : Sh n0 n1 Mx My r vx vy 1) (h2 : Sh n0 n1 Mx My r ux uy 1) (hj : 0 <= j) (hl : j <= l) (h0 : 0 < l) : Sh n0 n1 Mx My r ((l - j) * vx + j * ux) ((l - j) * vy + j * uy) l := by
 obtain ⟨N1, W1, a1, a2, a3, a4⟩ := h1
 obtain ⟨N2, W2, b1, b2, b3, b4⟩ := h2
 rw [Int.mul_one] at a4 b4
 have hlj : 0 <= l - j := by omega
 have hN1 : 0 <= N1 := Int.le_trans (imn hn (Int.le_of_lt a1)) a2
 have hN2 : 0 <= N2 := Int.le_trans (imn hn (Int.le_of_lt b1)) b2
 by_cases z1 : N1 = 0
 ·obtain ⟨c1, c2, c3⟩ := sh_lamp hn a1 a2 a3 z1 a4
  exact sh0 c1 c2 h0 c3
 by_cases z2 : N2 = 0
 ·obtain ⟨c1, c2, c3⟩ := sh_lamp hn b1 b2 b3 z2 b4
  exact sh0 c1 c2 h0 c3
 have p1 : 0 < N1 := by omega
 have p2 : 0 < N2 := by omega
 have u1 : 0 <= (l - j) * N2 := imn hlj hN2
 have u2 : 0 <= j * N1 := imn hj hN1
 have hWp : 0 < (l - j) * N2 * W1 + j * N1 * W2 := by
  by_cases e : j = 0
  ·subst e
   have := Int.mul_pos (Int.mul_pos (show 0 < l - 0 by omega) p2) a1
   have := imn (imn (show (0 : Int) <= 0 by omega) hN1) (Int.le_of_lt b1)
   omega
  ·have := Int.mul_pos (Int.mul_pos (show 0 < j by omega) p1) b1
   have := imn u1 (Int.le_of_lt a1)
   omega
 refine ⟨l * N1 * N2, (l - j) * N2 * W1 + j * N1 * W2, hWp, ?_, ?_, ?_⟩
 ·have k1 := iml a2 u1
  have k2 := iml b2 u2
  have e1 : n0 * ((l - j) * N2 * W1 + j * N1 * W2) = (l - j) * N2 * (n0 * W1) + j * N1 * (n0 * W2) := by grind
  have e2 : l * N1 * N2 = (l - j) * N2 * N1 + j * N1 * N2 := by grind
  omega
 ·have k1 := iml a3 u1
  have k2 := iml b3 u2
  have e1 : n1 * ((l - j) * N2 * W1 + j * N1 * W2) = (l - j) * N2 * (n1 * W1) + j * N1 * (n1 * W2) := by grind
  have e2 : l * N1 * N2 = (l - j) * N2 * N1 + j * N1 * N2 := by grind
  omega
 ·have f1 : q2 ((l - j) * N2 * (W1 * Mx - N1 * vx)) ((l - j) * N2 * (W1 * My - N1 * vy)) <= ((l - j) * N2 * (W1 * r)) * ((l - j) * N2 * (W1 * r)) := by
   rw [q2_mul, show ((l - j) * N2 * (W1 * r)) * ((l - j) * N2 * (W1 * r)) = (l - j) * N2 * ((l - j) * N2) * (W1 * r * (W1 * r)) by grind]
   exact iml a4 (sq0 _)
  have f2 : q2 (j * N1 * (W2 * Mx - N2 * ux)) (j * N1 * (W2 * My - N2 * uy)) <= (j * N1 * (W2 * r)) * (j * N1 * (W2 * r)) := by
   rw [q2_mul, show (j * N1 * (W2 * r)) * (j * N1 * (W2 * r)) = j * N1 * (j * N1) * (W2 * r * (W2 * r)) by grind]
   exact iml b4 (sq0 _)
  have f3 := triA (imn u1 (imn (Int.le_of_lt a1) hr)) (imn u2 (imn (Int.le_of_lt b1) hr)) f1 f2
  have f4 := iml f3 (sq0 l)
  rw [← q2_mul] at f4
  have e1 : ∀ M v u : Int, ((l - j) * N2 * W1 + j * N1 * W2) * l * M - l * N1 * N2 * ((l - j) * v + j * u) = l * ((l - j) * N2 * (W1 * M - N1 * v) + j * N1 * (W2 * M - N2 * u)) := fun M v u => by grind
  rw [e1, e1]
  have e2 : ((l - j) * N2 * W1 + j * N1 * W2) * l * r * (((l - j) * N2 * W1 + j * N1 * W2) * l * r) = l * l * (((l - j) * N2 * (W1 * r) + j * N1 * (W2 * r)) * ((l - j) * N2 * (W1 * r) + j * N1 * (W2 * r))) := by grind
  rw [e2]; exact f4
theorem Sh.row {a b x y : Int} (hn : 0 <= n0) (hr : 0 <= r) (h1 : Sh n0 n1 Mx My r a y 1) (h2 : Sh n0 n1 Mx My r b y 1) (ha : a <= x) (hb : x <= b) : Sh n0 n1 Mx My r x y 1 := by
 by_cases e : a = b
 ·rw [show x = a by omega]; exact h1
 ·have h := Sh.cv (j := x - a) (l := b - a) hn hr h1 h2 (by omega) (by omega) (by omega)
  rw [show (b - a - (x - a)) * a + (x - a) * b = (b - a) * x by grind, show (b - a - (x - a)) * y + (x - a) * y = (b - a) * y by grind] at h
  have e1 := Sh.scale (n0 := n0) (n1 := n1) (Mx := Mx) (My := My) (r := r) (vx := x) (vy := y) (k := 1) (l := b - a) (by omega)
  rw [Int.mul_one] at e1
  exact e1.1 h
theorem Sh.col {a b x y : Int} (hn : 0 <= n0) (hr : 0 <= r) (h1 : Sh n0 n1 Mx My r x a 1) (h2 : Sh n0 n1 Mx My r x b 1) (ha : a <= y) (hb : y <= b) : Sh n0 n1 Mx My r x y 1 := by
 by_cases e : a = b
 ·rw [show y = a by omega]; exact h1
 ·have h := Sh.cv (j := y - a) (l := b - a) hn hr h1 h2 (by omega) (by omega) (by omega)
  rw [show (b - a - (y - a)) * a + (y - a) * b = (b - a) * y by grind, show (b - a - (y - a)) * x + (y - a) * x = (b - a) * x by grind] at h
  have e1 := Sh.scale (n0 := n0) (n1 := n1) (Mx := Mx) (My := My) (r := r) (vx := x) (vy := y) (k := 1) (l := b - a) (by omega)
  rw [Int.mul_one] at e1
  exact e1.1 h
theorem Sh.all {x y : Int} (hn : 0 <= n0) (hr : 0 <= r) (h1 : Sh n0 n1 Mx My r X0 Y0 1) (h2 : Sh n0 n1 Mx My r X1 Y0 1) (h3 : Sh n0 n1 Mx My r X1 Y1 1) (h4 : Sh n0 n1 Mx My r X0 Y1 1) (a1 : X0 <= x) (a2 : x <= X1) (b1 : Y0 <= y) (b2 : y <= Y1) : Sh n0 n1 Mx My r x y 1 :=
 Sh.col hn hr (Sh.row hn hr h1 h2 a1 a2) (Sh.row hn hr h4 h3 a1 a2) b1 b2
theorem Tou.of {x y : Int} (h : Sh n0 n1 Mx My r x y 1) (a1 : X0 <= x) (a2 : x <= X1) (b1 : Y0 <= y) (b2 : y <= Y1) : Tou n0 n1 Mx My r X0 Y0 X1 Y1 := ⟨x, y, 1, by omega, by omega, by omega, h⟩
theorem Tou.pt {x y : Int} (h : Tou n0 n1 Mx My r x y x y) : Sh n0 n1 Mx My r x y 1 := by
 obtain ⟨vx, vy, k, hk, h1, h2, h3⟩ := h
 rw [show vx = k * x by omega, show vy = k * y by omega] at h3
 have e1 := Sh.scale (n0 := n0) (n1 := n1) (Mx := Mx) (My := My) (r := r) (vx := x) (vy := y) (k := 1) hk
 rw [Int.mul_one] at e1
 exact e1.1 h3
theorem Tou.sub {Z0 V0 Z1 V1 : Int} (h : Tou n0 n1 Mx My r X0 Y0 X1 Y1) (a1 : Z0 <= X0) (a2 : X1 <= Z1) (b1 : V0 <= Y0) (b2 : Y1 <= V1) : Tou n0 n1 Mx My r Z0 V0 Z1 V1 := by
 obtain ⟨vx, vy, k, hk, h1, h2, h3⟩ := h
 have hk0 := Int.le_of_lt hk
 have := iml a1 hk0
 have := iml a2 hk0
 have := iml b1 hk0
 have := iml b2 hk0
 exact ⟨vx, vy, k, hk, by omega, by omega, h3⟩
end
end Go.Dx
namespace Go.Dx
open Go.IntKind (i64 u64 u8)
open Go.Sx
noncomputable section
section
variable {n0 : Nat} {f0 : Nat -> List V} {n2 : Nat} {f2 : Nat -> List V} {n4 : Nat} {f4 : Nat -> List V} {n6 : Nat} {f6 : Nat -> List V} {x8 : Int}
def ecol (n0 : Nat) (f0 : FnV) (n2 : Nat) (f2 : FnV) (n4 : Nat) (f4 : FnV) (n6 : Nat) (f6 : FnV) (x8 : Int) (m : Nat) : Int := ix1 (F24_2 n0 (elV tyR f0) n2 (elV tyT f2) n4 (elV tyF f4) n6 (elV tyC f6)) x8 m
end
end
end Go.Dx
namespace Go.Dx
open Go.Sx
noncomputable section
section
variable {ax ay bx b2 w X0 Y0 X1 Y1 : Int}
theorem far_end (h1 : sm ax) (h2 : sm ay) (g1 : pl X0) (g2 : pl Y0) (g3 : pl X1) (g4 : pl Y1) (h7 : 0 <= w) (h8 : w <= 1073741824) : far2 ax ay X0 Y0 X1 Y1 <= IntKind.i64.wrap (w * w) ↔ Endn ax ay (2 * X0) (2 * Y0) (2 * X1) (2 * Y1) w := by
 unfold far2 Endn q2
 rw [(dbl g1).1, (dbl g2).1, (dbl g3).1, (dbl g4).1]
 unfold sm at h1 h2
 unfold pl at g1 g2 g3 g4
 rw [wrapI (x := 2 * X0 - ax) (by omega) (by omega), wrapI (x := ax - 2 * X1) (by omega) (by omega), wrapI (x := 2 * Y0 - ay) (by omega) (by omega), wrapI (x := ay - 2 * Y1) (by omega) (by omega)]
 rw [Int.max_comm 0 (2 * X0 - ax), Int.max_comm 0 (2 * Y0 - ay)]
 have p0 : 0 <= max (max (2 * X0 - ax) 0) (ax - 2 * X1) /\ max (max (2 * X0 - ax) 0) (ax - 2 * X1) <= 1073741824 := by omega
 have q0 : 0 <= max (max (2 * Y0 - ay) 0) (ay - 2 * Y1) /\ max (max (2 * Y0 - ay) 0) (ay - 2 * Y1) <= 1073741824 := by omega
 generalize max (max (2 * X0 - ax) 0) (ax - 2 * X1) = p at p0 ⊢
 generalize max (max (2 * Y0 - ay) 0) (ay - 2 * Y1) = q at q0 ⊢
 have hr := mulS (x := w) (y := w) (A := 1073741824) (B := 1073741824) (by omega) h8 (by omega) h8
 have hp := mulS (x := p) (y := p) (A := 1073741824) (B := 1073741824) (by omega) p0.2 (by omega) p0.2
 have hq := mulS (x := q) (y := q) (A := 1073741824) (B := 1073741824) (by omega) q0.2 (by omega) q0.2
 rw [wrapI (x := w * w) (by omega) (by omega), wrapI (x := p * p) (by omega) (by omega), wrapI (x := q * q) (by omega) (by omega), wrapI (x := p * p + q * q) (by omega) (by omega)]
theorem piece_v (h1 : sm ax) (h2 : sm ay) (h3 : sm bx) (h4 : sm b2) (g1 : pl X0) (g2 : pl Y0) (g3 : pl X1) (g4 : pl Y1) (hX : X0 <= X1) (hY : Y0 <= Y1) (h7 : 0 <= w) (h8 : w <= 1073741824) :
 (F111_0 ax ay bx b2 w X0 Y0 X1 Y1 = 2 ↔ nr ax ay bx b2 (2 * X0) (2 * Y0) w = true /\ nr ax ay bx b2 (2 * X1) (2 * Y0) w = true /\ nr ax ay bx b2 (2 * X1) (2 * Y1) w = true /\ nr ax ay bx b2 (2 * X0) (2 * Y1) w = true) /\
 (F111_0 ax ay bx b2 w X0 Y0 X1 Y1 = 0 ↔ ¬ Hit ax ay bx b2 (2 * X0) (2 * Y0) (2 * X1) (2 * Y1) w) /\ 0 <= F111_0 ax ay bx b2 w X0 Y0 X1 Y1 /\ F111_0 ax ay bx b2 w X0 Y0 X1 Y1 <= 2 := by
 have hH : Hit ax ay bx b2 (2 * X0) (2 * Y0) (2 * X1) (2 * Y1) w ↔ (nr ax ay bx b2 (2 * X0) (2 * Y0) w = true ∨ nr ax ay bx b2 (2 * X1) (2 * Y0) w = true ∨ nr ax ay bx b2 (2 * X1) (2 * Y1) w = true ∨ nr ax ay bx b2 (2 * X0) (2 * Y1) w = true) ∨ far2 ax ay X0 Y0 X1 Y1 <= IntKind.i64.wrap (w * w) ∨ far2 bx b2 X0 Y0 X1 Y1 <= IntKind.i64.wrap (w * w) ∨ F145_0 ax ay bx b2 X0 Y0 X1 Y1 = true := by
  rw [hit_res h7 (by omega) (by omega), far_end h1 h2 g1 g2 g3 g4 h7 h8, far_end h3 h4 g1 g2 g3 g4 h7 h8, thr_p h1 h2 h3 h4 g1 g2 g3 g4]
  unfold Res
  refine or_congr ?_ (or_congr Iff.rfl (or_congr Iff.rfl ?_))
  ·rw [nr_iff h7, nr_iff h7, nr_iff h7, nr_iff h7]
   constructor
   ·rintro ⟨cx, cy, rfl | rfl, rfl | rfl, h⟩
    ·exact .inl h
    ·exact .inr (.inr (.inr h))
    ·exact .inr (.inl h)
    ·exact .inr (.inr (.inl h))
   ·rintro (h | h | h | h)
    ·exact ⟨_, _, .inl rfl, .inl rfl, h⟩
    ·exact ⟨_, _, .inr rfl, .inl rfl, h⟩
    ·exact ⟨_, _, .inr rfl, .inr rfl, h⟩
    ·exact ⟨_, _, .inl rfl, .inr rfl, h⟩
  ·constructor
   ·intro h
    obtain ⟨k1, ⟨cx, cy, k2, k3, k4⟩, dx, dy, k5, k6, k7⟩ := meet_sides (by omega) (by omega) h
    refine ⟨k1, ?_, ?_⟩
    ·rcases k2 with rfl | rfl <;> rcases k3 with rfl | rfl
     ·exact .inl k4
     ·exact .inr (.inr (.inr k4))
     ·exact .inr (.inl k4)
     ·exact .inr (.inr (.inl k4))
    ·rcases k5 with rfl | rfl <;> rcases k6 with rfl | rfl
     ·exact .inl k7
     ·exact .inr (.inr (.inr k7))
     ·exact .inr (.inl k7)
     ·exact .inr (.inr (.inl k7))
   ·rintro ⟨k1, k2, k3⟩
    refine sat_meet (by omega) (by omega) k1 ⟨?_, ?_⟩
    ·rcases k2 with h | h | h | h
     ·exact ⟨_, _, .inl rfl, .inl rfl, h⟩
     ·exact ⟨_, _, .inr rfl, .inl rfl, h⟩
     ·exact ⟨_, _, .inr rfl, .inr rfl, h⟩
     ·exact ⟨_, _, .inl rfl, .inr rfl, h⟩
    ·rcases k3 with h | h | h | h
     ·exact ⟨_, _, .inl rfl, .inl rfl, h⟩
     ·exact ⟨_, _, .inr rfl, .inl rfl, h⟩
     ·exact ⟨_, _, .inr rfl, .inr rfl, h⟩
     ·exact ⟨_, _, .inl rfl, .inr rfl, h⟩
 rw [hH]
 unfold F111_0
 rw [far_p, far_p]
 rw [corner_p h1 h2 h3 h4 h7 h8 g1 g2, corner_p h1 h2 h3 h4 h7 h8 g3 g2, corner_p h1 h2 h3 h4 h7 h8 g3 g4, corner_p h1 h2 h3 h4 h7 h8 g1 g4]
 generalize nr ax ay bx b2 (2 * X0) (2 * Y0) w = n0
 generalize nr ax ay bx b2 (2 * X1) (2 * Y0) w = n1
 generalize nr ax ay bx b2 (2 * X1) (2 * Y1) w = n2
 generalize nr ax ay bx b2 (2 * X0) (2 * Y1) w = n3
 generalize F145_0 ax ay bx b2 X0 Y0 X1 Y1 = t
 by_cases m1 : far2 ax ay X0 Y0 X1 Y1 <= IntKind.i64.wrap (w * w)
 ·simp only [m1, decide_true]
  cases n0 <;> cases n1 <;> cases n2 <;> cases n3 <;> simp
 ·simp only [m1, decide_false]
  by_cases m2 : far2 bx b2 X0 Y0 X1 Y1 <= IntKind.i64.wrap (w * w)
  ·simp only [m2, decide_true]
   cases n0 <;> cases n1 <;> cases n2 <;> cases n3 <;> simp
  ·simp only [m2, decide_false]
   cases n0 <;> cases n1 <;> cases n2 <;> cases n3 <;> cases t <;> simp
end
theorem maxTo_nn {p : Nat -> Int} : ∀ n, 0 <= maxTo p n
 | 0 => Int.le_refl 0
 | n + 1 => by have := maxTo_nn (p := p) n; simp only [maxTo]; omega
def pxD (f : Nat -> List V) (i : Nat) : Int := 2 * jv0 (f i)
def pyD (f : Nat -> List V) (i : Nat) : Int := 2 * jv1 (f i)
def OnP (f : Nat -> List V) (w px py k : Int) (i : Nat) : Prop := Nq (pxD f i) (pyD f i) (pxD f (i + 1)) (pyD f (i + 1)) (2 * px) (2 * py) k w
section
variable {n : Nat} {f : Nat -> List V} {w : Int}
theorem p61_v (hr : RoadIn n f w) {i : Nat} (hi : i < n - 1) {X0 Y0 X1 Y1 : Int} (g1 : pl X0) (g2 : pl Y0) (g3 : pl X1) (g4 : pl Y1) (hX : X0 <= X1) (hY : Y0 <= Y1) :
 (p61 n f w X0 Y0 X1 Y1 i = 2 ↔ OnP f w X0 Y0 1 i /\ OnP f w X1 Y0 1 i /\ OnP f w X1 Y1 1 i /\ OnP f w X0 Y1 1 i) /\
 (p61 n f w X0 Y0 X1 Y1 i = 0 ↔ ¬ Hit (pxD f i) (pyD f i) (pxD f (i + 1)) (pyD f (i + 1)) (2 * X0) (2 * Y0) (2 * X1) (2 * Y1) w) /\ 0 <= p61 n f w X0 Y0 X1 Y1 i /\ p61 n f w X0 Y0 X1 Y1 i <= 2 := by
 have hj : i + 1 < n := by omega
 obtain ⟨a1, a2⟩ := hr.pts i (by omega)
 obtain ⟨b1, b2⟩ := hr.pts (i + 1) hj
 have := hr.w1
 have := hr.w2
 have hw := w1p (j := i) (n := n) (by omega) hr.eight
 unfold p61
 rw [hw]
 have k := piece_v (ax := IntKind.i64.wrap (2 * jv0 (f i))) (ay := IntKind.i64.wrap (2 * jv1 (f i))) (bx := IntKind.i64.wrap (2 * jv0 (f (i + 1)))) (b2 := IntKind.i64.wrap (2 * jv1 (f (i + 1)))) (w := w)
  (by rw [(dpt a1).1]; exact (dpt a1).2) (by rw [(dpt a2).1]; exact (dpt a2).2) (by rw [(dpt b1).1]; exact (dpt b1).2) (by rw [(dpt b2).1]; exact (dpt b2).2) g1 g2 g3 g4 hX hY (by omega) (by omega)
 rw [nr_iff (by omega), nr_iff (by omega), nr_iff (by omega), nr_iff (by omega), (dpt a1).1, (dpt a2).1, (dpt b1).1, (dpt b2).1] at k
 unfold OnP pxD pyD
 rw [(dpt a1).1, (dpt a2).1, (dpt b1).1, (dpt b2).1]
 exact k
theorem p74_v (hr : RoadIn n f w) {i : Nat} (hi : i < n - 1) {x y : Int} (g1 : pl x) (g2 : pl y) : p74 n f w x y i = true ↔ OnP f w x y 1 i := by
 have hj : i + 1 < n := by omega
 obtain ⟨a1, a2⟩ := hr.pts i (by omega)
 obtain ⟨b1, b2⟩ := hr.pts (i + 1) hj
 have := hr.w1
 have := hr.w2
 have hw := w1p (j := i) (n := n) (by omega) hr.eight
 unfold p74 OnP pxD pyD
 rw [hw]
 have s1 : sm (IntKind.i64.wrap (2 * jv0 (f i))) := by rw [(dpt a1).1]; exact (dpt a1).2
 have s2 : sm (IntKind.i64.wrap (2 * jv1 (f i))) := by rw [(dpt a2).1]; exact (dpt a2).2
 have s3 : sm (IntKind.i64.wrap (2 * jv0 (f (i + 1)))) := by rw [(dpt b1).1]; exact (dpt b1).2
 have s4 : sm (IntKind.i64.wrap (2 * jv1 (f (i + 1)))) := by rw [(dpt b2).1]; exact (dpt b2).2
 rw [corner_p s1 s2 s3 s4 (by omega) (by omega) g1 g2, nr_iff (by omega), (dpt a1).1, (dpt a2).1, (dpt b1).1, (dpt b2).1]
theorem F61_0 (hr : RoadIn n f w) {X0 Y0 X1 Y1 : Int} (g1 : pl X0) (g2 : pl Y0) (g3 : pl X1) (g4 : pl Y1) (hX : X0 <= X1) (hY : Y0 <= Y1) :
 F61 n f w X0 Y0 X1 Y1 ≠ 0 ↔ ∃ i, i < n - 1 /\ Hit (pxD f i) (pyD f i) (pxD f (i + 1)) (pyD f (i + 1)) (2 * X0) (2 * Y0) (2 * X1) (2 * Y1) w := by
 unfold F61
 constructor
 ·intro h
  apply Classical.byContradiction; intro hn
  apply h
  have : maxTo (p61 n f w X0 Y0 X1 Y1) (n - 1) <= 0 := maxTo_le (Int.le_refl 0) fun i hi => by
   have k := p61_v hr hi g1 g2 g3 g4 hX hY
   have := k.2.1.2 fun hh => hn ⟨i, hi, hh⟩
   omega
  have := maxTo_nn (p := p61 n f w X0 Y0 X1 Y1) (n - 1)
  omega
 ·rintro ⟨i, hi, hh⟩
  have k := p61_v hr hi g1 g2 g3 g4 hX hY
  have := maxTo_ge (p := p61 n f w X0 Y0 X1 Y1) hi
  have h0 : p61 n f w X0 Y0 X1 Y1 i ≠ 0 := fun h => k.2.1.1 h hh
  omega
end
end
end Go.Dx
namespace Go.Dx
open Go.IntKind (i64 u64 u8)
open Go.Sx
noncomputable section
section
variable {ax ay bx b2 r X0 Y0 X1 Y1 : Int}
theorem nq_row {a b x y : Int} (hr : 0 <= r) (h1 : Nq ax ay bx b2 a y 1 r) (h2 : Nq ax ay bx b2 b y 1 r) (ha : a <= x) (hb : x <= b) : Nq ax ay bx b2 x y 1 r := by
 by_cases e : a = b
 ·rw [show x = a by omega]; exact h1
 ·have h := Nq.cv (j := x - a) (l := b - a) hr (by omega) h1 h2 (by omega) (by omega) (by omega)
  rw [show (b - a - (x - a)) * a + (x - a) * b = (b - a) * x by grind, show (b - a - (x - a)) * y + (x - a) * y = (b - a) * y by grind] at h
  rw [Int.one_mul] at h
  exact (Nq.scale (k := 1) (l := b - a) (by omega)).2 (by rw [Int.mul_one]; exact h)
theorem nq_col {a b x y : Int} (hr : 0 <= r) (h1 : Nq ax ay bx b2 x a 1 r) (h2 : Nq ax ay bx b2 x b 1 r) (ha : a <= y) (hb : y <= b) : Nq ax ay bx b2 x y 1 r := by
 by_cases e : a = b
 ·rw [show y = a by omega]; exact h1
 ·have h := Nq.cv (j := y - a) (l := b - a) hr (by omega) h1 h2 (by omega) (by omega) (by omega)
  rw [show (b - a - (y - a)) * a + (y - a) * b = (b - a) * y by grind, show (b - a - (y - a)) * x + (y - a) * x = (b - a) * x by grind] at h
  rw [Int.one_mul] at h
  exact (Nq.scale (k := 1) (l := b - a) (by omega)).2 (by rw [Int.mul_one]; exact h)
theorem Hit.sub {U0 V0 U1 V1 : Int} (h : Hit ax ay bx b2 X0 Y0 X1 Y1 r) (a1 : U0 <= X0) (a2 : X1 <= U1) (b1 : V0 <= Y0) (b2' : Y1 <= V1) : Hit ax ay bx b2 U0 V0 U1 V1 r := by
 obtain ⟨px, py, k, hk, h1, h2, h3⟩ := h
 have hk0 := Int.le_of_lt hk
 have := iml a1 hk0
 have := iml a2 hk0
 have := iml b1 hk0
 have := iml b2' hk0
 exact ⟨px, py, k, hk, by omega, by omega, h3⟩
theorem Hit.pt {x y : Int} (h : Hit ax ay bx b2 x y x y r) : Nq ax ay bx b2 x y 1 r := by
 obtain ⟨px, py, k, hk, h1, h2, h3⟩ := h
 refine (Nq.scale (k := 1) hk).2 ?_
 rw [Int.mul_one, show k * x = px by omega, show k * y = py by omega]
 exact h3
theorem Hit.of {x y : Int} (h : Nq ax ay bx b2 x y 1 r) (a1 : X0 <= x) (a2 : x <= X1) (b1 : Y0 <= y) (b2' : y <= Y1) : Hit ax ay bx b2 X0 Y0 X1 Y1 r := ⟨x, y, 1, by omega, by omega, by omega, h⟩
theorem Nq.wide {px py k s : Int} (hr : 0 <= r) (hs : r <= s) (hk : 0 < k) (h : Nq ax ay bx b2 px py k r) : Nq ax ay bx b2 px py k s := by
 obtain ⟨n, m, h1, h2, h3, h4⟩ := h
 have hmk : 0 <= m * k := Int.le_of_lt (Int.mul_pos h3 hk)
 exact ⟨n, m, h1, h2, h3, Int.le_trans h4 (Int.mul_le_mul (iml hs hmk) (iml hs hmk) (imn hmk hr) (imn hmk (Int.le_trans hr hs)))⟩
end
section
variable {n : Nat} {f : Nat -> List V} {w X0 Y0 X1 Y1 : Int}
theorem OnP.all {x y : Int} {i : Nat} (hw : 0 <= w) (h : OnP f w X0 Y0 1 i /\ OnP f w X1 Y0 1 i /\ OnP f w X1 Y1 1 i /\ OnP f w X0 Y1 1 i) (a1 : X0 <= x) (a2 : x <= X1) (b1 : Y0 <= y) (b2 : y <= Y1) : OnP f w x y 1 i :=
 nq_col hw (nq_row hw h.1 h.2.1 (by omega) (by omega)) (nq_row hw h.2.2.2 h.2.2.1 (by omega) (by omega)) (by omega) (by omega)
theorem F61_2 (hr : RoadIn n f w) (g1 : pl X0) (g2 : pl Y0) (g3 : pl X1) (g4 : pl Y1) (hX : X0 <= X1) (hY : Y0 <= Y1) :
 (F61 n f w X0 Y0 X1 Y1 = 2 ↔ ∃ i, i < n - 1 /\ OnP f w X0 Y0 1 i /\ OnP f w X1 Y0 1 i /\ OnP f w X1 Y1 1 i /\ OnP f w X0 Y1 1 i) /\ 0 <= F61 n f w X0 Y0 X1 Y1 /\ F61 n f w X0 Y0 X1 Y1 <= 2 := by
 unfold F61
 have hle : maxTo (p61 n f w X0 Y0 X1 Y1) (n - 1) <= 2 := maxTo_le (by decide) fun i hi => (p61_v hr hi g1 g2 g3 g4 hX hY).2.2.2
 refine ⟨⟨fun h => ?_, ?_⟩, maxTo_nn _, hle⟩
 ·apply Classical.byContradiction; intro hn
  have : maxTo (p61 n f w X0 Y0 X1 Y1) (n - 1) <= 1 := maxTo_le (by decide) fun i hi => by
   have k := p61_v hr hi g1 g2 g3 g4 hX hY
   have := k.2.2.2
   have h0 : p61 n f w X0 Y0 X1 Y1 i ≠ 2 := fun h => hn ⟨i, hi, k.1.1 h⟩
   omega
  omega
 ·rintro ⟨i, hi, hh⟩
  have := maxTo_ge (p := p61 n f w X0 Y0 X1 Y1) hi
  have := (p61_v hr hi g1 g2 g3 g4 hX hY).1.2 hh
  omega
theorem F74_v (hr : RoadIn n f w) {x y : Int} (g1 : pl x) (g2 : pl y) : F74 n f w x y = true ↔ ∃ i, i < n - 1 /\ OnP f w x y 1 i := by
 unfold F74
 rw [exB_iff]
 exact ⟨fun ⟨i, hi, h⟩ => ⟨i, hi, (p74_v hr hi g1 g2).1 h⟩, fun ⟨i, hi, h⟩ => ⟨i, hi, (p74_v hr hi g1 g2).2 h⟩⟩
end
end
noncomputable section
theorem from_of {a l h : Int} (h1 : l <= a) (h2 : a <= h) : F71_0 a l h = true := by unfold F71_0; simp [h1, h2]
theorem pt_of {x y : Int} (hx : -100000 <= x /\ x <= 100000) (hy : -100000 <= y /\ y <= 100000) : ptOk x y = true := by
 unfold ptOk F51
 refine allB_of fun i hi => ?_
 match i, hi with
 | 0, _ => exact from_of hx.1 hx.2
 | 1, _ => exact from_of hy.1 hy.2
section
variable {n0 : Nat} {f0 : Nat -> List V} {n2 : Nat} {f2 : Nat -> List V} {n4 : Nat} {f4 : Nat -> List V} {n6 : Nat} {f6 : Nat -> List V} {x8 : Int}
abbrev rN (f0 : FnV) (i : Int) : Nat := lenV (hdV (tlV (tlV (f0 i.toNat))))
abbrev rF (f0 : FnV) (i : Int) : Nat -> List V := fun j => views tp2 (atV (hdV (tlV (tlV (f0 i.toNat)))) j)
abbrev rW (f0 : FnV) (i : Int) : Int := jv3 (f0 i.toNat)
theorem meets_v {a b c d : Int} : F22_1 n0 f0 n2 f2 n4 f4 n6 f6 x8 a b c d = (bif ecol n0 f0 n2 f2 n4 f4 n6 f6 x8 n0 != 0 then ecol n0 f0 n2 f2 n4 f4 n6 f6 x8 n0 else bif !F58_0 a b c d then 7 else 0) /\
 (ecol n0 f0 n2 f2 n4 f4 n6 f6 x8 n0 = 0 -> F58_0 a b c d = true -> F22_0 n0 f0 n2 f2 n4 f4 n6 f6 x8 a b c d = F61 (rN f0 x8) (rF f0 x8) (rW f0 x8) a b c d /\ RoadIn (rN f0 x8) (rF f0 x8) (rW f0 x8)) /\ (ecol n0 f0 n2 f2 n4 f4 n6 f6 x8 n0 ≠ 0 -> F22_0 n0 f0 n2 f2 n4 f4 n6 f6 x8 a b c d = 0) := by
 have hc := chk2 (n0 := n0) (f0 := f0) (n2 := n2) (f2 := f2) (n4 := n4) (f4 := f4) (n6 := n6) (f6 := f6) (i := x8) (m := n0) (fun h => by have := (valid h).l0; omega)
 unfold F22_0 F22_1 ecol
 rw [hc, rough_eq]
 refine ⟨rfl, fun he hp => ?_, fun he => ?_⟩
 ·rw [he, hp]; exact ⟨rfl, ix_road he⟩
 ·rw [show (ix1 (F24_2 n0 (elV tyR f0) n2 (elV tyT f2) n4 (elV tyF f4) n6 (elV tyC f6)) x8 (n0 : Int) != 0) = true from by simpa using he]; rfl
theorem on_v {x y : Int} : F25_1 n0 f0 n2 f2 n4 f4 n6 f6 x8 x y = (bif ecol n0 f0 n2 f2 n4 f4 n6 f6 x8 n0 != 0 then ecol n0 f0 n2 f2 n4 f4 n6 f6 x8 n0 else bif !ptOk x y then 7 else 0) /\
 (ecol n0 f0 n2 f2 n4 f4 n6 f6 x8 n0 = 0 -> ptOk x y = true -> F25_0 n0 f0 n2 f2 n4 f4 n6 f6 x8 x y = F74 (rN f0 x8) (rF f0 x8) (rW f0 x8) x y /\ RoadIn (rN f0 x8) (rF f0 x8) (rW f0 x8)) := by
 have hc := chk2 (n0 := n0) (f0 := f0) (n2 := n2) (f2 := f2) (n4 := n4) (f4 := f4) (n6 := n6) (f6 := f6) (i := x8) (m := n0) (fun h => by have := (valid h).l0; omega)
 unfold F25_0 F25_1 ecol
 rw [hc, wild_placed]
 refine ⟨rfl, fun he hp => ?_⟩
 have hp' : F51 2 (elV tp1 (secF [vi x, vi y] 0 1)) = true := hp
 rw [he, hp']; exact ⟨rfl, ix_road he⟩
end
end
noncomputable section
theorem hb1 {m n o e f g : Int} (hf : f = e) (hg : g = e) (h0 : m = 0 ↔ n = 0 /\ o = 0) (h2 : m = 2 -> n = 2 /\ o = 2) : (bif bif bif e != f then true else e != g then true else !(m == 0) == bif n == 0 then o == 0 else false then true else bif m == 2 then bif n != m then true else o != m else false) = false := by
 subst hf; subst hg
 rw [bne_self_eq_false, cond_false, cond_false]
 have e1 : ((m == 0) == bif n == 0 then o == 0 else false) = true := by
  by_cases hm : m = 0
  ·obtain ⟨k1, k2⟩ := h0.1 hm
   rw [hm, k1, k2]; rfl
  ·have : ¬ (n = 0 /\ o = 0) := fun h => hm (h0.2 h)
   rw [show (m == 0) = false from by simpa using hm]
   by_cases hn : n = 0
   ·have ho : o ≠ 0 := fun h => this ⟨hn, h⟩
    rw [hn, show (o == 0) = false from by simpa using ho]; rfl
   ·rw [show (n == 0) = false from by simpa using hn]; rfl
 rw [e1, Bool.not_true, cond_false]
 by_cases hm : m = 2
 ·obtain ⟨k1, k2⟩ := h2 hm
  rw [hm, k1, k2]; rfl
 ·rw [show (m == 2) = false from by simpa using hm]; rfl
theorem hb2 {m n o e f g : Int} (hf : f = e) (hg : g = e) (h0 : m = 0 ↔ n = 0 /\ o = 0) (h2 : m = 2 -> n = 2 /\ o = 2) : (bif bif bif e == f then e == g else false then (m == 0) == bif n == 0 then o == 0 else false else false then bif m != 2 then true else bif n == m then o == m else false else false) = true := by
 subst hf; subst hg
 rw [BEq.rfl, cond_true, cond_true]
 have e1 : ((m == 0) == bif n == 0 then o == 0 else false) = true := by
  by_cases hm : m = 0
  ·obtain ⟨k1, k2⟩ := h0.1 hm
   rw [hm, k1, k2]; rfl
  ·have : ¬ (n = 0 /\ o = 0) := fun h => hm (h0.2 h)
   rw [show (m == 0) = false from by simpa using hm]
   by_cases hn : n = 0
   ·have ho : o ≠ 0 := fun h => this ⟨hn, h⟩
    rw [hn, show (o == 0) = false from by simpa using ho]; rfl
   ·rw [show (n == 0) = false from by simpa using hn]; rfl
 rw [e1, cond_true]
 by_cases hm : m = 2
 ·obtain ⟨k1, k2⟩ := h2 hm
  rw [hm, k1, k2]; rfl
 ·rw [show (m != 2) = true from by simpa using hm]; rfl
end
end Go.Dx
namespace Go.Dx
open Go.IntKind (i64 u64 u8)
open Go.Sx Go.Proofs
noncomputable section
def ctB36 : CTab := (19, .con C19) :: (17, .con C17) :: ctB31
theorem tabB36 : TabOk Tryz.prog eqs its ctB36 := .con ok19 (.con ok17 (tabB31))
attribute [local irreducible] F44 F50_0 F91_0 F84_0 F84_1 F85_0
inductive S34 where
 | L0 (ia0 : Int) (na1 na2 : Nat) (ia3 ia4 : Int) (fa5 : Nat -> List V)
def inv34 (n0 : Nat) (f0 : FnV) (n2 : Nat) (f2 : FnV) (n4 : Nat) (f4 : FnV) (n6 : Nat) (f6 : FnV) (x8 : Int) : S34 -> Env × List O × Option Ex
 | .L0 ia0 na1 na2 ia3 ia4 fa5 => ([(10, vi ia0), (9, vi (i64.wrap ((↑(lenV (hdV (tlV (tlV (f0 x8.toNat))))) : Int) - 1))), (8, vi (↑(lenV (hdV (tlV (tlV (f0 x8.toNat))))) : Int)), (7, V.sl (lenV (hdV (tlV (tlV (f0 x8.toNat))))) fun i => views tp2 (atV (hdV (tlV (tlV (f0 x8.toNat)))) i)), (6, V.pl 5 2), (0, V.yl na1), (1, V.pl 5 0)], [O.cells [V.sl n0 (elV tyR f0), V.sl n2 (elV tyT f2), V.sl n4 (elV tyF f4), V.sl n6 (elV tyC f6)] 27, O.cells [vi x8, vi (↑n0 : Int)] 3, O.cells [V.gs 6 na2] 73, O.cells [vi ia3, vi ia4] 95, O.cells [vi ia0] 3, O.cells [V.str (sv (hdV (f0 x8.toNat))), vi (jv1 (f0 x8.toNat)), V.sl (lenV (hdV (tlV (tlV (f0 x8.toNat))))) fun i => views tp2 (atV (hdV (tlV (tlV (f0 x8.toNat)))) i), vi (jv3 (f0 x8.toNat))] 54, O.gl 1 na2 (elV tp1 fa5) 3], none)
def id34 : S34 -> JJ
 | .L0 ia0 na1 na2 ia3 ia4 fa5 => (0, [Cx.n na1])
def rl34 (n0 : Nat) (f0 : FnV) (n2 : Nat) (f2 : FnV) (n4 : Nat) (f4 : FnV) (n6 : Nat) (f6 : FnV) (x8 : Int) : T (Leaf JJ) := runLL JJ 1 3 ctB36 u0 s34 [scV n0 f0 n2 f2 n4 f4 n6 f6, vi x8]
def lp34_0 (n0 : Nat) (f0 : FnV) (n2 : Nat) (f2 : FnV) (n4 : Nat) (f4 : FnV) (n6 : Nat) (f6 : FnV) (x8 : Int) (cx : List Cx) : Lp JJ := lpT (atT (afT (atT (rl34 n0 f0 n2 f2 n4 f4 n6 f6 x8) [false]) (cxn cx 0)) [])
def lp34 (n0 : Nat) (f0 : FnV) (n2 : Nat) (f2 : FnV) (n4 : Nat) (f4 : FnV) (n6 : Nat) (f6 : FnV) (x8 : Int) : JJ -> Lp JJ
 | (0, cx) => lp34_0 n0 f0 n2 f2 n4 f4 n6 f6 x8 cx
 | (_, cx) => lp34_0 n0 f0 n2 f2 n4 f4 n6 f6 x8 cx
def D34 (n0 : Nat) (f0 : FnV) (n2 : Nat) (f2 : FnV) (n4 : Nat) (f4 : FnV) (n6 : Nat) (f6 : FnV) (x8 : Int) : LD JJ S34 := ⟨id34, lp34 n0 f0 n2 f2 n4 f4 n6 f6 x8, inv34 n0 f0 n2 f2 n4 f4 n6 f6 x8⟩
def st34 (n0 : Nat) (f0 : FnV) (n2 : Nat) (f2 : FnV) (n4 : Nat) (f4 : FnV) (n6 : Nat) (f6 : FnV) (x8 : Int) : S34 -> RT S34
 | .L0 ia0 na1 na2 ia3 ia4 fa5 => .br (decide (ia0 < i64.wrap ((↑(lenV (hdV (tlV (tlV (f0 x8.toNat))))) : Int) - 1))) (.ob (decide (0 <= ia0 /\ ia0 < (↑(lenV (hdV (tlV (tlV (f0 x8.toNat))))) : Int))) (.ob (decide (0 <= i64.wrap (ia0 + 1) /\ i64.wrap (ia0 + 1) < (↑(lenV (hdV (tlV (tlV (f0 x8.toNat))))) : Int))) (.obt (.obt (.obt (.obt (.obc (.obt (.br (decide (0 < ia0)) (.ob (decide (0 < ia0)) (.ob (decide (0 < ia0)) (.obc (.obt (.br (decide (F85_0 (F84_0 (i64.wrap (2 * jv0 (atV (hdV (tlV (tlV (f0 x8.toNat)))) (i64.wrap (ia0 + 1)).toNat))) (i64.wrap (2 * jv0 (atV (hdV (tlV (tlV (f0 x8.toNat)))) ia0.toNat)))) (F84_1 (i64.wrap (2 * jv1 (atV (hdV (tlV (tlV (f0 x8.toNat)))) (i64.wrap (ia0 + 1)).toNat))) (i64.wrap (2 * jv1 (atV (hdV (tlV (tlV (f0 x8.toNat)))) ia0.toNat)))) ia3 ia4 <= 0)) (.obt (.ob (decide (na2 <= na2 /\ (na2 + 1) * 8 <= 140737488355328) && !Nat.beq 8 0) (.next (iR 0 6 [some (some 12)]) (S34.L0 (i64.wrap (ia0 + 1)) (na1) (na2 + 1) (F84_0 (i64.wrap (2 * jv0 (atV (hdV (tlV (tlV (f0 x8.toNat)))) (i64.wrap (ia0 + 1)).toNat))) (i64.wrap (2 * jv0 (atV (hdV (tlV (tlV (f0 x8.toNat)))) ia0.toNat)))) (F84_1 (i64.wrap (2 * jv1 (atV (hdV (tlV (tlV (f0 x8.toNat)))) (i64.wrap (ia0 + 1)).toNat))) (i64.wrap (2 * jv1 (atV (hdV (tlV (tlV (f0 x8.toNat)))) ia0.toNat)))) (joinF na2 (elV tp1 fa5) fun x => [vi ia0])) [⟨6, tp1, na2 + 1, joinF na2 (elV tp1 fa5) fun x => [vi ia0], vf_join (vf_view rfl _ _) (vf_const rfl _ rfl)⟩]))) (.next (iR 0 7 []) (S34.L0 (i64.wrap (ia0 + 1)) (na1) (na2) (F84_0 (i64.wrap (2 * jv0 (atV (hdV (tlV (tlV (f0 x8.toNat)))) (i64.wrap (ia0 + 1)).toNat))) (i64.wrap (2 * jv0 (atV (hdV (tlV (tlV (f0 x8.toNat)))) ia0.toNat)))) (F84_1 (i64.wrap (2 * jv1 (atV (hdV (tlV (tlV (f0 x8.toNat)))) (i64.wrap (ia0 + 1)).toNat))) (i64.wrap (2 * jv1 (atV (hdV (tlV (tlV (f0 x8.toNat)))) ia0.toNat)))) (elV tp1 fa5)) [⟨6, tp1, na2, elV tp1 fa5, vf_view rfl _ _⟩])))))) (.next (iR 0 7 []) (S34.L0 (i64.wrap (ia0 + 1)) (na1) (na2) (F84_0 (i64.wrap (2 * jv0 (atV (hdV (tlV (tlV (f0 x8.toNat)))) (i64.wrap (ia0 + 1)).toNat))) (i64.wrap (2 * jv0 (atV (hdV (tlV (tlV (f0 x8.toNat)))) ia0.toNat)))) (F84_1 (i64.wrap (2 * jv1 (atV (hdV (tlV (tlV (f0 x8.toNat)))) (i64.wrap (ia0 + 1)).toNat))) (i64.wrap (2 * jv1 (atV (hdV (tlV (tlV (f0 x8.toNat)))) ia0.toNat)))) (elV tp1 fa5)) [⟨6, tp1, na2, elV tp1 fa5, vf_view rfl _ _⟩])))))))))) (.ob (decide (na2 <= na2)) (.ret (V.tup [V.sl na2 (elV tp1 fa5), vi 0])))
def m34 (n0 : Nat) (f0 : FnV) (n2 : Nat) (f2 : FnV) (n4 : Nat) (f4 : FnV) (n6 : Nat) (f6 : FnV) (x8 : Int) : RT S34 := .asm (true = true -> n0 <= 9223372036854775807) (.obp (((∀ (i : Nat), i < n0 -> (sv (hdV (f0 i))).size <= (9223372036854775807 : Nat)) /\ ∀ (i : Nat), i < n6 -> (sv (hdV (f6 i))).size <= (9223372036854775807 : Nat)) /\ (0 : Nat) = (0 : Nat) /\ (2 : Nat) <= (100 : Nat)) (.obt (.br (F44 n0 (elV tyR f0) n2 (elV tyT f2) n4 (elV tyF f4) n6 (elV tyC f6) 2 (elV tp1 (secF [vi x8, vi (↑n0 : Int)] 0 1)) != 0) (.obt (.ret (V.tup [V.sl 0 fun x => [], vi (F44 n0 (elV tyR f0) n2 (elV tyT f2) n4 (elV tyF f4) n6 (elV tyC f6) 2 (elV tp1 (secF [vi x8, vi (↑n0 : Int)] 0 1)))]))) (.ob (decide (0 <= x8 /\ x8 < (↑n0 : Int))) (.all (fun l_4926 => .asm (true = true -> lenV (hdV (tlV (tlV (f0 x8.toNat)))) <= 9223372036854775807) (.enter (iR 0 6 [some none]) (S34.L0 (0) (l_4926) (0) (0) (0) (fun i => [])) [])))))))
theorem run34 (n0 : Nat) (f0 : FnV) (n2 : Nat) (f2 : FnV) (n4 : Nat) (f4 : FnV) (n6 : Nat) (f6 : FnV) (x8 : Int) : Fits ctB36 u0 (D34 n0 f0 n2 f2 n4 f4 n6 f6 x8) (rl34 n0 f0 n2 f2 n4 f4 n6 f6 x8) (m34 n0 f0 n2 f2 n4 f4 n6 f6 x8) (st34 n0 f0 n2 f2 n4 f4 n6 f6 x8) := ⟨⟨by kernel_rfl, by kernel_rfl⟩, fun s => by cases s <;> exact ⟨by kernel_rfl, by kernel_rfl⟩⟩
def ptB (f0 : FnV) (x8 : Int) (k : Nat) : List V := atV (hdV (tlV (tlV (f0 x8.toNat)))) k
def dxB (f0 : FnV) (x8 : Int) (k : Nat) : Int := F84_0 (i64.wrap (2 * jv0 (ptB f0 x8 (k + 1)))) (i64.wrap (2 * jv0 (ptB f0 x8 k)))
def dyB (f0 : FnV) (x8 : Int) (k : Nat) : Int := F84_1 (i64.wrap (2 * jv1 (ptB f0 x8 (k + 1)))) (i64.wrap (2 * jv1 (ptB f0 x8 k)))
def bqB (f0 : FnV) (x8 : Int) (k : Nat) : Bool := decide (F85_0 (dxB f0 x8 k) (dyB f0 x8 k) (dxB f0 x8 (k - 1)) (dyB f0 x8 (k - 1)) <= 0)
def bnL (q : Nat -> Bool) : Nat -> List Int
 | 0 => []
 | k + 1 => bif decide (0 < k) && q k then bnL q k ++ [(k : Int)] else bnL q k
theorem bnL_len (q : Nat -> Bool) : ∀ k, (bnL q k).length <= k
 | 0 => Nat.le_refl _
 | k + 1 => by
   have := bnL_len q k
   unfold bnL
   cases decide (0 < k) && q k with
   | true => simp; omega
   | false => simp; omega
def bnF (L : List Int) : Nat -> List V := fun j => [V.int .i64 (L.getD j 0)]
def bnR (e : Int) (L : List Int) : V := .tup [.sl (bif e != 0 then 0 else L.length) (elV tp1 (bnF L)), .int .i64 e]
theorem bnd_snoc {n k : Nat} {f : Nat -> List V} {L : List Int} (hn : n = L.length) (h : ∀ j, j < n -> views tp1 (f j) = [V.int .i64 (L.getD j 0)]) :
 ∀ j, j < n + 1 -> views tp1 (joinF n (elV tp1 f) (fun _ => [vi (k : Int)]) j) = [V.int .i64 ((L ++ [(k : Int)]).getD j 0)] := fun j hj => by
 unfold joinF
 by_cases hlt : j < n
 ·have hb : Nat.blt j n = true := Nat.ble_eq_true_of_le hlt
  rw [hb]
  show views _ (views _ (f j)) = _
  rw [views_idem, h j hlt]
  simp only [List.getD]
  rw [List.getElem?_append_left (by omega)]
 ·have hb : Nat.blt j n = false := by
   cases hb : Nat.blt j n with
   | false => rfl
   | true => have := Nat.le_of_ble_eq_true hb; omega
  have e : j = L.length := by omega
  rw [hb]
  subst e
  simp [views, view, iv, hdV]
theorem z34 (n0 : Nat) (f0 : FnV) (n2 : Nat) (f2 : FnV) (n4 : Nat) (f4 : FnV) (n6 : Nat) (f6 : FnV) (x8 : Int) (he : (F44 n0 (elV tyR f0) n2 (elV tyT f2) n4 (elV tyF f4) n6 (elV tyC f6) 2 (elV tp1 (secF [vi x8, vi (↑n0 : Int)] 0 1)) != 0) = false) : (0 <= x8 /\ x8 < n0) /\ RoadIn (lenV (hdV (tlV (tlV (f0 x8.toNat))))) (fun j => views tp2 (atV (hdV (tlV (tlV (f0 x8.toNat)))) j)) (jv3 (f0 x8.toNat)) := by
 have e0 : F44 n0 (elV tyR f0) n2 (elV tyT f2) n4 (elV tyF f4) n6 (elV tyC f6) 2 (elV tp1 (secF [vi x8, vi (↑n0 : Int)] 0 1)) = 0 := by simpa using he
 have hc := chk2 (n0 := n0) (f0 := f0) (n2 := n2) (f2 := f2) (n4 := n4) (f4 := f4) (n6 := n6) (f6 := f6) (i := x8) (m := n0) (fun h => by have := (valid h).l0; omega)
 have hz : ix1 (F24_2 n0 (elV tyR f0) n2 (elV tyT f2) n4 (elV tyF f4) n6 (elV tyC f6)) x8 n0 = 0 := hc.symm.trans e0
 exact ⟨(ix1_zero hz).2, ix_road hz⟩
theorem c34 (n0 : Nat) (f0 : FnV) (n2 : Nat) (f2 : FnV) (n4 : Nat) (f4 : FnV) (n6 : Nat) (f6 : FnV) (x8 : Int) (h2 : 2 <= (lenV (hdV (tlV (tlV (f0 x8.toNat)))))) (h8 : (lenV (hdV (tlV (tlV (f0 x8.toNat))))) <= 8) (l : Nat) {r : V} (hr : r = .tup [.sl (bnL (bqB f0 x8) ((lenV (hdV (tlV (tlV (f0 x8.toNat))))) - 1)).length (elV tp1 (bnF (bnL (bqB f0 x8) ((lenV (hdV (tlV (tlV (f0 x8.toNat))))) - 1)))), .int .i64 0]) :
 ∀ k, k <= (lenV (hdV (tlV (tlV (f0 x8.toNat))))) - 1 -> ∀ (n : Nat) (dx dy : Int) (f : Nat -> List V), n = (bnL (bqB f0 x8) k).length -> (∀ j, j < n -> views tp1 (f j) = [V.int .i64 ((bnL (bqB f0 x8) k).getD j 0)]) -> (0 < k -> dx = dxB f0 x8 (k - 1) /\ dy = dyB f0 x8 (k - 1)) ->
 Ev (st34 n0 f0 n2 f2 n4 f4 n6 f6 x8) (.L0 (k : Int) l n dx dy f) r := by
 have hw : i64.wrap (((lenV (hdV (tlV (tlV (f0 x8.toNat))))) : Int) - 1) = (((lenV (hdV (tlV (tlV (f0 x8.toNat))))) - 1 : Nat) : Int) := by rw [wrapI (by omega) (by omega)]; omega
 refine up_ind fun k hk ih n dx dy f hn hf hd => ?_
 have hl := bnL_len (bqB f0 x8) k
 refine Ev.of rfl ?_
 by_cases hlt : k < (lenV (hdV (tlV (tlV (f0 x8.toNat))))) - 1
 ·have hk1 : i64.wrap ((k : Int) + 1) = ((k + 1 : Nat) : Int) := by rw [wrapI (by omega) (by omega)]; omega
  have ih := ih hlt
  refine evBrT (dqt (by rw [hw]; omega)) (evOb (dqt (by omega)) (evOb (dqt (by rw [hk1]; omega)) (evObt (evObt (evObt (evObt (evObc (evObt (evBr (fun h => ?_) (fun h => evNext ?_)))))))))) 
  ·have h0 := of_decide_eq_true h
   have h0' : 0 < k := by omega
   refine evOb h (evOb h (evObc (evObt (evBr (fun hq => evObt (evOb ?_ (evNext ?_))) (fun hq => evNext ?_)))))
   ·simp only [Bool.and_eq_true]; exact ⟨dqt ⟨Nat.le_refl _, by omega⟩, rfl⟩
   ·rw [hk1, Int.toNat_natCast, Int.toNat_natCast] at hq ⊢
    have hb : bqB f0 x8 k = true := by rw [(hd h0').1, (hd h0').2] at hq; exact hq
    have e : bnL (bqB f0 x8) (k + 1) = bnL (bqB f0 x8) k ++ [(k : Int)] := by rw [bnL, dqt h0', hb]; rfl
    refine ih _ _ _ _ (by rw [e, hn]; simp) ?_ (fun _ => ⟨rfl, rfl⟩)
    rw [e]
    exact bnd_snoc hn hf
   ·rw [hk1, Int.toNat_natCast, Int.toNat_natCast] at hq ⊢
    have hb : bqB f0 x8 k = false := by rw [(hd h0').1, (hd h0').2] at hq; exact hq
    have e : bnL (bqB f0 x8) (k + 1) = bnL (bqB f0 x8) k := by rw [bnL, dqt h0', hb]; rfl
    refine ih _ _ _ _ (by rw [e, hn]) ?_ (fun _ => ⟨rfl, rfl⟩)
    rw [e]
    exact fun j hj => by show views _ (views _ (f j)) = _; rw [views_idem]; exact hf j hj
  ·have h0 := of_decide_eq_false h
   have h0' : k = 0 := by omega
   subst h0'
   rw [hk1, Int.toNat_natCast, Int.toNat_natCast]
   have e : bnL (bqB f0 x8) (0 + 1) = [] := by rfl
   refine ih _ _ _ _ (by rw [e, hn]; rfl) ?_ (fun _ => ⟨rfl, rfl⟩)
   intro j hj
   have : n = 0 := hn
   omega
 ·have e : k = (lenV (hdV (tlV (tlV (f0 x8.toNat))))) - 1 := by omega
  subst e
  refine evBrF (dqf (by rw [hw]; omega)) (evOb (dqt (Nat.le_refl _)) (evRet ?_))
  rw [hr]
  exact toA_tup (toA_list hn fun i hi => by show toAs (views _ (f i)) = _; rw [hf i hi]; rfl) rfl
theorem bqB_v (f0 : FnV) (x8 : Int) : bqB (elV tyR f0) x8 = bqB f0 x8 := rfl
theorem F34_le (e : Int) {L : List Int} {m : Nat} (h : L.length <= m) (hm : m <= 9223372036854775807) : (bif e != 0 then 0 else L.length) <= 9223372036854775807 := by
 cases e != 0 with
 | true => exact Nat.zero_le _
 | false => show L.length <= _; omega
theorem F34_n_le (n0 : Nat) (f0 : FnV) (n2 : Nat) (f2 : FnV) (n4 : Nat) (f4 : FnV) (n6 : Nat) (f6 : FnV) (x8 : Int) : (bif (F44 n0 (elV tyR f0) n2 (elV tyT f2) n4 (elV tyF f4) n6 (elV tyC f6) 2 (elV tp1 (secF [vi x8, vi (↑n0 : Int)] 0 1))) != 0 then 0 else (bnL (bqB f0 x8) ((lenV (hdV (tlV (tlV (f0 x8.toNat))))) - 1)).length) <= 9223372036854775807 := by
 cases h : (F44 n0 (elV tyR f0) n2 (elV tyT f2) n4 (elV tyF f4) n6 (elV tyC f6) 2 (elV tp1 (secF [vi x8, vi (↑n0 : Int)] 0 1))) != 0 with
 | true => exact Nat.zero_le _
 | false =>
   have hr := (z34 n0 f0 n2 f2 n4 f4 n6 f6 x8 h).2.eight
   have hl := bnL_len (bqB f0 x8) ((lenV (hdV (tlV (tlV (f0 x8.toNat))))) - 1)
   show (bnL (bqB f0 x8) ((lenV (hdV (tlV (tlV (f0 x8.toNat))))) - 1)).length <= _
   omega
theorem ev34_0 (n0 : Nat) (f0 : FnV) (n2 : Nat) (f2 : FnV) (n4 : Nat) (f4 : FnV) (n6 : Nat) (f6 : FnV) (x8 : Int) (hp : SzOk n0 f0 /\ SzOk n6 f6) : evR (Ev (st34 n0 f0 n2 f2 n4 f4 n6 f6 x8)) (m34 n0 f0 n2 f2 n4 f4 n6 f6 x8) (bnR (F44 n0 (elV tyR f0) n2 (elV tyT f2) n4 (elV tyF f4) n6 (elV tyC f6) 2 (elV tp1 (secF [vi x8, vi (↑n0 : Int)] 0 1))) (bnL (bqB f0 x8) ((lenV (hdV (tlV (tlV (f0 x8.toNat))))) - 1))) := evAsm1 fun hn => evObp ⟨hp, rfl, by decide⟩ (evObt (evBr (fun h => evObt (evRet (by
 unfold bnR; rw [h]; exact toA_tup (toA_list rfl fun i hi => absurd hi (Nat.not_lt_zero _)) rfl))) (fun h => by
 obtain ⟨⟨z1, z2⟩, hr⟩ := z34 n0 f0 n2 f2 n4 f4 n6 f6 x8 h
 have e0 : F44 n0 (elV tyR f0) n2 (elV tyT f2) n4 (elV tyF f4) n6 (elV tyC f6) 2 (elV tp1 (secF [vi x8, vi (↑n0 : Int)] 0 1)) = 0 := by simpa using h
 refine evOb (dqt ⟨z1, z2⟩) (evAll fun l => evAsm1 fun hl => evEnter ?_)
 refine c34 n0 f0 n2 f2 n4 f4 n6 f6 x8 hr.two hr.eight l ?_ 0 (Nat.zero_le _) 0 0 0 _ rfl (fun j hj => absurd hj (Nat.not_lt_zero _)) (fun h => absurd h (Nat.lt_irrefl _))
 unfold bnR; rw [e0]; rfl)))
def F34_e (n0 : Nat) (f0 : FnV) (n2 : Nat) (f2 : FnV) (n4 : Nat) (f4 : FnV) (n6 : Nat) (f6 : FnV) (x8 : Int) : Int := F44 n0 (elV tyR f0) n2 (elV tyT f2) n4 (elV tyF f4) n6 (elV tyC f6) 2 (elV tp1 (secF [vi x8, vi (↑n0 : Int)] 0 1))
def F34_n (n0 : Nat) (f0 : FnV) (n2 : Nat) (f2 : FnV) (n4 : Nat) (f4 : FnV) (n6 : Nat) (f6 : FnV) (x8 : Int) : Nat := (bif F34_e n0 f0 n2 f2 n4 f4 n6 f6 x8 != 0 then 0 else (bnL (bqB f0 x8) ((lenV (hdV (tlV (tlV (f0 x8.toNat))))) - 1)).length)
def F34_f (n0 : Nat) (f0 : FnV) (n2 : Nat) (f2 : FnV) (n4 : Nat) (f4 : FnV) (n6 : Nat) (f6 : FnV) (x8 : Int) : Nat -> List V := bnF (bnL (bqB f0 x8) ((lenV (hdV (tlV (tlV (f0 x8.toNat))))) - 1))
theorem ev34 (n0 : Nat) (f0 : FnV) (n2 : Nat) (f2 : FnV) (n4 : Nat) (f4 : FnV) (n6 : Nat) (f6 : FnV) (x8 : Int) (hp : SzOk n0 (elV tyR f0) /\ SzOk n6 (elV tyC f6)) : evR (Ev (st34 n0 f0 n2 f2 n4 f4 n6 f6 x8)) (m34 n0 f0 n2 f2 n4 f4 n6 f6 x8) (.tup [.sl (F34_n n0 (elV tyR f0) n2 (elV tyT f2) n4 (elV tyF f4) n6 (elV tyC f6) x8) (elV tp1 (F34_f n0 (elV tyR f0) n2 (elV tyT f2) n4 (elV tyF f4) n6 (elV tyC f6) x8)), .int .i64 (F34_e n0 (elV tyR f0) n2 (elV tyT f2) n4 (elV tyF f4) n6 (elV tyC f6) x8)]) := by
 show evR _ _ (bnR (F44 n0 (elV tyR (elV tyR f0)) n2 (elV tyT (elV tyT f2)) n4 (elV tyF (elV tyF f4)) n6 (elV tyC (elV tyC f6)) 2 (elV tp1 (secF [vi x8, vi (↑n0 : Int)] 0 1))) (bnL (bqB (elV tyR f0) x8) ((lenV (hdV (tlV (tlV ((elV tyR f0) x8.toNat))))) - 1)))
 exact ev34_0 n0 f0 n2 f2 n4 f4 n6 f6 x8 hp
def R34 : List V -> V
 | [.agg [.sl n0 f0, .sl n2 f2, .sl n4 f4, .sl n6 f6], .int _ x8] => .tup [.sl (F34_n n0 f0 n2 f2 n4 f4 n6 f6 x8) (elV tp1 (F34_f n0 f0 n2 f2 n4 f4 n6 f6 x8)), .int .i64 (F34_e n0 f0 n2 f2 n4 f4 n6 f6 x8)]
 | _ => .any
def P34 : List V -> Prop
 | [.agg [.sl n0 f0, .sl n2 f2, .sl n4 f4, .sl n6 f6], .int _ x8] => SzOk n0 f0 /\ SzOk n6 f6
 | _ => False
def tys34 : List Ty := [.agg [.sl tyR, .sl tyT, .sl tyF, .sl tyC], .int .i64]
def C34 : PCon := mkC tys34 P34 R34
theorem okl34 : ∀ ds d p r, C34 ds = some (d, p, r) -> d.1 = d.2 -> p -> okL 1 r := mkC_okL fun ds _ => okL_tup rfl rfl rfl (F34_n_le _ _ _ _ _ _ _ _ _)
theorem ok34 : (vL 1 3 C34).Ok Tryz.prog 34 := mkEL tabB36 Tryz.func34 (by kernel_rfl) fun ds hp => rfs (run34 ..) (ev34 _ _ _ _ _ _ _ _ _ hp)
end
end Go.Dx
namespace Go.Dx
open Go.IntKind (i64 u64 u8)
open Go.Sx
noncomputable section
structure Rev1 (p q : List V) : Prop where
 s : sv (hdV q) = sv (hdV p)
 k : jv1 q = jv1 p
 n : lenV (hdV (tlV (tlV q))) = lenV (hdV (tlV (tlV p)))
 w : jv3 q = jv3 p
 p : ∀ j, j < lenV (hdV (tlV (tlV p))) -> views tp2 (atV (hdV (tlV (tlV q))) j) = views tp2 (atV (hdV (tlV (tlV p))) (lenV (hdV (tlV (tlV p))) - 1 - j))
theorem exB_same {p q : Nat -> Bool} : ∀ {n : Nat}, (∀ j, j < n -> p j = q j) -> exB n p = exB n q
 | 0, _ => rfl
 | n + 1, h => by rw [exB_succ, exB_succ, exB_same fun j hj => h j (by omega), h n (by omega)]
theorem exB_no {p : Nat -> Bool} : ∀ {n : Nat}, (∀ j, j < n -> p j = false) -> exB n p = false
 | 0, _ => rfl
 | n + 1, h => by rw [exB_succ, exB_no fun j hj => h j (by omega), h n (by omega)]; rfl
theorem road_more {n0 : Nat} {f0 : Nat -> List V} {i : Nat} (h : cR n0 f0 i = 0) : F122 (sv (hdV (f0 i))) = true /\ exB i (fun k => (sv (hdV (f0 k))).toList == (sv (hdV (f0 i))).toList) = false /\ F71_0 (jv1 (f0 i)) 0 3 = true /\ tail63 (jv1 (f0 i)) (lenV (hdV (tlV (tlV (f0 i))))) = 0 := by
 have h' : F70 n0 (elV tyR f0) (i : Int) = 0 := h
 unfold F70 at h'
 simp only [Int.toNat_natCast] at h'
 have h' : (bif !F122 (sv (hdV (f0 i))) then 6 else bif exB i (fun k => (sv (hdV (f0 k))).toList == (sv (hdV (f0 i))).toList) then 5 else roadE (jv1 (f0 i)) (lenV (hdV (tlV (tlV (f0 i))))) (fun j => views tp2 (atV (hdV (tlV (tlV (f0 i)))) j)) (jv3 (f0 i))) = (0 : Int) := h'
 cases hn : F122 (sv (hdV (f0 i))) with
 | false => rw [hn] at h'; cases h'
 | true =>
   rw [hn, Bool.not_true, cond_false] at h'
   cases hd : exB i (fun k => (sv (hdV (f0 k))).toList == (sv (hdV (f0 i))).toList) with
   | true => rw [hd] at h'; cases h'
   | false =>
     rw [hd, cond_false] at h'
     unfold roadE at h'
     cases h3 : F71_0 (jv1 (f0 i)) 0 3 with
     | false => rw [h3] at h'; cases h'
     | true =>
       rw [h3, Bool.not_true, cond_false] at h'
       refine ⟨rfl, rfl, rfl, ?_⟩
       revert h'
       generalize decide (((lenV (hdV (tlV (tlV (f0 i)))) : Nat) : Int) < 2) = b1
       generalize decide (8 < ((lenV (hdV (tlV (tlV (f0 i)))) : Nat) : Int)) = b2
       generalize exB (lenV (hdV (tlV (tlV (f0 i))))) (fun k => !ptOk (jv0 (views tp2 (atV (hdV (tlV (tlV (f0 i)))) k))) (jv1 (views tp2 (atV (hdV (tlV (tlV (f0 i)))) k)))) = b3
       generalize F71_0 (jv3 (f0 i)) 100 30000 = b4
       generalize adjP (lenV (hdV (tlV (tlV (f0 i))))) (fun j => views tp2 (atV (hdV (tlV (tlV (f0 i)))) j)) = b5
       cases b1 <;> cases b2 <;> cases b3 <;> cases b4 <;> cases b5 <;> first | exact id | (intro h; cases h)
theorem road_of {n0 : Nat} {g : Nat -> List V} {i : Nat} (h1 : F122 (sv (hdV (g i))) = true) (h2 : exB i (fun k => (sv (hdV (g k))).toList == (sv (hdV (g i))).toList) = false) (h3 : F71_0 (jv1 (g i)) 0 3 = true) (h4 : tail63 (jv1 (g i)) (lenV (hdV (tlV (tlV (g i))))) = 0)
 (hr : RoadIn (lenV (hdV (tlV (tlV (g i))))) (fun j => views tp2 (atV (hdV (tlV (tlV (g i)))) j)) (jv3 (g i))) : cR n0 g i = 0 := by
 show F70 n0 (elV tyR g) (i : Int) = 0
 unfold F70
 simp only [Int.toNat_natCast]
 show (bif !F122 (sv (hdV (g i))) then 6 else bif exB i (fun k => (sv (hdV (g k))).toList == (sv (hdV (g i))).toList) then 5 else roadE (jv1 (g i)) (lenV (hdV (tlV (tlV (g i))))) (fun j => views tp2 (atV (hdV (tlV (tlV (g i)))) j)) (jv3 (g i))) = (0 : Int)
 rw [h1, h2]
 simp only [Bool.not_true, cond_false]
 unfold roadE
 have a := hr.two; have b := hr.eight
 rw [h3, dqf (by omega), dqf (by omega)]
 simp only [Bool.not_true, cond_false]
 have e1 : exB (lenV (hdV (tlV (tlV (g i))))) (fun k => !ptOk (jv0 (views tp2 (atV (hdV (tlV (tlV (g i)))) k))) (jv1 (views tp2 (atV (hdV (tlV (tlV (g i)))) k)))) = false := exB_no fun j hj => by
  have := hr.pts j hj
  show (!ptOk _ _) = false
  rw [pt_of this.1 this.2]; rfl
 have e2 : F71_0 (jv3 (g i)) 100 30000 = true := from_of hr.w1 hr.w2
 have e3 : adjP (lenV (hdV (tlV (tlV (g i))))) (fun j => views tp2 (atV (hdV (tlV (tlV (g i)))) j)) = false := exB_no fun j hj => by
  cases j with
  | zero => rfl
  | succ j => show (decide _ && eqP _ (j + 1) j) = false; rw [hr.adj j hj, Bool.and_false]
 rw [e1, e2, e3]
 simpa using h4
theorem eqP_sym {f : Nat -> List V} {i j : Nat} : eqP f i j = eqP f j i := by
 unfold eqP
 rw [Bool.and_true, Bool.and_true]
 congr 1
 ·exact Bool.beq_comm
 ·exact Bool.beq_comm
section
variable {p q : List V}
theorem Rev1.x (h : Rev1 p q) {j : Nat} (hj : j < lenV (hdV (tlV (tlV p)))) : jv0 (atV (hdV (tlV (tlV q))) j) = jv0 (atV (hdV (tlV (tlV p))) (lenV (hdV (tlV (tlV p))) - 1 - j)) := by
 have := congrArg (fun l => jv0 l) (h.p j hj)
 exact this
theorem Rev1.y (h : Rev1 p q) {j : Nat} (hj : j < lenV (hdV (tlV (tlV p)))) : jv1 (atV (hdV (tlV (tlV q))) j) = jv1 (atV (hdV (tlV (tlV p))) (lenV (hdV (tlV (tlV p))) - 1 - j)) := by
 have := congrArg (fun l => jv1 l) (h.p j hj)
 exact this
theorem Rev1.inn (h : Rev1 p q) (hr : RoadIn (lenV (hdV (tlV (tlV p)))) (fun j => views tp2 (atV (hdV (tlV (tlV p))) j)) (jv3 p)) :
 RoadIn (lenV (hdV (tlV (tlV q)))) (fun j => views tp2 (atV (hdV (tlV (tlV q))) j)) (jv3 q) := by
 rw [h.n, h.w]
 refine ⟨hr.two, hr.eight, fun j hj => ?_, fun j hj => ?_, hr.w1, hr.w2⟩
 ·show (-100000 <= jv0 (atV (hdV (tlV (tlV q))) j) /\ _) /\ _ 
  have := hr.pts (lenV (hdV (tlV (tlV p))) - 1 - j) (by omega)
  rw [← h.p j hj] at this
  exact this
 ·have := hr.adj (lenV (hdV (tlV (tlV p))) - 1 - (j + 1)) (by omega)
  rw [eqP_sym] at this
  unfold eqP at this ⊢
  rw [show lenV (hdV (tlV (tlV p))) - 1 - (j + 1) + 1 = lenV (hdV (tlV (tlV p))) - 1 - j by omega] at this
  dsimp only at this ⊢
  rw [← h.p j (by omega), ← h.p (j + 1) hj] at this
  exact this
end
section
variable {n0 : Nat} {f0 g : Nat -> List V} {n2 : Nat} {f2 : Nat -> List V} {n4 : Nat} {f4 : Nat -> List V} {n6 : Nat} {f6 : Nat -> List V} {x8 : Int}
theorem firstE_no {n : Nat} {c : Nat -> Int} (h : ∀ i, i < n -> c i = 0) : firstE n c = 0 := by
 unfold firstE
 rcases idx_ex (n := n) (p := fun i => c i != 0) with ⟨h1, h2⟩ | ⟨j, h1, h2, h3, _⟩
 ·rw [h1]; rfl
 ·have := h j h1
  rw [this] at h3; cases h3
theorem r24_no {n : Nat} {c : Nat -> Int} {k : Int} {z : Int × Int × Int} (h : ∀ i, i < n -> c i = 0) : r24 n c k z = z := by
 unfold r24
 rw [firstE_no h]; rfl
theorem valid_of (h : Valid n0 f0 n2 f2 n4 f4 n6 f6) : F24_2 n0 f0 n2 f2 n4 f4 n6 f6 = 0 := by
 unfold F24_2 F24
 have hl : long n0 f0 n2 f2 n4 f4 n6 f6 = false := by
  unfold long
  have := h.l0; have := h.l2; have := h.l4; have := h.l6
  rw [dqf (by omega), dqf (by omega), dqf (by omega), dqf (by omega)]; rfl
 rw [hl, cond_false, r24_no h.rd]
 unfold z1; rw [r24_no h.tr]
 unfold z2; rw [r24_no h.fr]
 unfold z3; rw [r24_no h.cl]
theorem cR_v {i : Nat} : cR n0 (elV tyR f0) i = cR n0 f0 i := by unfold cR; rw [elV2]
theorem rev_cR (hR : ∀ j, j < n0 -> Rev1 (f0 j) (g j)) {i : Nat} (hi : i < n0) (h : cR n0 f0 i = 0) : cR n0 g i = 0 := by
 obtain ⟨a, b, c, d⟩ := road_more h
 have r := hR i hi
 refine road_of (by rw [r.s]; exact a) ?_ (by rw [r.k]; exact c) (by rw [r.k, r.n]; exact d) (r.inn (road_in h))
 rw [← b]
 exact exB_same fun j hj => by rw [r.s, (hR j (by omega)).s]
theorem rev_ok (hR : ∀ j, j < n0 -> Rev1 (f0 j) (g j)) (h : F24_2 n0 (elV tyR f0) n2 (elV tyT f2) n4 (elV tyF f4) n6 (elV tyC f6) = 0) : F24_2 n0 (elV tyR g) n2 (elV tyT f2) n4 (elV tyF f4) n6 (elV tyC f6) = 0 := by
 have v := valid h
 refine valid_of ⟨v.l0, v.l2, v.l4, v.l6, fun i hi => ?_, v.tr, v.fr, v.cl⟩
 rw [cR_v]
 exact rev_cR hR hi (by rw [← cR_v]; exact v.rd i hi)
theorem rev_ecol (hR : ∀ j, j < n0 -> Rev1 (f0 j) (g j)) (h : F24_2 n0 (elV tyR f0) n2 (elV tyT f2) n4 (elV tyF f4) n6 (elV tyC f6) = 0) (m : Nat) : ecol n0 g n2 f2 n4 f4 n6 f6 x8 m = ecol n0 f0 n2 f2 n4 f4 n6 f6 x8 m := by
 unfold ecol; rw [h, rev_ok hR h]
theorem rev_on {p q : List V} (h : Rev1 p q) {w x y k : Int} {i : Nat} (hi : i < lenV (hdV (tlV (tlV p))) - 1) (ho : OnP (fun j => views tp2 (atV (hdV (tlV (tlV p))) j)) w x y k i) :
 OnP (fun j => views tp2 (atV (hdV (tlV (tlV q))) j)) w x y k (lenV (hdV (tlV (tlV p))) - 2 - i) := by
 unfold OnP pxD pyD at ho ⊢
 dsimp only at ho ⊢
 rw [h.p _ (by omega), h.p _ (by omega), show lenV (hdV (tlV (tlV p))) - 1 - (lenV (hdV (tlV (tlV p))) - 2 - i) = i + 1 by omega, show lenV (hdV (tlV (tlV p))) - 1 - (lenV (hdV (tlV (tlV p))) - 2 - i + 1) = i by omega]
 exact ho.sw
theorem Hit.sw {ax ay bx b2 X0 Y0 X1 Y1 r : Int} (h : Hit ax ay bx b2 X0 Y0 X1 Y1 r) : Hit bx b2 ax ay X0 Y0 X1 Y1 r := let ⟨a, b, c, h1, h2, h3, h4⟩ := h; ⟨a, b, c, h1, h2, h3, h4.sw⟩
theorem rev_hit {p q : List V} (h : Rev1 p q) {w X0 Y0 X1 Y1 : Int} {i : Nat} (hi : i < lenV (hdV (tlV (tlV p))) - 1)
 (ho : Hit (pxD (fun j => views tp2 (atV (hdV (tlV (tlV p))) j)) i) (pyD (fun j => views tp2 (atV (hdV (tlV (tlV p))) j)) i) (pxD (fun j => views tp2 (atV (hdV (tlV (tlV p))) j)) (i + 1)) (pyD (fun j => views tp2 (atV (hdV (tlV (tlV p))) j)) (i + 1)) X0 Y0 X1 Y1 w) :
 Hit (pxD (fun j => views tp2 (atV (hdV (tlV (tlV q))) j)) (lenV (hdV (tlV (tlV p))) - 2 - i)) (pyD (fun j => views tp2 (atV (hdV (tlV (tlV q))) j)) (lenV (hdV (tlV (tlV p))) - 2 - i))
  (pxD (fun j => views tp2 (atV (hdV (tlV (tlV q))) j)) (lenV (hdV (tlV (tlV p))) - 2 - i + 1)) (pyD (fun j => views tp2 (atV (hdV (tlV (tlV q))) j)) (lenV (hdV (tlV (tlV p))) - 2 - i + 1)) X0 Y0 X1 Y1 w := by
 unfold pxD pyD at ho ⊢
 dsimp only at ho ⊢
 rw [h.p _ (by omega), h.p _ (by omega), show lenV (hdV (tlV (tlV p))) - 1 - (lenV (hdV (tlV (tlV p))) - 2 - i) = i + 1 by omega, show lenV (hdV (tlV (tlV p))) - 1 - (lenV (hdV (tlV (tlV p))) - 2 - i + 1) = i by omega]
 exact ho.sw
theorem Rev1.back {p q : List V} (h : Rev1 p q) : Rev1 q p := ⟨h.s.symm, h.k.symm, h.n.symm, h.w.symm, fun j hj => by
 rw [h.n] at hj ⊢
 rw [h.p _ (by omega), show lenV (hdV (tlV (tlV p))) - 1 - (lenV (hdV (tlV (tlV p))) - 1 - j) = j by omega]⟩
theorem rev_74 {p q : List V} (h : Rev1 p q) {x y : Int} (g1 : pl x) (g2 : pl y) (hr : RoadIn (lenV (hdV (tlV (tlV p)))) (fun j => views tp2 (atV (hdV (tlV (tlV p))) j)) (jv3 p)) :
 F74 (lenV (hdV (tlV (tlV q)))) (fun j => views tp2 (atV (hdV (tlV (tlV q))) j)) (jv3 q) x y = F74 (lenV (hdV (tlV (tlV p)))) (fun j => views tp2 (atV (hdV (tlV (tlV p))) j)) (jv3 p) x y := by
 rw [Bool.eq_iff_iff, F74_v (h.inn hr) g1 g2, F74_v hr g1 g2]
 constructor
 ·rintro ⟨i, hi, ho⟩
  have := rev_on h.back hi ho
  rw [h.n] at hi this
  rw [h.w] at this
  exact ⟨_, by omega, this⟩
 ·rintro ⟨i, hi, ho⟩
  have := rev_on h hi ho
  rw [h.n, h.w]
  exact ⟨_, by omega, this⟩
theorem rev_61 {p q : List V} (h : Rev1 p q) {a b c d : Int} (g1 : pl a) (g2 : pl b) (g3 : pl c) (g4 : pl d) (hX : a <= c) (hY : b <= d) (hr : RoadIn (lenV (hdV (tlV (tlV p)))) (fun j => views tp2 (atV (hdV (tlV (tlV p))) j)) (jv3 p)) :
 F61 (lenV (hdV (tlV (tlV q)))) (fun j => views tp2 (atV (hdV (tlV (tlV q))) j)) (jv3 q) a b c d = F61 (lenV (hdV (tlV (tlV p)))) (fun j => views tp2 (atV (hdV (tlV (tlV p))) j)) (jv3 p) a b c d := by
 have A := F61_2 (h.inn hr) g1 g2 g3 g4 hX hY
 have B := F61_2 hr g1 g2 g3 g4 hX hY
 have A0 := F61_0 (h.inn hr) g1 g2 g3 g4 hX hY
 have B0 := F61_0 hr g1 g2 g3 g4 hX hY
 have k1 := A.1.trans (Iff.intro (fun ⟨i, hi, o1, o2, o3, o4⟩ => B.1.2 (by
  have t1 := rev_on h.back hi o1; have t2 := rev_on h.back hi o2; have t3 := rev_on h.back hi o3; have t4 := rev_on h.back hi o4
  rw [h.n] at hi t1 t2 t3 t4
  rw [h.w] at t1 t2 t3 t4
  exact ⟨_, by omega, t1, t2, t3, t4⟩)) (fun h2 => by
  obtain ⟨i, hi, o1, o2, o3, o4⟩ := B.1.1 h2
  have t1 := rev_on h hi o1; have t2 := rev_on h hi o2; have t3 := rev_on h hi o3; have t4 := rev_on h hi o4
  rw [h.n, h.w]
  exact ⟨_, by omega, t1, t2, t3, t4⟩))
 have k2 := A0.trans (Iff.intro (fun ⟨i, hi, o⟩ => B0.2 (by
  have t := rev_hit h.back hi o
  rw [h.n] at hi t
  rw [h.w] at t
  exact ⟨_, by omega, t⟩)) (fun h2 => by
  obtain ⟨i, hi, o⟩ := B0.1 h2
  have t := rev_hit h hi o
  rw [h.n, h.w]
  exact ⟨_, by omega, t⟩))
 have := A.2; have := B.2
 revert k1 k2
 generalize F61 (lenV (hdV (tlV (tlV q)))) (fun j => views tp2 (atV (hdV (tlV (tlV q))) j)) (jv3 q) a b c d = u at *
 generalize F61 (lenV (hdV (tlV (tlV p)))) (fun j => views tp2 (atV (hdV (tlV (tlV p))) j)) (jv3 p) a b c d = v at *
 intro k1 k2
 by_cases e2 : u = 2
 ·have := k1.1 e2; omega
 ·by_cases e0 : u = 0
  ·have : v = 0 := by apply Classical.byContradiction; intro hv; exact k2.2 hv e0
   omega
  ·have := k2.1 e0
   have : v ≠ 2 := fun hv => e2 (k1.2 hv)
   omega
end
end
noncomputable section
theorem bnL_s (q : Nat -> Bool) (k : Nat) : (bnL q (k + 1)).length = (bnL q k).length + (bif decide (0 < k) && q k then 1 else 0) := by
 rw [bnL]
 cases decide (0 < k) && q k with
 | true => simp
 | false => simp
theorem bn_rev {p q : Nat -> Bool} {M : Nat} (h1 : 1 <= M) (h : ∀ k, 1 <= k -> k < M -> q k = p (M - k)) : (bnL q M).length = (bnL p M).length := by
 have key : ∀ j, j + 1 <= M -> (bnL q (j + 1)).length + (bnL p (M - j)).length = (bnL p M).length := by
  intro j
  induction j with
  | zero => intro _; rw [bnL_s]; simp [bnL]
  | succ j ih =>
    intro hj
    have ih := ih (by omega)
    have e : M - j = (M - (j + 1)) + 1 := by omega
    rw [e, bnL_s p] at ih
    rw [bnL_s q, h (j + 1) (by omega) (by omega)]
    have d1 : decide (0 < j + 1) = true := dqt (by omega)
    have d2 : decide (0 < M - (j + 1)) = true := dqt (by omega)
    rw [d1]; rw [d2] at ih
    omega
 have := key (M - 1) (by omega)
 rw [show M - 1 + 1 = M by omega, show M - (M - 1) = 0 + 1 by omega, bnL_s] at this
 simpa [bnL] using this
section
variable {n0 : Nat} {f0 g : Nat -> List V} {n2 : Nat} {f2 : Nat -> List V} {n4 : Nat} {f4 : Nat -> List V} {n6 : Nat} {f6 : Nat -> List V} {x8 : Int}
theorem bends_e : F34_e n0 f0 n2 f2 n4 f4 n6 f6 x8 = ecol n0 f0 n2 f2 n4 f4 n6 f6 x8 n0 :=
 chk2 (n0 := n0) (f0 := f0) (n2 := n2) (f2 := f2) (n4 := n4) (f4 := f4) (n6 := n6) (f6 := f6) (i := x8) (m := n0) (fun h => by have := (valid h).l0; omega)
theorem dxB_v {k : Nat} (h1 : -100000 <= jv0 (ptB f0 x8 k) /\ jv0 (ptB f0 x8 k) <= 100000) (h2 : -100000 <= jv0 (ptB f0 x8 (k + 1)) /\ jv0 (ptB f0 x8 (k + 1)) <= 100000) : dxB f0 x8 k = 2 * jv0 (ptB f0 x8 (k + 1)) - 2 * jv0 (ptB f0 x8 k) := by
 unfold dxB F84_0
 rw [(dpt h1).1, (dpt h2).1, wrapI (by omega) (by omega)]
theorem dyB_v {k : Nat} (h1 : -100000 <= jv1 (ptB f0 x8 k) /\ jv1 (ptB f0 x8 k) <= 100000) (h2 : -100000 <= jv1 (ptB f0 x8 (k + 1)) /\ jv1 (ptB f0 x8 (k + 1)) <= 100000) : dyB f0 x8 k = 2 * jv1 (ptB f0 x8 (k + 1)) - 2 * jv1 (ptB f0 x8 k) := by
 unfold dyB F84_1
 rw [(dpt h1).1, (dpt h2).1, wrapI (by omega) (by omega)]
theorem bends_n (h : Rev1 (f0 x8.toNat) (g x8.toNat)) (hr : RoadIn (rN f0 x8) (rF f0 x8) (rW f0 x8)) :
 (bnL (bqB g x8) (lenV (hdV (tlV (tlV (g x8.toNat)))) - 1)).length = (bnL (bqB f0 x8) (lenV (hdV (tlV (tlV (f0 x8.toNat)))) - 1)).length := by
 have h2 := hr.two
 rw [h.n]
 have px : ∀ j, j < lenV (hdV (tlV (tlV (f0 x8.toNat)))) -> (-100000 <= jv0 (ptB f0 x8 j) /\ jv0 (ptB f0 x8 j) <= 100000) /\ -100000 <= jv1 (ptB f0 x8 j) /\ jv1 (ptB f0 x8 j) <= 100000 := fun j hj => hr.pts j hj
 have gx : ∀ j, j < lenV (hdV (tlV (tlV (f0 x8.toNat)))) -> jv0 (ptB g x8 j) = jv0 (ptB f0 x8 (lenV (hdV (tlV (tlV (f0 x8.toNat)))) - 1 - j)) := fun j hj => h.x hj
 have gy : ∀ j, j < lenV (hdV (tlV (tlV (f0 x8.toNat)))) -> jv1 (ptB g x8 j) = jv1 (ptB f0 x8 (lenV (hdV (tlV (tlV (f0 x8.toNat)))) - 1 - j)) := fun j hj => h.y hj
 have hm : 2 <= lenV (hdV (tlV (tlV (f0 x8.toNat)))) := h2
 generalize lenV (hdV (tlV (tlV (f0 x8.toNat)))) = m at *
 have dx : ∀ k, k + 1 < m -> dxB g x8 k = -dxB f0 x8 (m - 2 - k) := fun k hk => by
  have a := px (m - 1 - k) (by omega); have b := px (m - 1 - (k + 1)) (by omega)
  rw [dxB_v (by rw [gx k (by omega)]; exact a.1) (by rw [gx (k + 1) (by omega)]; exact b.1), gx k (by omega), gx (k + 1) (by omega)]
  have e1 : m - 1 - (k + 1) = m - 2 - k := by omega
  have e2 : m - 1 - k = m - 2 - k + 1 := by omega
  rw [e1] at b ⊢; rw [e2] at a ⊢
  rw [dxB_v b.1 a.1]; omega
 have dy : ∀ k, k + 1 < m -> dyB g x8 k = -dyB f0 x8 (m - 2 - k) := fun k hk => by
  have a := px (m - 1 - k) (by omega); have b := px (m - 1 - (k + 1)) (by omega)
  rw [dyB_v (by rw [gy k (by omega)]; exact a.2) (by rw [gy (k + 1) (by omega)]; exact b.2), gy k (by omega), gy (k + 1) (by omega)]
  have e1 : m - 1 - (k + 1) = m - 2 - k := by omega
  have e2 : m - 1 - k = m - 2 - k + 1 := by omega
  rw [e1] at b ⊢; rw [e2] at a ⊢
  rw [dyB_v b.2 a.2]; omega
 refine bn_rev (by omega) fun k h1 hk => ?_
 unfold bqB
 rw [dx k (by omega), dy k (by omega), dx (k - 1) (by omega), dy (k - 1) (by omega), show m - 2 - (k - 1) = m - 1 - k by omega, show m - 2 - k = m - 1 - k - 1 by omega]
 unfold F85_0
 rw [Int.neg_mul_neg, Int.neg_mul_neg, Int.mul_comm (dxB f0 x8 (m - 1 - k - 1)), Int.mul_comm (dyB f0 x8 (m - 1 - k - 1))]
theorem rev_on_law (hR : ∀ j, j < n0 -> Rev1 (f0 j) (g j)) (h : F24_2 n0 (elV tyR f0) n2 (elV tyT f2) n4 (elV tyF f4) n6 (elV tyC f6) = 0) {x y : Int} :
 F25_1 n0 g n2 f2 n4 f4 n6 f6 x8 x y = F25_1 n0 f0 n2 f2 n4 f4 n6 f6 x8 x y /\ F25_0 n0 g n2 f2 n4 f4 n6 f6 x8 x y = F25_0 n0 f0 n2 f2 n4 f4 n6 f6 x8 x y := by
 have he := rev_ecol (x8 := x8) (n2 := n2) (f2 := f2) (n4 := n4) (f4 := f4) (n6 := n6) (f6 := f6) hR h n0
 refine ⟨by rw [on_v.1, on_v.1, he], ?_⟩
 by_cases hz : ecol n0 f0 n2 f2 n4 f4 n6 f6 x8 n0 = 0
 ·cases hp : ptOk x y with
  | true =>
    obtain ⟨e1, r1⟩ := on_v.2 hz hp
    obtain ⟨e2, _⟩ := on_v.2 (he.trans hz) hp
    rw [e1, e2]
    obtain ⟨_, z1, z2⟩ := ix1_zero hz
    have hp' := pt_in hp
    exact rev_74 (hR x8.toNat (by omega)) (by unfold pl; omega) (by unfold pl; omega) r1
  | false =>
    have hc := chk2 (n0 := n0) (f0 := f0) (n2 := n2) (f2 := f2) (n4 := n4) (f4 := f4) (n6 := n6) (f6 := f6) (i := x8) (m := n0) (fun h => by have := (valid h).l0; omega)
    have hd := chk2 (n0 := n0) (f0 := g) (n2 := n2) (f2 := f2) (n4 := n4) (f4 := f4) (n6 := n6) (f6 := f6) (i := x8) (m := n0) (fun h => by have := (valid h).l0; omega)
    have hp' : F51 2 (elV tp1 (secF [vi x, vi y] 0 1)) = false := hp
    unfold ecol at hz he
    unfold F25_0
    rw [hc, hd, he, hz, wild_placed, hp']; rfl
 ·have hc := chk2 (n0 := n0) (f0 := f0) (n2 := n2) (f2 := f2) (n4 := n4) (f4 := f4) (n6 := n6) (f6 := f6) (i := x8) (m := n0) (fun h => by have := (valid h).l0; omega)
  have hd := chk2 (n0 := n0) (f0 := g) (n2 := n2) (f2 := f2) (n4 := n4) (f4 := f4) (n6 := n6) (f6 := f6) (i := x8) (m := n0) (fun h => by have := (valid h).l0; omega)
  unfold ecol at hz he
  unfold F25_0
  rw [hc, hd, he, show (ix1 (F24_2 n0 (elV tyR f0) n2 (elV tyT f2) n4 (elV tyF f4) n6 (elV tyC f6)) x8 (n0 : Int) != 0) = true from by simpa using hz]; rfl
theorem rev_meets_law (hR : ∀ j, j < n0 -> Rev1 (f0 j) (g j)) (h : F24_2 n0 (elV tyR f0) n2 (elV tyT f2) n4 (elV tyF f4) n6 (elV tyC f6) = 0) {a b c d : Int} :
 F22_1 n0 g n2 f2 n4 f4 n6 f6 x8 a b c d = F22_1 n0 f0 n2 f2 n4 f4 n6 f6 x8 a b c d /\ F22_0 n0 g n2 f2 n4 f4 n6 f6 x8 a b c d = F22_0 n0 f0 n2 f2 n4 f4 n6 f6 x8 a b c d := by
 have he := rev_ecol (x8 := x8) (n2 := n2) (f2 := f2) (n4 := n4) (f4 := f4) (n6 := n6) (f6 := f6) hR h n0
 refine ⟨by rw [meets_v.1, meets_v.1, he], ?_⟩
 by_cases hz : ecol n0 f0 n2 f2 n4 f4 n6 f6 x8 n0 = 0
 ·cases hp : F58_0 a b c d with
  | true =>
    obtain ⟨e1, r1⟩ := meets_v.2.1 hz hp
    obtain ⟨e2, _⟩ := meets_v.2.1 (he.trans hz) hp
    rw [e1, e2]
    obtain ⟨_, z1, z2⟩ := ix1_zero hz
    obtain ⟨q1, q2, q3, q4, q5, q6⟩ := patch_in hp
    exact rev_61 (hR x8.toNat (by omega)) (by unfold pl; omega) (by unfold pl; omega) (by unfold pl; omega) (by unfold pl; omega) q5 q6 r1
  | false =>
    have hc := chk2 (n0 := n0) (f0 := f0) (n2 := n2) (f2 := f2) (n4 := n4) (f4 := f4) (n6 := n6) (f6 := f6) (i := x8) (m := n0) (fun h => by have := (valid h).l0; omega)
    have hd := chk2 (n0 := n0) (f0 := g) (n2 := n2) (f2 := f2) (n4 := n4) (f4 := f4) (n6 := n6) (f6 := f6) (i := x8) (m := n0) (fun h => by have := (valid h).l0; omega)
    unfold ecol at hz he
    unfold F22_0
    rw [hc, hd, he, hz, rough_eq, hp]; rfl
 ·rw [meets_v.2.2 hz, meets_v.2.2 (by rw [he]; exact hz)]
theorem rev_bends_law (hR : ∀ j, j < n0 -> Rev1 (f0 j) (g j)) (h : F24_2 n0 (elV tyR f0) n2 (elV tyT f2) n4 (elV tyF f4) n6 (elV tyC f6) = 0) :
 F34_e n0 g n2 f2 n4 f4 n6 f6 x8 = F34_e n0 f0 n2 f2 n4 f4 n6 f6 x8 /\ F34_n n0 g n2 f2 n4 f4 n6 f6 x8 = F34_n n0 f0 n2 f2 n4 f4 n6 f6 x8 := by
 have he := rev_ecol (x8 := x8) (n2 := n2) (f2 := f2) (n4 := n4) (f4 := f4) (n6 := n6) (f6 := f6) hR h n0
 have e1 : F34_e n0 g n2 f2 n4 f4 n6 f6 x8 = F34_e n0 f0 n2 f2 n4 f4 n6 f6 x8 := by rw [bends_e, bends_e, he]
 refine ⟨e1, ?_⟩
 unfold F34_n
 rw [e1]
 by_cases hz : ecol n0 f0 n2 f2 n4 f4 n6 f6 x8 n0 = 0
 ·obtain ⟨_, z1, z2⟩ := ix1_zero hz
  rw [bends_n (hR x8.toNat (by omega)) (ix_road hz)]
 ·rw [bends_e, show (ecol n0 f0 n2 f2 n4 f4 n6 f6 x8 n0 != 0) = true from by simpa using hz]; rfl
end
end
end Go.Dx
namespace Go.Dx
open Go.Sx Go.RowKit
def tyB : Ty -> Nat
 | .int .u8 => 1
 | .int .i8 => 1
 | .int .u16 => 2
 | .int .i16 => 2
 | .int .u32 => 4
 | .int .i32 => 4
 | .int _ => 8
 | .bool => 1
 | .str => 16
 | .sl _ => 24
 | _ => 0
def tyBs : List Ty -> Nat
 | [] => 0
 | t :: ts => tyB t + tyBs ts
mutual
def lnTy : Ty -> V -> Prop
 | .agg ts, v => lnTys ts (cellsV v)
 | .sl ts, v => lenV v * tyBs ts <= 140737488351232 /\ ∀ i, i < lenV v -> lnTys ts (atV v i)
 | _, _ => True
def lnTys : List Ty -> List V -> Prop
 | [], _ => True
 | t :: ts, vs => lnTy t (hdV vs) /\ lnTys ts (tlV vs)
end
mutual
theorem lnTy_view : ∀ (t : Ty) (v : V), lnTy t v -> lnTy t (view t v)
 | .int _, _, _ => trivial
 | .bool, _, _ => trivial
 | .str, _, _ => trivial
 | .agg ts, v, h => by simp only [view, lnTy, cellsV] at h ⊢; exact lnTys_views ts _ h
 | .sl ts, v, h => by simp only [view, lnTy, lenV, atV] at h ⊢; exact ⟨h.1, fun i hi => lnTys_views ts _ (h.2 i hi)⟩
 | .fn .., _, _ => trivial
 | .pd _, _, _ => trivial
theorem lnTys_views : ∀ (ts : List Ty) (vs : List V), lnTys ts vs -> lnTys ts (views ts vs)
 | [], _, _ => trivial
 | t :: ts, vs, h => by simp only [lnTys, views, hdV, tlV] at h ⊢; exact ⟨lnTy_view t _ h.1, lnTys_views ts _ h.2⟩
end
theorem lnTys_append : ∀ {ts us : List Ty} {vs xs : List V}, hasTys ts vs -> lnTys ts vs -> lnTys us xs -> lnTys (ts ++ us) (vs ++ xs)
 | [], _, _, _, h, _, k => by simp only [hasTys] at h; subst h; simpa using k
 | t :: ts, us, vs, xs, h, hz, k => by
   simp only [hasTys] at h
   rw [h.1]
   simp only [lnTys] at hz
   simp only [List.cons_append, lnTys, hdV, tlV]
   exact ⟨hz.1, lnTys_append h.2.2 hz.2 k⟩
def wtOk (P : Program) : Nat -> TypeId -> Bool
 | 0, _ => false
 | fu + 1, t => match P.underlying t with
   | some (.slice e) => match cellTys P fu e with
     | some ts => decide (tyBs ts <= P.bytesOf e) && wtOk P fu e
     | none => false
   | some (.struct fs) => fs.toList.all fun f => wtOk P fu f.type
   | some (.array _ e) => wtOk P fu e
   | _ => true
def small (l : List Nat) : Prop := ∀ x, x ∈ l -> x <= reachBytes
section
variable {P : Program} {H : Type} {enc : TypeId × Value -> H} {w : World} {base : Nat} {spare : Nat -> Bool} {held : Bool}
theorem wAll_get {e : TypeId} : ∀ {l : List (DataW H)} {i : Nat} {d : DataW H}, small (DataW.weightsAll P e l) -> l[i]? = some d -> small (d.weights P e)
 | [], _, _, _, h => by simp at h
 | a :: l, 0, d, hs, h => by
   simp at h; subst h
   exact fun x hx => hs x (by simp only [DataW.weightsAll]; exact List.mem_append_left _ hx)
 | a :: l, i + 1, d, hs, h => wAll_get (l := l) (i := i) (fun x hx => hs x (by simp only [DataW.weightsAll]; exact List.mem_append_right _ hx)) (by simpa using h)
theorem vr_sl_ofW {a : Addr} {n c esz : Nat} {ts : List Ty} (hn : n <= c) (hc : c <= maxLen) (hcell : ts.all isCellTy = true) (hw : n * tyBs ts <= 140737488351232)
 (h : ∀ i, i < n -> ∃ cs : List Value, gcells w (a.add (i * esz)) 0 esz = some (cs.map ofVal) /\ ∃ vs, vrs w [] Nu.nil vs (cs.map ofVal) /\ (hasTys ts vs /\ szTys ts vs /\ lnTys ts vs) /\ vs.all V.fc = true) :
 ∃ v, vr w [] Nu.nil v (.slice (some (.g a)) n c) /\ (hasTy (.sl ts) v /\ szTy (.sl ts) v /\ lnTy (.sl ts) v) /\ v.fc = true := by
 classical
 refine ⟨.sl n fun i => if hi : i < n then (Classical.choose (Classical.choose_spec (h i hi)).2) else [], ?_, ?_, rfl⟩
 ·simp only [vr]
  refine ⟨some (.g a), c, esz, rfl, hn, by unfold maxLen at hc; omega, trivial, fun i hi => ?_⟩
  have h1 := Classical.choose_spec (h i hi)
  have h2 := Classical.choose_spec h1.2
  refine ⟨.g a, (Classical.choose (h i hi)).map ofVal, rfl, ?_, ?_, ?_⟩
  ·simp only [Ptr.add, lds]; exact h1.1
  ·simp only [hi, dite_true]; exact h2.1
  ·simp only [hi, dite_true]; exact h2.2.2
 ·simp only [hasTy, szTy, lnTy, lenV, atV, bndL]
  refine ⟨⟨.inl rfl, hcell, fun i hi => ?_⟩, fun i hi => ?_, hw, fun i hi => ?_⟩
  ·simp only [hi, dite_true]
   exact (Classical.choose_spec (Classical.choose_spec (h i hi)).2).2.1.1
  ·simp only [hi, dite_true]
   exact (Classical.choose_spec (Classical.choose_spec (h i hi)).2).2.1.2.1
  ·simp only [hi, dite_true]
   exact (Classical.choose_spec (Classical.choose_spec (h i hi)).2).2.1.2.2
theorem fields_trodW {rec : TypeId -> Option (List Ty)} {ok : TypeId -> Bool} {fuel : Nat} (hr : ∀ t ts cs d ps, rec t = some ts -> ok t = true -> small (DataW.weights P t d) -> DataW.trod enc P w base spare held fuel t cs = some (d, ps) -> ∃ vs, vrs w [] Nu.nil vs (cs.map ofVal) /\ hasTys ts vs /\ szTys ts vs /\ lnTys ts vs) (cs : List Value) :
 ∀ {fs : List Field} {off n : Nat} {ts : List Ty} {ds : List (DataW H)}, fieldsTys P rec fs off = some (ts, n) -> fs.all (fun f => ok f.type) = true -> small (DataW.weightsEach P (fs.map (·.type)) ds) ->
 (∀ (i : Nat) (f : Field), fs[i]? = some f -> ∃ d ps, ds[i]? = some d /\ DataW.trod enc P w base spare held fuel f.type ((cs.drop f.offset).take (P.cellsOf f.type)) = some (d, ps)) -> cs.length = n ->
 ∃ vs, vrs w [] Nu.nil vs ((cs.drop off).map ofVal) /\ hasTys ts vs /\ szTys ts vs /\ lnTys ts vs
 | [], off, n, ts, ds, h, _, _, _, hl => by
   simp [fieldsTys] at h
   obtain ⟨rfl, rfl⟩ := h
   exact ⟨[], by rw [List.drop_eq_nil_of_le (by omega)]; simp [vrs], by simp [hasTys], trivial, trivial⟩
 | f :: l, off, n, ts, ds, h, ho, hs, hx, hl => by
   simp only [fieldsTys] at h
   simp only [List.all_cons, Bool.and_eq_true] at ho
   split at h
   ·rename_i us vs m h1 h2
    split at h
    ·rename_i hc
     cases h
     obtain ⟨rfl, hlen⟩ := hc
     obtain ⟨d, ps, hd, ha⟩ := hx 0 f rfl
     match ds, hd with
     | d' :: ds, hd =>
       simp at hd; subst hd
       simp only [List.map_cons, DataW.weightsEach] at hs
       obtain ⟨v1, g1, g2, z1, y1⟩ := hr _ _ _ _ _ h1 ho.1 (fun x hx => hs x (List.mem_append_left _ hx)) ha
       obtain ⟨v2, g3, g4, z2, y2⟩ := fields_trodW hr cs (ds := ds) h2 ho.2 (fun x hx => hs x (List.mem_append_right _ hx)) (fun i g hg => by simpa using hx (i + 1) g (by simpa using hg)) hl
       refine ⟨v1 ++ v2, ?_, hasTys_append g2 g4, szTys_append g2 z1 z2, lnTys_append g2 y1 y2⟩
       have e : cs.drop f.offset = (cs.drop f.offset).take (P.cellsOf f.type) ++ cs.drop (f.offset + P.cellsOf f.type) := by
        rw [← List.drop_drop]; exact (List.take_append_drop _ _).symm
       rw [e, List.map_append]
       exact vrs_append g1 g3
    ·cases h
   ·cases h
theorem array_trodW {fuel k : Nat} {e : TypeId} {us : List Ty} (hr : ∀ cs d ps, small (DataW.weights P e d) -> DataW.trod enc P w base spare held fuel e cs = some (d, ps) -> ∃ vs, vrs w [] Nu.nil vs (cs.map ofVal) /\ hasTys us vs /\ szTys us vs /\ lnTys us vs) (cs : List Value) :
 ∀ (n m : Nat), cs.length = (m + n) * k -> (∀ i, m <= i -> i < m + n -> ∃ d ps, small (DataW.weights P e d) /\ DataW.trod enc P w base spare held fuel e ((cs.drop (i * k)).take k) = some (d, ps)) -> ∃ vs, vrs w [] Nu.nil vs ((cs.drop (m * k)).map ofVal) /\ hasTys (List.replicate n us).flatten vs /\ szTys (List.replicate n us).flatten vs /\ lnTys (List.replicate n us).flatten vs := by
 intro n
 induction n with
 | zero => intro m hl _; exact ⟨[], by rw [List.drop_eq_nil_of_le (by simp at hl; omega)]; simp [vrs], by simp [hasTys], trivial, trivial⟩
 | succ n ih =>
   intro m hl h
   obtain ⟨d, ps, hs, hx⟩ := h m (Nat.le_refl _) (by omega)
   obtain ⟨v1, g1, g2, z1, y1⟩ := hr _ _ _ hs hx
   obtain ⟨v2, g3, g4, z2, y2⟩ := ih (m + 1) (by rw [hl]; congr 1; omega) (fun i h1 h2 => h i (by omega) (by omega))
   refine ⟨v1 ++ v2, ?_, by rw [List.replicate_succ, List.flatten_cons]; exact hasTys_append g2 g4, by rw [List.replicate_succ, List.flatten_cons]; exact szTys_append g2 z1 z2, by rw [List.replicate_succ, List.flatten_cons]; exact lnTys_append g2 y1 y2⟩
   have e : cs.drop (m * k) = (cs.drop (m * k)).take k ++ cs.drop ((m + 1) * k) := by
    rw [Nat.succ_mul, ← List.drop_drop]; exact (List.take_append_drop _ _).symm
   rw [e, List.map_append]
   exact vrs_append g1 g3
theorem trod_W : ∀ (fuel fu : Nat) (t : TypeId) (ts : List Ty) (cs : List Value) (d : DataW H) (ps : List MemPlace), cellTys P fu t = some ts -> wtOk P fu t = true -> small (DataW.weights P t d) -> DataW.trod enc P w base spare held fuel t cs = some (d, ps) -> ∃ vs, vrs w [] Nu.nil vs (cs.map ofVal) /\ hasTys ts vs /\ szTys ts vs /\ lnTys ts vs := by
 intro fuel
 induction fuel with
 | zero => intro fu t ts cs d ps _ _ _ h; cases h
 | succ fuel ih =>
   intro fu t ts cs d ps ht hk hs h
   cases fu with
   | zero => cases ht
   | succ fu =>
     have hok := cellTys_cells ht
     simp only [cellTys] at ht
     simp only [wtOk] at hk
     split at ht
     ·rename_i hu
      cases ht
      obtain ⟨b, rfl, _⟩ := DataW.trod_bool hu h
      exact ⟨[.bool b], by simp [vrs, vr, ofVal], by simp [hasTys, hasTy, hdV, tlV, bv], ⟨trivial, trivial⟩, trivial, trivial⟩
     ·rename_i k hu
      cases ht
      obtain ⟨n, rfl, _, hwf⟩ := DataW.trod_int hu h
      exact ⟨[.int k n], by simp [vrs, vr, ofVal], by simp [hasTys, hasTy, hdV, tlV, iv], ⟨rgI_wf hwf, trivial⟩, by simp [lnTys, lnTy]⟩
     ·rename_i hu
      cases ht
      obtain ⟨b, rfl, _, hb⟩ := DataW.trod_string hu h
      exact ⟨[.str b], by simp [vrs, vr, ofVal], by simp [hasTys, hasTy, hdV, tlV, sv], ⟨(show b.size <= 9223372036854775807 by unfold maxLen at hb; omega), trivial⟩, by simp [lnTys, lnTy]⟩
     ·rename_i e hu
      rw [hu] at hk
      dsimp only at hk
      split at ht
      ·rename_i us hus
       rw [hus] at hk
       simp only [Bool.and_eq_true, decide_eq_true_eq] at hk
       split at ht
       ·rename_i hlen
        cases ht
        have hcell := cellTys_cells hus
        rcases DataW.trod_slice hu h with ⟨rfl, _⟩ | ⟨a, len, cap, elems, rest, n, hn, rfl, hx, _, h3, h4, h5, h6, _⟩
        ·exact ⟨[.sl 0 fun _ => []], by simp only [List.map_cons, List.map_nil, ofVal, vrs, vr]; exact ⟨_, _, rfl, ⟨none, 0, 0, rfl, Nat.le_refl _, by omega, trivial, fun i hi => by omega⟩, rfl⟩, by simp only [hasTys, hasTy, hdV, tlV, lenV, bndL]; exact ⟨trivial, ⟨.inl rfl, hcell, fun i hi => by omega⟩, trivial⟩, ⟨(fun i hi => by simp [lenV, hdV] at hi), trivial⟩, by simp only [lnTys, lnTy, hdV, lenV]; exact ⟨⟨by omega, fun i hi => by omega⟩, trivial⟩⟩
        ·cases hn
         simp only [Prod.mk.injEq] at hx
         obtain ⟨rfl, _⟩ := hx
         simp only [DataW.weights, hu] at hs
         have hbig : len * tyBs us <= 140737488351232 := by
          have h1 := hs _ List.mem_cons_self
          simp only [List.length_map, reachBytes] at h1
          have h2 : len * tyBs us <= (elems.length + rest.length) * P.bytesOf e := Nat.mul_le_mul (by omega) hk.1
          omega
         obtain ⟨v, g1, g2, _⟩ := vr_sl_ofW (w := w) (a := a) (n := len) (c := cap) (esz := P.cellsOf e) (ts := us) h3 h4 hcell hbig (fun i hi => by
          have h7 := h6 i hi
          rw [List.getElem?_eq_getElem (by omega)] at h7
          cases hcs : w.cells? base (a.add (i * P.cellsOf e)) (P.cellsOf e) with
          | none => rw [hcs] at h7; cases h7
          | some cs' =>
            rw [hcs] at h7
            have hsi : small (DataW.weights P e elems[i].1) := wAll_get (l := elems.map (·.1)) (i := i) (fun x hx => hs x (List.mem_cons_of_mem _ (List.mem_append_left _ hx))) (by rw [List.getElem?_map, List.getElem?_eq_getElem (by omega)]; rfl)
            obtain ⟨vs, g1, g2, z2, y2⟩ := ih fu e us cs' elems[i].1 elems[i].2 hus hk.2 hsi h7
            unfold World.cells? at hcs
            split at hcs
            ·rw [List.range_eq_range'] at hcs
             exact ⟨cs', gcells_of _ 0 cs' hcs, vs, g1, ⟨g2, z2, y2⟩, hasTys_cells g2 hcell⟩
            ·cases hcs)
         exact ⟨[v], by simp only [List.map_cons, List.map_nil, ofVal, vrs]; exact ⟨_, _, rfl, g1, rfl⟩, by simp only [hasTys, hdV, tlV]; exact ⟨trivial, g2.1, trivial⟩, ⟨g2.2.1, trivial⟩, ⟨g2.2.2, trivial⟩⟩
       ·cases ht
      ·cases ht
     ·rename_i fs hu
      rw [hu] at hk
      dsimp only at hk
      split at ht
      ·rename_i us n hf
       split at ht
       ·rename_i hn
        cases ht
        obtain ⟨xs, m, hm, hx, h3, h4, h5⟩ := DataW.trod_struct hu h
        cases hm
        simp only [Prod.mk.injEq] at hx
        obtain ⟨rfl, _⟩ := hx
        simp only [DataW.weights, hu] at hs
        have := fields_trodW (off := 0) (ok := wtOk P fu) (fun t ts cs d ps => ih fu t ts cs d ps) cs hf hk hs (fun i f hf' => by
         have hi : i < fs.size := by
          have := (List.getElem?_eq_some_iff.1 hf').1
          simpa using this
         have h6 := h5 i f (by simpa using hf')
         rw [List.getElem?_eq_getElem (by omega)] at h6
         exact ⟨xs[i].1, xs[i].2, by rw [List.getElem?_map, List.getElem?_eq_getElem (by omega)]; rfl, h6⟩) (by rw [h3, hn])
        simpa using this
       ·cases ht
      ·cases ht
     ·rename_i n e hu
      rw [hu] at hk
      dsimp only at hk
      split at ht
      ·rename_i us hus
       split at ht
       ·rename_i hc
        cases ht
        obtain ⟨xs, m, hm, hx, h3, h4, h5⟩ := DataW.trod_array hu h
        cases hm
        simp only [Prod.mk.injEq] at hx
        obtain ⟨rfl, _⟩ := hx
        simp only [DataW.weights, hu] at hs
        have := array_trodW (k := P.cellsOf e) (fun cs d ps => ih fu e us cs d ps hus hk) cs n 0 (by rw [h3, hc.2]; simp) (fun i _ hi => by
         have h6 := h5 i (by omega)
         rw [List.getElem?_eq_getElem (by omega)] at h6
         exact ⟨xs[i].1, xs[i].2, wAll_get (l := xs.map (·.1)) (i := i) hs (by rw [List.getElem?_map, List.getElem?_eq_getElem (by omega)]; rfl), h6⟩)
        simpa using this
       ·cases ht
      ·cases ht
     ·cases ht
end
section
variable {P : Program} {H : Type} {enc : TypeId × Value -> H} {W : World} {base : Nat}
theorem arg_W {fu : Nat} {t : TypeId} {ty : Ty} {v : Value} {d : DataW H} {ps : List MemPlace} {b : Nat} {spare : Nat -> Bool} {held : Bool} (ht : argTy P fu t = some ty) (hk : wtOk P fu t = true) (hs : small (DataW.weights P t d)) (hv : Value.okWide P W .any base t v) (h : DataW.Trod enc P W b spare held t v d ps) :
 ∃ x, vr W [] Nu.nil x (ofArg v) /\ hasTy ty x /\ szTy ty x /\ lnTy ty x := by
 obtain ⟨fuel, h⟩ := h
 unfold argTy at ht
 unfold Value.okWide at hv
 split at ht
 ·rename_i fs hu
  rw [hu] at hv
  obtain ⟨cs, rfl, _, _⟩ := hv
  simp only [Option.map_eq_some_iff] at ht
  obtain ⟨ts, hts, rfl⟩ := ht
  obtain ⟨vs, g1, g2, z2, y2⟩ := trod_W fuel fu t ts _ d ps hts hk hs h
  exact ⟨.agg vs, by simp only [ofArg, vr]; exact ⟨_, rfl, g1⟩, by simp only [hasTy, cellsV]; exact ⟨trivial, g2⟩, z2, by simp only [lnTy, cellsV]; exact y2⟩
 ·rename_i n e hu
  rw [hu] at hv
  obtain ⟨cs, rfl, _, _⟩ := hv
  simp only [Option.map_eq_some_iff] at ht
  obtain ⟨ts, hts, rfl⟩ := ht
  obtain ⟨vs, g1, g2, z2, y2⟩ := trod_W fuel fu t ts _ d ps hts hk hs h
  exact ⟨.agg vs, by simp only [ofArg, vr]; exact ⟨_, rfl, g1⟩, by simp only [hasTy, cellsV]; exact ⟨trivial, g2⟩, z2, by simp only [lnTy, cellsV]; exact y2⟩
 ·rename_i k hu
  cases ht
  obtain ⟨n, hc, _, hwf⟩ := DataW.trod_int hu h
  have : v = .int k n := by
   rw [hu] at hv
   unfold Cell.okWide at hv
   rw [hu] at hv
   cases v <;> simp_all [Value.cells, Cell.ok]
  subst this
  exact ⟨.int k n, by simp [ofArg, ofVal, vr], by simp [hasTy, iv], rgI_wf hwf, by simp [lnTy]⟩
 ·rename_i hu
  cases ht
  obtain ⟨n, hc, _⟩ := DataW.trod_bool hu h
  have : v = .bool n := by
   rw [hu] at hv
   unfold Cell.okWide at hv
   rw [hu] at hv
   cases v <;> simp_all [Value.cells, Cell.ok]
  subst this
  exact ⟨.bool n, by simp [ofArg, ofVal, vr], by simp [hasTy, bv], trivial, by simp [lnTy]⟩
 ·cases ht
theorem args_W {fu : Nat} {b : Nat} {spare : Nat -> Bool} {held : Bool} : ∀ {ts : List TypeId} {tys : List Ty} {vs : List Value} {ds : List (DataW H)} {ps : List MemPlace}, argTys P fu ts = some tys -> ts.all (wtOk P fu) = true -> small (DataW.weightsEach P ts ds) -> (∀ (j : Nat) t v, ts[j]? = some t -> vs[j]? = some v -> Value.okWide P W .any base t v) -> DataW.TrodAll enc P W b spare held ts vs ds ps ->
 ∃ xs, vrs W [] Nu.nil xs (vs.map ofArg) /\ hasTys tys xs /\ szTys tys xs /\ lnTys tys xs
 | [], tys, [], [], ps, ht, _, _, _, h => by simp only [argTys, Option.some.injEq] at ht; subst ht; exact ⟨[], by simp [vrs], by simp [hasTys], trivial, trivial⟩
 | t :: ts, tys, v :: vs, d :: ds, ps, ht, hk, hs, hv, h => by
   simp only [argTys] at ht
   simp only [List.all_cons, Bool.and_eq_true] at hk
   simp only [DataW.weightsEach] at hs
   split at ht
   ·rename_i x xs hx hxs
    cases ht
    obtain ⟨p, q, h1, h2, _⟩ := h
    obtain ⟨y, g1, g2, z1, y1⟩ := arg_W hx hk.1 (fun x hx => hs x (List.mem_append_left _ hx)) (hv 0 t v rfl rfl) h1
    obtain ⟨ys, g3, g4, z2, y2⟩ := args_W hxs hk.2 (fun x hx => hs x (List.mem_append_right _ hx)) (fun j t v hj hvj => hv (j + 1) t v (by simpa using hj) (by simpa using hvj)) h2
    exact ⟨y :: ys, by simp only [List.map_cons, vrs]; exact ⟨_, _, rfl, g1, g3⟩, by simp only [hasTys, hdV, tlV]; exact ⟨trivial, g2, g4⟩, ⟨z1, z2⟩, ⟨y1, y2⟩⟩
   ·cases ht
 | [], _, _ :: _, _, _, _, _, _, _, h => by simp [DataW.TrodAll] at h
 | [], _, [], _ :: _, _, _, _, _, _, h => by simp [DataW.TrodAll] at h
 | _ :: _, _, [], _, _, _, _, _, _, h => by simp [DataW.TrodAll] at h
 | _ :: _, _, _ :: _, [], _, _, _, _, _, h => by simp [DataW.TrodAll] at h
def lawD (tys : List Ty) : PCon := mkC tys (fun vs => szTys tys vs /\ lnTys tys vs) fun _ => .bool true
theorem law_callsD {f : FuncId} {fu b : Nat} {spare : Nat -> Bool} {held : Bool} {tys : List Ty} {ts : List TypeId} {args : Array Value} {ds : List (DataW H)} {ps : List MemPlace} (hOk : (vP (lawD tys)).Ok P f) (ht : argTys P fu ts = some tys) (hk : ts.all (wtOk P fu) = true) (hs : small (DataW.weightsEach P ts ds))
 (hv : ∀ (j : Nat) t v, ts[j]? = some t -> args[j]? = some v -> Value.okWide P W .any base t v) (hA : DataW.TrodAll enc P W b spare held ts args.toList ds ps) :
 Calls P f args W fun e W' => e = .returned (.bool true) /\ Below W.heap.size W W' := by
 obtain ⟨xs, g1, g2, z2, y2⟩ := args_W (vs := args.toList) ht hk hs (fun j t v hj hvj => hv j t v hj (by simpa using hvj)) hA
 obtain ⟨_, hc⟩ := hOk.sound ⟨W, W, fun _ => False, []⟩ (fun _ => none) [] W (args.toList.map ofArg) args.toList (fun r _ => r = .bool true) (HRel.start W) (vrels_ofArg _)
  ⟨views tys xs, _, _, _, views_ok tys xs _ g2 g1, rfl, ⟨fxs_views tys xs [], by rw [(unqs_eq tys _ [] [] (fxs_views tys xs [])).1]; exact ⟨szTys_views tys _ (szTys_views tys xs z2), lnTys_views tys _ (lnTys_views tys xs y2)⟩⟩, rfl, rfl⟩
 refine hc.mono fun e w' ⟨v, r, m', lh', he, hr, _, hh, hk⟩ => ?_
 subst hk
 simp only [vrel] at hr
 subst hr
 exact ⟨he, hh.os, hh.tape, hh.output, hh.fsize, hh.old⟩
end
end Go.Dx
namespace Go.Dx
open Go.IntKind (i64 u64 u8)
open Go.Sx Go.Proofs
noncomputable section
def ctB37 : CTab := (34, .conL 1 3 C34 okl34) :: ctB36
theorem tabB37 : TabOk Tryz.prog eqs its ctB37 := .conL ok34 (tabB36)
attribute [local irreducible] F22_0 F22_1 F25_0 F25_1 F34_e F34_n
inductive S10 where
 | L0 (ia0 : Int) (fa1 : Nat -> List V)
 | L1 (ib0 : Int) (nb1 : Nat) (ib2 : Int) (fb3 : Nat -> List V) (fb4 : Nat -> List V)
def inv10 (n0 : Nat) (f0 : FnV) (n2 : Nat) (f2 : FnV) (n4 : Nat) (f4 : FnV) (n6 : Nat) (f6 : FnV) (x8 x9 x10 x11 x12 x13 x14 : Int) : S10 -> Env × List O × Option Ex
 | .L0 ia0 fa1 => ([(6, vi ia0), (5, V.pl 0 0), (3, V.pl 1 0), (2, V.pl 2 0)], [O.cells [V.gs 3 n0, V.sl n2 (elV tyT f2), V.sl n4 (elV tyF f4), V.sl n6 (elV tyC f6)] 27, O.cells [vi x8, vi x9, vi x10, vi x11, vi x12, vi x13, vi x14] 31, O.cells [V.sl n0 (elV tyR f0), V.sl n2 (elV tyT f2), V.sl n4 (elV tyF f4), V.sl n6 (elV tyC f6)] 27, O.gl 4 n0 (elV tyR fa1) 54], none)
 | .L1 ib0 nb1 ib2 fb3 fb4 => ([(8, vi ib0), (7, V.gs 0 nb1), (6, vi ib2), (5, V.pl 1 0), (3, V.pl 2 0), (2, V.pl 3 0)], [O.gl 2 nb1 (elV tp2 fb3) 72, O.cells [V.gs 4 n0, V.sl n2 (elV tyT f2), V.sl n4 (elV tyF f4), V.sl n6 (elV tyC f6)] 27, O.cells [vi x8, vi x9, vi x10, vi x11, vi x12, vi x13, vi x14] 31, O.cells [V.sl n0 (elV tyR f0), V.sl n2 (elV tyT f2), V.sl n4 (elV tyF f4), V.sl n6 (elV tyC f6)] 27, O.gl 4 n0 (elV tyR fb4) 54], none)
def id10 : S10 -> JJ
 | .L0 ia0 fa1 => (0, [])
 | .L1 ib0 nb1 ib2 fb3 fb4 => (1, [])
def rl10 (n0 : Nat) (f0 : FnV) (n2 : Nat) (f2 : FnV) (n4 : Nat) (f4 : FnV) (n6 : Nat) (f6 : FnV) (x8 x9 x10 x11 x12 x13 x14 : Int) : T (Leaf JJ) := runL JJ ctB37 u0 s10 [scV n0 f0 n2 f2 n4 f4 n6 f6, V.agg [vi x8, vi x9, vi x10, vi x11, vi x12, vi x13, vi x14]]
def lp10_0 (n0 : Nat) (f0 : FnV) (n2 : Nat) (f2 : FnV) (n4 : Nat) (f4 : FnV) (n6 : Nat) (f6 : FnV) (x8 x9 x10 x11 x12 x13 x14 : Int) (cx : List Cx) : Lp JJ := lpT (atT (rl10 n0 f0 n2 f2 n4 f4 n6 f6 x8 x9 x10 x11 x12 x13 x14) [])
def lp10_1 (n0 : Nat) (f0 : FnV) (n2 : Nat) (f2 : FnV) (n4 : Nat) (f4 : FnV) (n6 : Nat) (f6 : FnV) (x8 x9 x10 x11 x12 x13 x14 : Int) (cx : List Cx) : Lp JJ := lpT (atT (rdP ctB37 u0 (0, []) (lp10_0 n0 f0 n2 f2 n4 f4 n6 f6 x8 x9 x10 x11 x12 x13 x14 []) (inv10 n0 f0 n2 f2 n4 f4 n6 f6 x8 x9 x10 x11 x12 x13 x14 (.L0 (0 : Int) (fun _ => [])))) [true])
def lp10 (n0 : Nat) (f0 : FnV) (n2 : Nat) (f2 : FnV) (n4 : Nat) (f4 : FnV) (n6 : Nat) (f6 : FnV) (x8 x9 x10 x11 x12 x13 x14 : Int) : JJ -> Lp JJ
 | (0, cx) => lp10_0 n0 f0 n2 f2 n4 f4 n6 f6 x8 x9 x10 x11 x12 x13 x14 cx
 | (1, cx) => lp10_1 n0 f0 n2 f2 n4 f4 n6 f6 x8 x9 x10 x11 x12 x13 x14 cx
 | (_, cx) => lp10_0 n0 f0 n2 f2 n4 f4 n6 f6 x8 x9 x10 x11 x12 x13 x14 cx
def D10 (n0 : Nat) (f0 : FnV) (n2 : Nat) (f2 : FnV) (n4 : Nat) (f4 : FnV) (n6 : Nat) (f6 : FnV) (x8 x9 x10 x11 x12 x13 x14 : Int) : LD JJ S10 := ⟨id10, lp10 n0 f0 n2 f2 n4 f4 n6 f6 x8 x9 x10 x11 x12 x13 x14, inv10 n0 f0 n2 f2 n4 f4 n6 f6 x8 x9 x10 x11 x12 x13 x14⟩
def st10 (n0 : Nat) (f0 : FnV) (n2 : Nat) (f2 : FnV) (n4 : Nat) (f4 : FnV) (n6 : Nat) (f6 : FnV) (x8 x9 x10 x11 x12 x13 x14 : Int) : S10 -> RT S10
 | .L0 ia0 fa1 => .br (decide (ia0 < (↑n0 : Int))) (.ob (decide (0 <= ia0 /\ ia0 < (↑n0 : Int))) (.asm (true = true -> lenV (hdV (tlV (tlV (f0 ia0.toNat)))) <= 9223372036854775807) (.enter [some none, some (some 0), some (some 1), some (some 2), some (some 3)] (S10.L1 (i64.wrap ((↑(lenV (hdV (tlV (tlV (f0 ia0.toNat))))) : Int) - 1)) (0) (ia0) (fun i => []) (elV tyR fa1)) [⟨4, tyR, n0, elV tyR fa1, vf_view rfl _ _⟩]))) (.obp ((∀ (i : Nat), i < n0 -> (sv (hdV (f0 i))).size <= (9223372036854775807 : Nat)) /\ ∀ (i : Nat), i < n6 -> (sv (hdV (f6 i))).size <= (9223372036854775807 : Nat)) (.obt (.br (F23_2 n0 (elV tyR f0) n2 (elV tyT f2) n4 (elV tyF f4) n6 (elV tyC f6) != 0) (.obc (.obt (.ret (V.bool true)))) (.obp ((∀ (i : Nat), i < n0 -> (sv (hdV (f0 i))).size <= (9223372036854775807 : Nat)) /\ ∀ (i : Nat), i < n6 -> (sv (hdV (f6 i))).size <= (9223372036854775807 : Nat)) (.obt (.obp ((∀ (i : Nat), i < n0 -> (sv (hdV (fa1 i))).size <= (9223372036854775807 : Nat)) /\ ∀ (i : Nat), i < n6 -> (sv (hdV (f6 i))).size <= (9223372036854775807 : Nat)) (.obt (.ob (n0.ble n0) (.obp ((∀ (i : Nat), i < n0 -> (sv (hdV (f0 i))).size <= (9223372036854775807 : Nat)) /\ ∀ (i : Nat), i < n6 -> (sv (hdV (f6 i))).size <= (9223372036854775807 : Nat)) (.obt (.obp ((∀ (i : Nat), i < n0 -> (sv (hdV (fa1 i))).size <= (9223372036854775807 : Nat)) /\ ∀ (i : Nat), i < n6 -> (sv (hdV (f6 i))).size <= (9223372036854775807 : Nat)) (.obt (.ob (n0.ble n0) (.obp ((∀ (i : Nat), i < n0 -> (sv (hdV (f0 i))).size <= (9223372036854775807 : Nat)) /\ ∀ (i : Nat), i < n6 -> (sv (hdV (f6 i))).size <= (9223372036854775807 : Nat)) (.obp ((∀ (i : Nat), i < n0 -> (sv (hdV (fa1 i))).size <= (9223372036854775807 : Nat)) /\ ∀ (i : Nat), i < n6 -> (sv (hdV (f6 i))).size <= (9223372036854775807 : Nat)) (.ob (n0.ble n0) (.obi (.obi (.obi (.obi (.obi (.obi (.obi (.obi (.obi (.obi (.obi (.obi (.obi (.obi (.obi (.obi (.obi (.br (bif bif bif bif bif F25_0 n0 (elV tyR f0) n2 (elV tyT f2) n4 (elV tyF f4) n6 (elV tyC f6) x8 x9 x10 == F25_0 n0 (elV tyR fa1) n2 (elV tyT f2) n4 (elV tyF f4) n6 (elV tyC f6) x8 x9 x10 then F25_1 n0 (elV tyR f0) n2 (elV tyT f2) n4 (elV tyF f4) n6 (elV tyC f6) x8 x9 x10 == F25_1 n0 (elV tyR fa1) n2 (elV tyT f2) n4 (elV tyF f4) n6 (elV tyC f6) x8 x9 x10 else false then F22_0 n0 (elV tyR f0) n2 (elV tyT f2) n4 (elV tyF f4) n6 (elV tyC f6) x8 x11 x12 x13 x14 == F22_0 n0 (elV tyR fa1) n2 (elV tyT f2) n4 (elV tyF f4) n6 (elV tyC f6) x8 x11 x12 x13 x14 else false then F22_1 n0 (elV tyR f0) n2 (elV tyT f2) n4 (elV tyF f4) n6 (elV tyC f6) x8 x11 x12 x13 x14 == F22_1 n0 (elV tyR fa1) n2 (elV tyT f2) n4 (elV tyF f4) n6 (elV tyC f6) x8 x11 x12 x13 x14 else false then F34_e n0 (elV tyR f0) n2 (elV tyT f2) n4 (elV tyF f4) n6 (elV tyC f6) x8 == F34_e n0 (elV tyR fa1) n2 (elV tyT f2) n4 (elV tyF f4) n6 (elV tyC f6) x8 else false then (↑(F34_n n0 (elV tyR f0) n2 (elV tyT f2) n4 (elV tyF f4) n6 (elV tyC f6) x8) : Int) == (↑(F34_n n0 (elV tyR fa1) n2 (elV tyT f2) n4 (elV tyF f4) n6 (elV tyC f6) x8) : Int) else false) (.obc (.obt (.ret (V.bool true)))) (.ret (V.kb false))))))))))))))))))))))))))))))))))))
 | .L1 ib0 nb1 ib2 fb3 fb4 => .br (decide (0 <= ib0)) (.ob (decide (0 <= ib2 /\ ib2 < (↑n0 : Int))) (.ob (decide (0 <= ib0 /\ ib0 < (↑(lenV (hdV (tlV (tlV (f0 ib2.toNat))))) : Int))) (.obt (.ob (decide (nb1 <= nb1 /\ (nb1 + 1) * 16 <= 140737488355328) && !Nat.beq 16 0) (.next [some (some 6), some (some 1), some (some 2), some (some 3), some (some 4)] (S10.L1 (i64.wrap (ib0 - 1)) (nb1 + 1) (ib2) (joinF nb1 (elV tp2 fb3) fun x => [vi (jv0 (atV (hdV (tlV (tlV (f0 ib2.toNat)))) ib0.toNat)), vi (jv1 (atV (hdV (tlV (tlV (f0 ib2.toNat)))) ib0.toNat))]) (elV tyR fb4)) [⟨0, tp2, nb1 + 1, joinF nb1 (elV tp2 fb3) fun x => [vi (jv0 (atV (hdV (tlV (tlV (f0 ib2.toNat)))) ib0.toNat)), vi (jv1 (atV (hdV (tlV (tlV (f0 ib2.toNat)))) ib0.toNat))], vf_join (vf_view rfl _ _) (vf_const rfl _ rfl)⟩, ⟨4, tyR, n0, elV tyR fb4, vf_view rfl _ _⟩]))))) (.ob (decide (0 <= ib2 /\ ib2 < (↑n0 : Int) /\ n0 <= n0)) (.ob (decide (ib2.toNat < n0)) (.nextz [⟨0, tp2, nb1, elV tp2 fb3, vf_view rfl _ _⟩] [⟨4, n0, fun i' => bif i'.beq ib2.toNat then [V.str (sv (hdV (fb4 ib2.toNat))), vi (jv1 (fb4 ib2.toNat)), V.gs 0 nb1, vi (jv3 (fb4 ib2.toNat))] else elV tyR fb4 i', fun i' => bif i'.beq ib2.toNat then [V.str (sv (hdV (fb4 ib2.toNat))), vi (jv1 (fb4 ib2.toNat)), V.sl nb1 (elV tp2 fb3), vi (jv3 (fb4 ib2.toNat))] else elV tyR fb4 i', fr_set (fr_id _ _) (⟨frE _, ⟨frE _, ⟨frG (ts := tp2) (f := elV tp2 fb3) (List.Mem.head _) rfl rfl rfl (Nat.le_refl _), ⟨frE _, trivial⟩⟩⟩⟩)⟩] [some (some 1), some (some 2), some (some 3), some (some 4)] (S10.L0 (i64.wrap (ib2 + 1)) (fun i' => bif i'.beq ib2.toNat then [V.str (sv (hdV (fb4 ib2.toNat))), vi (jv1 (fb4 ib2.toNat)), V.sl nb1 (elV tp2 fb3), vi (jv3 (fb4 ib2.toNat))] else elV tyR fb4 i')) [⟨3, tyR, n0, fun i' => bif i'.beq ib2.toNat then [V.str (sv (hdV (fb4 ib2.toNat))), vi (jv1 (fb4 ib2.toNat)), V.sl nb1 (elV tp2 fb3), vi (jv3 (fb4 ib2.toNat))] else elV tyR fb4 i', vf_set rfl (vf_view rfl _ _) rfl⟩])))
def m10 (n0 : Nat) (f0 : FnV) (n2 : Nat) (f2 : FnV) (n4 : Nat) (f4 : FnV) (n6 : Nat) (f6 : FnV) (x8 x9 x10 x11 x12 x13 x14 : Int) : RT S10 := .obv (allB n0 fun i => okE 4 (elV tyR f0 i)) (allB_el rfl _ _) (.ob (decide (n0 * 56 <= 140737488355328) && !Nat.beq 56 0) (.enter [some (some 2), some (some 1), some (some 0), some (some 4)] (S10.L0 (0) (elV tyR f0)) [⟨3, tyR, n0, elV tyR f0, vf_view rfl _ _⟩]))
theorem run10 (n0 : Nat) (f0 : FnV) (n2 : Nat) (f2 : FnV) (n4 : Nat) (f4 : FnV) (n6 : Nat) (f6 : FnV) (x8 x9 x10 x11 x12 x13 x14 : Int) : Fits ctB37 u0 (D10 n0 f0 n2 f2 n4 f4 n6 f6 x8 x9 x10 x11 x12 x13 x14) (rl10 n0 f0 n2 f2 n4 f4 n6 f6 x8 x9 x10 x11 x12 x13 x14) (m10 n0 f0 n2 f2 n4 f4 n6 f6 x8 x9 x10 x11 x12 x13 x14) (st10 n0 f0 n2 f2 n4 f4 n6 f6 x8 x9 x10 x11 x12 x13 x14) := ⟨⟨by kernel_rfl, by kernel_rfl⟩, fun s => by cases s <;> exact ⟨by kernel_rfl, by kernel_rfl⟩⟩
def Inv10 (n0 : Nat) (f0 : FnV) (i : Nat) (f : Nat -> List V) : Prop := ∀ j, j < n0 -> (j < i -> Rev1 (f0 j) (f j)) /\ (i <= j -> views tyR (f j) = views tyR (f0 j))
theorem rev_v {p q : List V} (h : Rev1 p q) : Rev1 p (views tyR q) := ⟨h.s, h.k, h.n, h.w, fun j hj => by
 rw [← h.p j hj]
 exact views_idem tp2 _⟩
theorem rev_w {p q : List V} (h : Rev1 p q) : Rev1 (views tyR p) (views tyR q) := ⟨h.s, h.k, h.n, h.w, fun j hj => by
 have := h.p j hj
 show views tp2 (views tp2 (atV (hdV (tlV (tlV q))) j)) = views tp2 (views tp2 (atV (hdV (tlV (tlV p))) _))
 rw [views_idem, views_idem]; exact this⟩
theorem Inv10.view {n0 : Nat} {f0 : Nat -> List V} {i : Nat} {f : Nat -> List V} (h : Inv10 n0 f0 i f) : Inv10 n0 f0 i (elV tyR f) := fun j hj => ⟨fun hi => rev_v ((h j hj).1 hi), fun hi => by
 show views tyR (views tyR (f j)) = _
 rw [views_idem]; exact (h j hj).2 hi⟩
theorem Inv10.step {n0 : Nat} {f0 : Nat -> List V} {i : Nat} {g : Nat -> List V} {l : Nat -> List V} (hi : i < n0) (h : Inv10 n0 f0 i g) (hl : ∀ s, s < lenV (hdV (tlV (tlV (f0 i)))) -> views tp2 (l s) = views tp2 (atV (hdV (tlV (tlV (f0 i)))) (lenV (hdV (tlV (tlV (f0 i)))) - 1 - s))) :
 Inv10 n0 f0 (i + 1) (fun i' => bif i'.beq i then [V.str (sv (hdV (g i))), vi (jv1 (g i)), V.sl (lenV (hdV (tlV (tlV (f0 i))))) (elV tp2 l), vi (jv3 (g i))] else elV tyR g i') := fun j hj => by
 by_cases e : j = i
 ·subst e
  refine ⟨fun _ => ?_, fun hc => absurd hc (by omega)⟩
  show Rev1 (f0 j) (bif Nat.beq j j then _ else elV tyR g j)
  rw [Nat.beq_refl]
  have hv := (h j hj).2 (Nat.le_refl _)
  have e1 : sv (hdV (g j)) = sv (hdV (f0 j)) := by have := congrArg (fun l => sv (hdV l)) hv; exact this
  have e2 : jv1 (g j) = jv1 (f0 j) := by have := congrArg (fun l => jv1 l) hv; exact this
  have e4 : jv3 (g j) = jv3 (f0 j) := by have := congrArg (fun l => jv3 l) hv; exact this
  exact ⟨e1, e2, rfl, e4, fun s hs => by
   show views tp2 (views tp2 (l s)) = _
   rw [views_idem]; exact hl s hs⟩
 ·have hb : Nat.beq j i = false := by
   cases hb : Nat.beq j i with
   | false => rfl
   | true => exact (e (Nat.eq_of_beq_eq_true hb)).elim
  show (j < i + 1 -> Rev1 (f0 j) (bif Nat.beq j i then _ else elV tyR g j)) /\ (i + 1 <= j -> views tyR (bif Nat.beq j i then _ else elV tyR g j) = _)
  rw [hb]
  have hv := h.view j hj
  exact ⟨fun hc => hv.1 (by omega), fun hc => hv.2 (by omega)⟩
theorem nble (n : Nat) : Nat.ble n n = true := Nat.ble_eq_true_of_le (Nat.le_refl n)
theorem c10_1 (n0 : Nat) (f0 : FnV) (n2 : Nat) (f2 : FnV) (n4 : Nat) (f4 : FnV) (n6 : Nat) (f6 : FnV) (x8 x9 x10 x11 x12 x13 x14 : Int) (hp : (SzOk n0 f0 /\ SzOk n6 f6) /\ n0 * 56 <= 140737488351232 /\ ∀ i, i < n0 -> lenV (hdV (tlV (tlV (f0 i)))) * 16 <= 140737488351232) {i : Nat} (hi : i < n0) (hm : lenV (hdV (tlV (tlV (f0 i)))) <= 9223372036854775807) (h9 : n0 <= 9223372036854775807) (ih : ∀ f, Inv10 n0 f0 (i + 1) f -> Ev (st10 n0 f0 n2 f2 n4 f4 n6 f6 x8 x9 x10 x11 x12 x13 x14) (.L0 ((i + 1 : Nat) : Int) f) (.bool true)) :
 ∀ t, t <= lenV (hdV (tlV (tlV (f0 i)))) -> ∀ l g, Inv10 n0 f0 i g -> (∀ s, s < t -> views tp2 (l s) = views tp2 (atV (hdV (tlV (tlV (f0 i)))) (lenV (hdV (tlV (tlV (f0 i)))) - 1 - s))) -> Ev (st10 n0 f0 n2 f2 n4 f4 n6 f6 x8 x9 x10 x11 x12 x13 x14) (.L1 ((lenV (hdV (tlV (tlV (f0 i)))) : Int) - 1 - (t : Int)) t (i : Int) l g) (.bool true) := by
 refine up_ind fun t ht iht l g hg hl => Ev.of rfl ?_
 have hib : decide (0 <= (i : Int) /\ (i : Int) < (n0 : Int)) = true := dqt (by omega)
 by_cases hlt : t < lenV (hdV (tlV (tlV (f0 i))))
 ·have hb := hp.2.2 i hi
  refine evBrT (dqt (by omega)) (evOb hib (evOb (dqt (by show 0 <= _ /\ _ < ((lenV (hdV (tlV (tlV (f0 (i : Int).toNat)))) : Nat) : Int); rw [Int.toNat_natCast]; omega)) (evObt (evOb ?_ (evNext ?_)))))
  ·simp only [Bool.and_eq_true]; exact ⟨dqt ⟨Nat.le_refl _, by omega⟩, rfl⟩
  ·have e1 : i64.wrap ((lenV (hdV (tlV (tlV (f0 i)))) : Int) - 1 - (t : Int) - 1) = (lenV (hdV (tlV (tlV (f0 i)))) : Int) - 1 - ((t + 1 : Nat) : Int) := by rw [wrapI (by omega) (by omega)]; omega
   have e2 : ((lenV (hdV (tlV (tlV (f0 i)))) : Int) - 1 - (t : Int)).toNat = lenV (hdV (tlV (tlV (f0 i)))) - 1 - t := by omega
   rw [e1, e2, Int.toNat_natCast]
   refine iht hlt _ _ hg.view fun s hs => ?_
   unfold joinF
   by_cases h1 : s < t
   ·have hbl : Nat.blt s t = true := Nat.ble_eq_true_of_le h1
    rw [hbl]
    show views _ (views _ (l s)) = _
    rw [views_idem]; exact hl s h1
   ·have hbl : Nat.blt s t = false := by
     cases hb : Nat.blt s t with
     | false => rfl
     | true => have := Nat.le_of_ble_eq_true hb; omega
    rw [hbl]
    have e3 : s = t := by omega
    rw [e3]; rfl
 ·have e1 : t = lenV (hdV (tlV (tlV (f0 i)))) := by omega
  subst e1
  refine evBrF (dqf (by omega)) (evOb (dqt ⟨by omega, by omega, Nat.le_refl _⟩) (evOb (dqt (by omega)) (evNextz ?_)))
  rw [wrapS hi h9, Int.toNat_natCast]
  exact ih _ (hg.step hi hl)
theorem c10_0 (n0 : Nat) (f0 : FnV) (n2 : Nat) (f2 : FnV) (n4 : Nat) (f4 : FnV) (n6 : Nat) (f6 : FnV) (x8 x9 x10 x11 x12 x13 x14 : Int) (hp : (SzOk n0 f0 /\ SzOk n6 f6) /\ n0 * 56 <= 140737488351232 /\ ∀ i, i < n0 -> lenV (hdV (tlV (tlV (f0 i)))) * 16 <= 140737488351232) (h9 : n0 <= 9223372036854775807) : ∀ i, i <= n0 -> ∀ f, Inv10 n0 f0 i f -> Ev (st10 n0 f0 n2 f2 n4 f4 n6 f6 x8 x9 x10 x11 x12 x13 x14) (.L0 (i : Int) f) (.bool true) := by
 refine up_ind fun i hi ih f hI => Ev.of rfl ?_
 by_cases hlt : i < n0
 ·refine evBrT (dqt (by omega)) (evOb (dqt (by omega)) (evAsm1 fun hm => evEnter ?_))
  rw [Int.toNat_natCast] at hm ⊢
  have := c10_1 n0 f0 n2 f2 n4 f4 n6 f6 x8 x9 x10 x11 x12 x13 x14 hp hlt hm h9 (fun f hf => ih hlt f hf) 0 (Nat.zero_le _) (fun _ => []) _ hI.view (fun s hs => absurd hs (Nat.not_lt_zero _))
  have e : i64.wrap ((lenV (hdV (tlV (tlV (f0 i)))) : Int) - 1) = (lenV (hdV (tlV (tlV (f0 i)))) : Int) - 1 - ((0 : Nat) : Int) := by rw [wrapI (by omega) (by omega)]; omega
  rw [e]; exact this
 ·have e : i = n0 := by omega
  subst e
  have hR : ∀ j, j < i -> Rev1 (f0 j) (f j) := fun j hj => (hI j hj).1 hj
  have hg : SzOk i f /\ SzOk n6 f6 := ⟨fun j hj => by rw [(hR j hj).s]; exact hp.1.1 j hj, hp.1.2⟩
  refine evBrF (dqf (by omega)) (evObp hp.1 (evObt (evBr (fun h => evObc (evObt (evRet rfl))) (fun h => ?_))))
  have h0 : F24_2 i (elV tyR f0) n2 (elV tyT f2) n4 (elV tyF f4) n6 (elV tyC f6) = 0 := by rw [← F23_24]; simpa using h
  have h1 : F24_2 i (elV tyR (elV tyR f0)) n2 (elV tyT (elV tyT f2)) n4 (elV tyF (elV tyF f4)) n6 (elV tyC (elV tyC f6)) = 0 := by rw [elV2, elV2, elV2, elV2]; exact h0
  have hR' : ∀ j, j < i -> Rev1 (elV tyR f0 j) (elV tyR f j) := fun j hj => rev_w (hR j hj)
  obtain ⟨a1, a2⟩ := rev_on_law (x8 := x8) (x := x9) (y := x10) hR' h1
  obtain ⟨b1, b2⟩ := rev_meets_law (x8 := x8) (a := x11) (b := x12) (c := x13) (d := x14) hR' h1
  obtain ⟨c1, c2⟩ := rev_bends_law (x8 := x8) hR' h1
  (repeat' (first | refine evObp hp.1 ?_ | refine evObp hg ?_ | refine evOb (nble _) ?_ | refine evObi ?_ | refine evObt ?_ | refine evObc ?_))
  refine evBrT ?_ (evObc (evObt (evRet rfl)))
  show (bif bif bif bif bif F25_0 i (elV tyR f0) n2 (elV tyT f2) n4 (elV tyF f4) n6 (elV tyC f6) x8 x9 x10 == F25_0 i (elV tyR f) n2 (elV tyT f2) n4 (elV tyF f4) n6 (elV tyC f6) x8 x9 x10 then F25_1 i (elV tyR f0) n2 (elV tyT f2) n4 (elV tyF f4) n6 (elV tyC f6) x8 x9 x10 == F25_1 i (elV tyR f) n2 (elV tyT f2) n4 (elV tyF f4) n6 (elV tyC f6) x8 x9 x10 else false then F22_0 i (elV tyR f0) n2 (elV tyT f2) n4 (elV tyF f4) n6 (elV tyC f6) x8 x11 x12 x13 x14 == F22_0 i (elV tyR f) n2 (elV tyT f2) n4 (elV tyF f4) n6 (elV tyC f6) x8 x11 x12 x13 x14 else false then F22_1 i (elV tyR f0) n2 (elV tyT f2) n4 (elV tyF f4) n6 (elV tyC f6) x8 x11 x12 x13 x14 == F22_1 i (elV tyR f) n2 (elV tyT f2) n4 (elV tyF f4) n6 (elV tyC f6) x8 x11 x12 x13 x14 else false then F34_e i (elV tyR f0) n2 (elV tyT f2) n4 (elV tyF f4) n6 (elV tyC f6) x8 == F34_e i (elV tyR f) n2 (elV tyT f2) n4 (elV tyF f4) n6 (elV tyC f6) x8 else false then (↑(F34_n i (elV tyR f0) n2 (elV tyT f2) n4 (elV tyF f4) n6 (elV tyC f6) x8) : Int) == (↑(F34_n i (elV tyR f) n2 (elV tyT f2) n4 (elV tyF f4) n6 (elV tyC f6) x8) : Int) else false) = true
  rw [a1, a2, b1, b2, c1, c2]
  simp only [beq_self_eq_true, cond_true]
theorem evl10 (n0 : Nat) (f0 : FnV) (n2 : Nat) (f2 : FnV) (n4 : Nat) (f4 : FnV) (n6 : Nat) (f6 : FnV) (x8 x9 x10 x11 x12 x13 x14 : Int) (hp : (SzOk n0 f0 /\ SzOk n6 f6) /\ n0 * 56 <= 140737488351232 /\ ∀ i, i < n0 -> lenV (hdV (tlV (tlV (f0 i)))) * 16 <= 140737488351232) : evR (Ev (st10 n0 f0 n2 f2 n4 f4 n6 f6 x8 x9 x10 x11 x12 x13 x14)) (m10 n0 f0 n2 f2 n4 f4 n6 f6 x8 x9 x10 x11 x12 x13 x14) (.bool true) := by
 have h9 : n0 <= 9223372036854775807 := by have := hp.2.1; omega
 refine evObv (evOb ?_ (evEnter (c10_0 n0 f0 n2 f2 n4 f4 n6 f6 x8 x9 x10 x11 x12 x13 x14 hp h9 0 (Nat.zero_le _) _ fun j hj => ⟨fun hc => absurd hc (Nat.not_lt_zero _), fun _ => views_idem tyR _⟩)))
 simp only [Bool.and_eq_true]
 exact ⟨dqt (by have := hp.2.1; omega), rfl⟩
def tys10 : List Ty := [.agg [.sl tyR, .sl tyT, .sl tyF, .sl tyC], .agg [.int .i64, .int .i64, .int .i64, .int .i64, .int .i64, .int .i64, .int .i64]]
theorem ok10 : (vP (lawD tys10)).Ok Tryz.prog 10 := mkE tabB37 Tryz.func10 (by kernel_rfl) fun ds hp => rfs (run10 ..) (evl10 _ _ _ _ _ _ _ _ _ _ _ _ _ _ _ (by have h : szTys [.agg [.sl tyR, .sl tyT, .sl tyF, .sl tyC], .agg [.int .i64, .int .i64, .int .i64, .int .i64, .int .i64, .int .i64, .int .i64]] _ /\ lnTys [.agg [.sl tyR, .sl tyT, .sl tyF, .sl tyC], .agg [.int .i64, .int .i64, .int .i64, .int .i64, .int .i64, .int .i64, .int .i64]] _ := hp; exact ⟨⟨fun i hi => (h.1.1.1 i hi).1, fun i hi => (h.1.1.2.2.2.1 i hi).1⟩, h.2.1.1.1, fun i hi => (h.2.1.1.2 i hi).2.2.1.1⟩))
end
end Go.Dx
