/- Part 4 of a proof. No conditions. -/
import Derived.Test.YtkdokmjehblpoaaGreatDoorRk3
import Derived.Test.YtkdokmjehblpoaaGreatDoorChecked
import Derived.IntWalk
import Derived.WalkKit
import Derived.Ground.NamesProg
import Derived.Shelf.Strings.SlTrimAscii
set_option maxRecDepth 100000
set_option linter.unusedVariables false
set_option linter.unusedSimpArgs false
namespace Go.Dx
open Go.Sx
def sa (d a : Nat) : SOp := ⟨some d, .mov (.t a), none⟩
def ea (d a : Nat) : DOp := ⟨⟨some d, .mov (.t a), none⟩, none, [], []⟩
def sb (d a : Nat) : SOp := ⟨some d, .ld (.t a), none⟩
def eb (d a : Nat) : DOp := ⟨⟨some d, .ld (.t a), none⟩, none, [], []⟩
def sc (d n a : Nat) : SOp := ⟨some d, .lds n (.t a), none⟩
def ec (d n a : Nat) : DOp := ⟨⟨some d, .lds n (.t a), none⟩, none, [], []⟩
def se (d n a : Nat) : SOp := ⟨some d, .fa n (.t a), none⟩
def ee (d n a : Nat) : DOp := ⟨⟨some d, .fa n (.t a), none⟩, none, [], []⟩
def ki (n : Int) : Arg := .k (.int .i64 n)
def gt (d : Nat) (p : IOp) (g : Nat) : DOp := ⟨⟨some d, p, some (g, true)⟩, none, [], []⟩
def gf (d : Nat) (p : IOp) (g : Nat) : DOp := ⟨⟨some d, p, some (g, false)⟩, none, [], []⟩
def b1 (d : Nat) (o : BinOp) (a b : Nat) : SOp := ⟨some d, .bin o (.t a) (.t b), none⟩
def d1 (d : Nat) (o : BinOp) (a b : Nat) : DOp := ⟨⟨some d, .bin o (.t a) (.t b), none⟩, none, [], []⟩
def b2 (d : Nat) (o : BinOp) (a : Nat) (n : Int) : SOp := ⟨some d, .bin o (.t a) (.k (.int .i64 n)), none⟩
def d2 (d : Nat) (o : BinOp) (a : Nat) (n : Int) : DOp := ⟨⟨some d, .bin o (.t a) (.k (.int .i64 n)), none⟩, none, [], []⟩
def b3 (d f : Nat) (l : List Nat) : SOp := ⟨some d, .call f (l.map .t), none⟩
def d3 (d f : Nat) (l : List Nat) : DOp := ⟨⟨some d, .call f (l.map .t), none⟩, none, [], []⟩
def b4 (d a : Nat) : SOp := ⟨some d, .len (.t a), none⟩
def d4 (d a : Nat) : DOp := ⟨⟨some d, .len (.t a), none⟩, none, [], []⟩
def b5 (d a : Nat) : SOp := ⟨some d, .un .not (.t a), none⟩
def b6 (d : Nat) (n : Int) : SOp := ⟨some d, .mov (.k (.int .i64 n)), none⟩
def b7 (d n a b : Nat) : SOp := ⟨some d, .iaS n (.t a) (.t b), none⟩
def d7 (d n a b : Nat) : DOp := ⟨⟨some d, .iaS n (.t a) (.t b), none⟩, none, [], []⟩
def zs (n : Nat) : List ab := List.replicate n (.int .i64 0)
def b8 (n a b : Nat) : SOp := ⟨none, .st n (.t a) (.t b), none⟩
def rg (l : List SOp) (c : cK) : cK := .seq (.reg l) c
def so (d : Nat) (p : IOp) : SOp := ⟨some d, p, none⟩
def eo (d : Nat) (p : IOp) : DOp := ⟨⟨some d, p, none⟩, none, [], []⟩
def dz (o : SOp) : DOp := ⟨o, none, [], []⟩
def its : List e9 := [⟨128, 46, (.seq (.reg [.op ⟨(some 6), .fa 2 (.t 1), none⟩, .op ⟨(some 7), .ld (.t 6), none⟩, .op ⟨(some 8), .len (.t 7), none⟩, .op ⟨(some 9), .bin .sub (.t 8) (ki 1), none⟩, .op ⟨(some 10), .mov (ki 0), none⟩]) (.block 0 (.loop (.seq (.reg [.op ⟨(some 11), .bin .lss (.t 10) (.t 9), none⟩]) (.seq (.cond (.t 11) .skip (.exit 0)) (.seq (.block 1 (.seq (.reg [.op ⟨(some 12), .mov (.t 10), none⟩, .op ⟨(some 3), .mov (.t 12), none⟩]) (.seq (.draw [⟨⟨(some 13), .fa 2 (.t 1), none⟩, none, [11, 12], []⟩, ⟨⟨(some 14), .ld (.t 13), none⟩, none, [11, 12], []⟩, ⟨⟨(some 15), .mov (.t 3), none⟩, none, [11, 12], []⟩, ⟨⟨(some 16), .iaS 2 (.t 14) (.t 15), none⟩, none, [11, 12], []⟩, ⟨⟨(some 17), .lds 2 (.t 16), none⟩, none, [11, 12], []⟩, ⟨⟨(some 18), .fa 2 (.t 1), none⟩, none, [11, 12, 13], []⟩, ⟨⟨(some 19), .ld (.t 18), none⟩, none, [11, 12, 13], []⟩, ⟨⟨(some 20), .mov (.t 3), none⟩, none, [11, 12, 13], []⟩, ⟨⟨(some 21), .bin .add (.t 20) (ki 1), none⟩, none, [11, 12, 13], []⟩, ⟨⟨(some 22), .iaS 2 (.t 19) (.t 21), none⟩, none, [11, 12, 13], []⟩, ⟨⟨(some 23), .lds 2 (.t 22), none⟩, none, [11, 12, 13], []⟩, ⟨⟨(some 4), .new 72 (zs 2), none⟩, (some 0), [12], [.fresh 0]⟩, ⟨⟨(some 5), .new 72 (zs 2), none⟩, (some 1), [11], [.fresh 1]⟩, ⟨(b8 2 4 17), none, [], [.fresh 0]⟩, ⟨(b8 2 5 23), none, [], [.fresh 1]⟩]) (.seq (.reg [.op ⟨(some 24), .mov (.t 0), none⟩, .op ⟨(some 25), .iaA 2 1 (.t 4) (ki 0), none⟩, .op ⟨(some 26), .ld (.t 25), none⟩, .op ⟨(some 27), .bin .mul (ki 2) (.t 26), none⟩, .op ⟨(some 28), .iaA 2 1 (.t 4) (ki 1), none⟩, .op ⟨(some 29), .ld (.t 28), none⟩, .op ⟨(some 30), .bin .mul (ki 2) (.t 29), none⟩, .op ⟨(some 31), .agg (zs 2) [(0, 1, (.t 27)), (1, 1, (.t 30))], none⟩, .op ⟨(some 32), .iaA 2 1 (.t 5) (ki 0), none⟩, .op ⟨(some 33), .ld (.t 32), none⟩, .op ⟨(some 34), .bin .mul (ki 2) (.t 33), none⟩, .op ⟨(some 35), .iaA 2 1 (.t 5) (ki 1), none⟩, .op ⟨(some 36), .ld (.t 35), none⟩, .op ⟨(some 37), .bin .mul (ki 2) (.t 36), none⟩, .op ⟨(some 38), .agg (zs 2) [(0, 1, (.t 34)), (1, 1, (.t 37))], none⟩, .op ⟨(some 39), .agg (zs 4) [(0, 2, (.t 31)), (2, 2, (.t 38))], none⟩, .op ⟨(some 40), .fa 3 (.t 1), none⟩, .op ⟨(some 41), .ld (.t 40), none⟩, .op ⟨(some 42), .agg (zs 5) [(0, 4, (.t 39)), (4, 1, (.t 41))], none⟩, .yld 24 (some 43) [(.t 42)], .op ⟨(some 44), .un .not (.t 43), none⟩]) (.cond (.t 44) .ret .skip))))) (.reg [.op ⟨(some 45), .bin .add (.t 10) (ki 1), none⟩, .op ⟨(some 10), .mov (.t 45), none⟩])))))))⟩]
def s14 : aw := ⟨248,[.tmp 0],(rg [(so 0 (.mov (.k (.bool false))))] (rg [(so 27 (.call 43 [])),(so 1 (.new 27 [(.slice none 0 0),(.slice none 0 0),(.slice none 0 0),(.slice none 0 0)])),(b8 4 1 27)] (rg [(so 28 (.agg (zs 2) [(0,1,(ki 5000)),(1,1,(ki 2000))])),(so 29 (.agg (zs 2) [(0,1,(ki 5000)),(1,1,(ki 2001))])),(so 30 (.agg (zs 2) [(0,1,(ki 12000)),(1,1,(ki 0))])),(so 31 (.agg (zs 2) [(0,1,(ki 11500)),(1,1,(ki (-1500)))])),(so 32 (.bsl 72 4 (zs 8) [(0,2,(.t 28)),(2,2,(.t 29)),(4,2,(.t 30)),(6,2,(.t 31))])),(sa 2 32)] (.seq (rg [(b6 3 0)] (.block 0 (.loop (.seq (rg [(sa 33 3),(b2 34 .lss 33 4)] (.cond (.t 34) .skip (.exit 0))) (.seq (.block 1 (.seq (.draw [(ec 38 4 1),(ea 39 2),(ea 40 3),(d7 41 2 39 40),(eo 42 (.iaA 2 1 (.t 41) (ki 0))),(eb 43 42),(ea 44 2),(ea 45 3),(d7 46 2 44 45),(eo 47 (.iaA 2 1 (.t 46) (ki 1))),(eb 48 47),(eo 49 (.call 25 [(.t 38),(ki 0),(.t 43),(.t 48)])),(ea 37 49),(eo 50 (.ext (.t 37) 0)),(eo 51 (.ext (.t 37) 1)),(ea 4 50),(ea 5 51)]) (rg [(sa 52 5),(b2 53 .neq 52 0),(sa 54 53),⟨(some 55),.mov (.t 4),(some (54,false))⟩,⟨(some 56),.mov (.t 3),(some (54,false))⟩,⟨(some 57),.bin .rem (.t 56) (ki 2),(some (54,false))⟩,⟨(some 58),.bin .eql (.t 57) (ki 0),(some (54,false))⟩,⟨(some 59),.eqb true (.t 55) (.t 58),(some (54,false))⟩,(so 60 (.pick (.t 54) (.k (.bool true)) (.t 59)))] (.cond (.t 60) (rg [(so 0 (.mov (.k (.bool false))))] .ret) .skip)))) (.reg [(sa 35 3),(b2 36 .add 35 1),(sa 3 36)])))))) (rg [(so 61 (.agg (zs 4) [(0,1,(ki 0)),(1,1,(ki 0)),(2,1,(ki 1000)),(3,1,(ki 1000))])),(so 62 (.agg (zs 4) [(0,1,(ki 0)),(1,1,(ki 1000)),(2,1,(ki 1000)),(3,1,(ki 2001))])),(so 63 (.agg (zs 4) [(0,1,(ki 0)),(1,1,(ki 3000)),(2,1,(ki 1000)),(3,1,(ki 4000))])),(so 64 (.agg (zs 4) [(0,1,(ki 9000)),(1,1,(ki 1000)),(2,1,(ki 11000)),(3,1,(ki 3000))])),(so 65 (.bsl 29 4 (zs 16) [(0,4,(.t 61)),(4,4,(.t 62)),(8,4,(.t 63)),(12,4,(.t 64))])),(sa 6 65)] (rg [(so 66 (.bsl 3 4 (zs 4) [(0,1,(ki 2)),(1,1,(ki 1)),(2,1,(ki 0)),(3,1,(ki 2))])),(sa 7 66)] (.seq (rg [(b6 8 0)] (.block 2 (.loop (.seq (rg [(sa 67 8),(b2 68 .lss 67 4)] (.cond (.t 68) .skip (.exit 2))) (.seq (.block 3 (.seq (.draw [(ec 72 4 1),(ea 73 6),(ea 74 8),(d7 75 4 73 74),(ec 76 4 75),(eo 77 (.call 22 [(.t 72),(ki 0),(.t 76)])),(ea 71 77),(eo 78 (.ext (.t 71) 0)),(eo 79 (.ext (.t 71) 1)),(ea 9 78),(ea 10 79)]) (rg [(sa 80 10),(b2 81 .neq 80 0),(sa 82 81),⟨(some 83),.mov (.t 9),(some (82,false))⟩,⟨(some 84),.mov (.t 7),(some (82,false))⟩,⟨(some 85),.mov (.t 8),(some (82,false))⟩,⟨(some 86),.iaS 1 (.t 84) (.t 85),(some (82,false))⟩,⟨(some 87),.ld (.t 86),(some (82,false))⟩,⟨(some 88),.bin .neq (.t 83) (.t 87),(some (82,false))⟩,(so 89 (.pick (.t 82) (.k (.bool true)) (.t 88)))] (.cond (.t 89) (rg [(so 0 (.mov (.k (.bool false))))] .ret) .skip)))) (.reg [(sa 69 8),(b2 70 .add 69 1),(sa 8 70)])))))) (rg [(sc 91 4 1),(so 92 (.call 35 [(.t 91),(ki 1),(ki 4000)])),(sa 90 92),(so 93 (.ext (.t 90) 0)),(so 94 (.ext (.t 90) 1)),(sa 11 93),(sa 12 94)] (.seq (rg [(sa 95 12),(b2 96 .neq 95 0),(sa 97 96),⟨(some 98),.mov (.t 11),(some (97,false))⟩,⟨(some 99),.len (.t 98),(some (97,false))⟩,⟨(some 100),.bin .neq (.t 99) (ki 4),(some (97,false))⟩,(so 101 (.pick (.t 97) (.k (.bool true)) (.t 100))),(sa 102 101),⟨(some 103),.mov (.t 11),(some (102,false))⟩,⟨(some 104),.iaS 4 (.t 103) (ki 0),(some (102,false))⟩,⟨(some 105),.lds 4 (.t 104),(some (102,false))⟩,⟨(some 106),.agg (zs 4) [(0,1,(ki 0)),(1,1,(ki (-4000))),(2,1,(ki 4000)),(3,1,(ki 0))],(some (102,false))⟩,⟨(some 107),.eqa true 4 (.t 105) (.t 106),(some (102,false))⟩,(so 108 (.pick (.t 102) (.k (.bool true)) (.t 107))),(sa 109 108),⟨(some 110),.mov (.t 11),(some (109,false))⟩,⟨(some 111),.iaS 4 (.t 110) (ki 3),(some (109,false))⟩,⟨(some 112),.lds 4 (.t 111),(some (109,false))⟩,⟨(some 113),.agg (zs 4) [(0,1,(ki 4000)),(1,1,(ki 0)),(2,1,(ki 8000)),(3,1,(ki 4000))],(some (109,false))⟩,⟨(some 114),.eqa true 4 (.t 112) (.t 113),(some (109,false))⟩,(so 115 (.pick (.t 109) (.k (.bool true)) (.t 114)))] (.cond (.t 115) (rg [(so 0 (.mov (.k (.bool false))))] .ret) .skip)) (rg [(sc 117 4 1),(b3 118 37 [117]),(sa 116 118),(so 119 (.ext (.t 116) 0)),(so 120 (.ext (.t 116) 1)),(sa 13 119),(sa 12 120)] (rg [(sc 122 4 1),(b3 123 41 [122]),(sa 121 123),(so 124 (.ext (.t 121) 0)),(so 125 (.ext (.t 121) 1)),(sa 14 124),(sa 15 125)] (rg [(sc 127 4 1),(so 128 (.call 34 [(.t 127),(ki 0)])),(sa 126 128),(so 129 (.ext (.t 126) 0)),(so 130 (.ext (.t 126) 1)),(sa 16 129),(sa 17 130)] (.seq (rg [(sa 131 12),(b2 132 .neq 131 0),(sa 133 132),⟨(some 134),.mov (.t 15),(some (133,false))⟩,⟨(some 135),.bin .neq (.t 134) (ki 0),(some (133,false))⟩,(so 136 (.pick (.t 133) (.k (.bool true)) (.t 135))),(sa 137 136),⟨(some 138),.mov (.t 17),(some (137,false))⟩,⟨(some 139),.bin .neq (.t 138) (ki 0),(some (137,false))⟩,(so 140 (.pick (.t 137) (.k (.bool true)) (.t 139))),(sa 141 140),⟨(some 142),.mov (.t 13),(some (141,false))⟩,⟨(some 143),.len (.t 142),(some (141,false))⟩,⟨(some 144),.bin .neq (.t 143) (ki 0),(some (141,false))⟩,(so 145 (.pick (.t 141) (.k (.bool true)) (.t 144))),(sa 146 145),⟨(some 147),.mov (.t 14),(some (146,false))⟩,⟨(some 148),.len (.t 147),(some (146,false))⟩,⟨(some 149),.bin .neq (.t 148) (ki 0),(some (146,false))⟩,(so 150 (.pick (.t 146) (.k (.bool true)) (.t 149))),(sa 151 150),⟨(some 152),.mov (.t 16),(some (151,false))⟩,⟨(some 153),.bsl 3 1 [(.int .i64 0)] [(0,1,(ki 1))],(some (151,false))⟩,⟨(some 154),.call 40 [(.t 152),(.t 153)],(some (151,false))⟩,⟨(some 155),.un .not (.t 154),(some (151,false))⟩,(so 156 (.pick (.t 151) (.k (.bool true)) (.t 155)))] (.cond (.t 156) (rg [(so 0 (.mov (.k (.bool false))))] .ret) .skip)) (rg [(so 157 (.agg (zs 3) [(0,1,(ki 4000)),(1,1,(ki 2500)),(2,1,(ki 0))])),(so 158 (.agg (zs 3) [(0,1,(ki 4000)),(1,1,(ki 0)),(2,1,(ki 0))])),(so 159 (.agg (zs 3) [(0,1,(ki 4000)),(1,1,(ki 4000)),(2,1,(ki 0))])),(so 160 (.agg (zs 3) [(0,1,(ki 4000)),(1,1,(ki 5000)),(2,1,(ki (-1)))])),(so 161 (.agg (zs 3) [(0,1,(ki 8000)),(1,1,(ki 4000)),(2,1,(ki (-1)))])),(so 162 (.bsl 66 5 (zs 15) [(0,3,(.t 157)),(3,3,(.t 158)),(6,3,(.t 159)),(9,3,(.t 160)),(12,3,(.t 161))])),(sa 18 162)] (.seq (rg [(b6 19 0)] (.block 4 (.loop (.seq (rg [(sa 163 19),(b2 164 .lss 163 5)] (.cond (.t 164) .skip (.exit 4))) (.seq (.block 5 (.seq (.draw [(ec 168 4 1),(ea 169 18),(ea 170 19),(d7 171 3 169 170),(eo 172 (.iaA 3 1 (.t 171) (ki 0))),(eb 173 172),(ea 174 18),(ea 175 19),(d7 176 3 174 175),(eo 177 (.iaA 3 1 (.t 176) (ki 1))),(eb 178 177),(eo 179 (.call 15 [(.t 168),(ki 0),(.t 173),(.t 178)])),(ea 167 179),(eo 180 (.ext (.t 167) 0)),(eo 181 (.ext (.t 167) 1)),(ea 20 180),(ea 21 181)]) (rg [(sa 182 21),(b2 183 .neq 182 0),(sa 184 183),⟨(some 185),.mov (.t 20),(some (184,false))⟩,⟨(some 186),.mov (.t 18),(some (184,false))⟩,⟨(some 187),.mov (.t 19),(some (184,false))⟩,⟨(some 188),.iaS 3 (.t 186) (.t 187),(some (184,false))⟩,⟨(some 189),.iaA 3 1 (.t 188) (ki 2),(some (184,false))⟩,⟨(some 190),.ld (.t 189),(some (184,false))⟩,⟨(some 191),.bin .neq (.t 185) (.t 190),(some (184,false))⟩,(so 192 (.pick (.t 184) (.k (.bool true)) (.t 191)))] (.cond (.t 192) (rg [(so 0 (.mov (.k (.bool false))))] .ret) .skip)))) (.reg [(sa 165 19),(b2 166 .add 165 1),(sa 19 166)])))))) (rg [(sc 194 4 1),(so 195 (.agg (zs 4) [(0,1,(ki 3900)),(1,1,(ki 2000)),(2,1,(ki 4100)),(3,1,(ki 2500))])),(so 196 (.call 17 [(.t 194),(ki 0),(.t 195)])),(sa 193 196),(so 197 (.ext (.t 193) 0)),(so 198 (.ext (.t 193) 1)),(sa 22 197),(sa 12 198)] (rg [(sc 200 4 1),(so 201 (.agg (zs 4) [(0,1,(ki 8000)),(1,1,(ki 0)),(2,1,(ki 9000)),(3,1,(ki 1000))])),(so 202 (.call 17 [(.t 200),(ki 0),(.t 201)])),(sa 199 202),(so 203 (.ext (.t 199) 0)),(so 204 (.ext (.t 199) 1)),(sa 23 203),(sa 15 204)] (rg [(sc 206 4 1),(so 207 (.call 30 [(.t 206),(ki 0),(ki 0)])),(sa 205 207),(so 208 (.ext (.t 205) 0)),(so 209 (.ext (.t 205) 1)),(sa 24 208),(sa 17 209)] (rg [(sc 211 4 1),(so 212 (.call 32 [(.t 211),(ki 0),(ki 0)])),(sa 210 212),(so 213 (.ext (.t 210) 0)),(so 214 (.ext (.t 210) 1)),(so 25 (.new 68 (zs 6))),(b8 6 25 213),(sa 26 214)] (rg [(sa 215 12),(b2 216 .eql 215 0),(sa 217 216),⟨(some 218),.mov (.t 15),(some (217,true))⟩,⟨(some 219),.bin .eql (.t 218) (ki 0),(some (217,true))⟩,(so 220 (.pick (.t 217) (.t 219) (.k (.bool false)))),(sa 221 220),⟨(some 222),.mov (.t 17),(some (221,true))⟩,⟨(some 223),.bin .eql (.t 222) (ki 0),(some (221,true))⟩,(so 224 (.pick (.t 221) (.t 223) (.k (.bool false)))),(sa 225 224),⟨(some 226),.mov (.t 26),(some (225,true))⟩,⟨(some 227),.bin .eql (.t 226) (ki 0),(some (225,true))⟩,(so 228 (.pick (.t 225) (.t 227) (.k (.bool false)))),(sa 229 228),⟨(some 230),.mov (.t 22),(some (229,true))⟩,⟨(some 231),.bin .eql (.t 230) (ki 2),(some (229,true))⟩,(so 232 (.pick (.t 229) (.t 231) (.k (.bool false)))),(sa 233 232),⟨(some 234),.mov (.t 23),(some (233,true))⟩,⟨(some 235),.bin .eql (.t 234) (ki 0),(some (233,true))⟩,(so 236 (.pick (.t 233) (.t 235) (.k (.bool false)))),(sa 237 236),⟨(some 238),.mov (.t 24),(some (237,true))⟩,(so 239 (.pick (.t 237) (.t 238) (.k (.bool false)))),(sa 240 239),⟨(some 241),.lds 6 (.t 25),(some (240,true))⟩,⟨(some 242),.agg (zs 6) [(0,1,(ki 2500)),(1,1,(ki 5000)),(2,1,(ki 7500)),(3,1,(ki 5000)),(4,1,(ki 10)),(5,1,(ki 30))],(some (240,true))⟩,⟨(some 243),.eqa false 6 (.t 241) (.t 242),(some (240,true))⟩,(so 244 (.pick (.t 240) (.t 243) (.k (.bool false)))),(sa 245 244),⟨(some 246),.call 19 [],(some (245,true))⟩,(so 247 (.pick (.t 245) (.t 246) (.k (.bool false)))),(sa 0 247)] .ret))))))))))))))))))))⟩
def s15 : aw := ⟨30,[.tmp 8,.tmp 9],(rg [(so 4 (.box 27 (.t 0))),(so 5 (.box 3 (.t 1))),(so 6 (.box 3 (.t 2))),(so 7 (.box 3 (.t 3))),(b6 8 0),(b6 9 0)] (rg [(sc 10 4 4),(sb 11 5),(se 12 3 4),(sb 13 12),(b4 14 13),(so 15 (.bsl 3 2 (zs 2) [(0,1,(.t 11)),(1,1,(.t 14))])),(b3 16 44 [10,15]),(sa 9 16)] (.seq (.block 0 (rg [(sa 18 9),(b2 19 .neq 18 0),(sa 17 19)] (.cond (.t 17) (rg [(sa 20 9),(b6 8 0),(sa 9 20)] .ret) (rg [(sb 22 6),(sb 23 7),(so 24 (.bsl 3 2 (zs 2) [(0,1,(.t 22)),(1,1,(.t 23))])),(b3 25 45 [24]),(sa 21 25)] (.cond (.t 21) (rg [(b6 8 0),(b6 9 7)] .ret) .skip))))) (rg [(se 26 1 4),(sb 27 26),(so 28 (.mkf (.func 47) [] [(.t 4),(.t 5),(.t 6),(.t 7)])),(b3 29 46 [27,28]),(sa 8 29),(b6 9 0)] .ret))))⟩
def s17 : aw := ⟨57,[.tmp 6,.tmp 7],(rg [(so 3 (.box 27 (.t 0))),(so 5 (.box 29 (.t 2))),(b6 6 0),(b6 7 0)] (rg [(sc 14 4 3),(sa 15 1),(se 16 3 3),(sb 17 16),(b4 18 17),(so 19 (.bsl 3 2 (zs 2) [(0,1,(.t 15)),(1,1,(.t 18))])),(b3 20 44 [14,19]),(sa 8 20)] (.seq (.block 0 (rg [(sa 22 8),(b2 23 .neq 22 0),(sa 21 23)] (.cond (.t 21) (rg [(sa 24 8),(b6 6 0),(sa 7 24)] .ret) (rg [(sc 26 4 5),(b3 27 53 [26]),(sa 25 27)] (.cond (.t 25) (rg [(b6 6 0),(b6 7 7)] .ret) .skip))))) (rg [(b6 9 0)] (.seq (rg [(se 28 1 3),(sb 29 28),(b4 30 29),(b6 31 0)] (.block 1 (.loop (rg [(b1 32 .lss 31 30)] (.seq (.cond (.t 32) .skip (.exit 1)) (.seq (.block 2 (rg [(b7 33 5 29 31),(sc 34 5 33),(so 11 (.new 57 (zs 5))),(b8 5 11 34)] (.seq (.draw [⟨(se 35 3 3),none,[7],[]⟩,⟨(sb 36 35),none,[7],[]⟩,⟨(sa 37 1),none,[7],[]⟩,⟨(b7 38 6 36 37),none,[7],[]⟩,⟨(sc 39 6 38),none,[7],[]⟩,⟨(sc 40 5 11),none,[7],[]⟩,⟨(b3 41 48 [39,40]),none,[7],[]⟩,⟨(so 12 (.new 97 [(.int .i64 0),(.int .i64 0),(.int .i64 0),(.int .i64 0),(.int .i64 0),(.int .i64 0),(.int .i64 0),(.int .i64 0),(.bool false)])),(some 0),[],[.fresh 0]⟩,⟨(b8 9 12 41),none,[],[.fresh 0]⟩]) (rg [(sc 42 4 5),(b3 43 54 [42]),(so 13 (.new 108 (zs 8))),(b8 8 13 43)] (.block 3 (rg [(so 45 (.slA 4 2 (.t 13) none none none)),(so 46 (.mkf (.func 56) [] [(.t 12)])),(b3 47 55 [45,46]),(b5 48 47),(sa 44 48)] (.cond (.t 44) (.reg [(b6 9 2)]) (rg [(sc 50 9 12),(sc 51 4 5),(b3 52 57 [50,51]),(sa 49 52)] (.cond (.t 49) (.reg [(sa 53 9),(so 54 (.mm true (.t 53) [(ki 1)])),(sa 9 54)]) .skip))))))))) (.reg [(b2 55 .add 31 1),(sa 31 55)]))))))) (rg [(sa 56 9),(sa 6 56),(b6 7 0)] .ret))))))⟩
def s19 : aw := ⟨62,[.tmp 0],(rg [(so 0 (.mov (.k (.bool false))))] (rg [(so 11 (.call 43 [])),(so 1 (.new 27 [(.slice none 0 0),(.slice none 0 0),(.slice none 0 0),(.slice none 0 0)])),(b8 4 1 11)] (rg [(sc 13 4 1),(so 14 (.agg (zs 4) [(0,1,(ki 8500)),(1,1,(ki (-1500))),(2,1,(ki 11500)),(3,1,(ki 1500))])),(so 15 (.call 22 [(.t 13),(ki 0),(.t 14)])),(sa 12 15),(so 16 (.ext (.t 12) 0)),(so 17 (.ext (.t 12) 1)),(sa 2 16),(sa 3 17)] (rg [(sc 19 4 1),(so 20 (.agg (zs 4) [(0,1,(ki 3900)),(1,1,(ki 3900)),(2,1,(ki 4100)),(3,1,(ki 4100))])),(so 21 (.call 17 [(.t 19),(ki 0),(.t 20)])),(sa 18 21),(so 22 (.ext (.t 18) 0)),(so 23 (.ext (.t 18) 1)),(sa 4 22),(sa 5 23)] (rg [(sc 25 4 1),(so 26 (.call 15 [(.t 25),(ki 0),(ki 4000),(ki 5000)])),(sa 24 26),(so 27 (.ext (.t 24) 0)),(so 28 (.ext (.t 24) 1)),(sa 6 27),(sa 7 28)] (rg [(so 30 (.mks 57 1 (zs 5))),(so 31 (.agg [(.slice none 0 0),(.slice none 0 0),(.slice none 0 0),(.slice none 0 0)] [(1,1,(.t 30))])),(b3 32 23 [31]),(sa 29 32),(so 33 (.ext (.t 29) 0)),(so 34 (.ext (.t 29) 1)),(so 35 (.ext (.t 29) 2)),(sa 8 33),(sa 9 34),(sa 10 35)] (rg [(sa 36 3),(b2 37 .eql 36 0),(sa 38 37),⟨(some 39),.mov (.t 5),(some (38,true))⟩,⟨(some 40),.bin .eql (.t 39) (ki 0),(some (38,true))⟩,(so 41 (.pick (.t 38) (.t 40) (.k (.bool false)))),(sa 42 41),⟨(some 43),.mov (.t 7),(some (42,true))⟩,⟨(some 44),.bin .eql (.t 43) (ki 0),(some (42,true))⟩,(so 45 (.pick (.t 42) (.t 44) (.k (.bool false)))),(sa 46 45),⟨(some 47),.mov (.t 10),(some (46,true))⟩,⟨(some 48),.bin .eql (.t 47) (ki 7),(some (46,true))⟩,(so 49 (.pick (.t 46) (.t 48) (.k (.bool false)))),(sa 50 49),⟨(some 51),.mov (.t 2),(some (50,true))⟩,⟨(some 52),.bin .eql (.t 51) (ki 1),(some (50,true))⟩,(so 53 (.pick (.t 50) (.t 52) (.k (.bool false)))),(sa 54 53),⟨(some 55),.mov (.t 4),(some (54,true))⟩,⟨(some 56),.bin .eql (.t 55) (ki 1),(some (54,true))⟩,(so 57 (.pick (.t 54) (.t 56) (.k (.bool false)))),(sa 58 57),⟨(some 59),.mov (.t 6),(some (58,true))⟩,⟨(some 60),.bin .eql (.t 59) (ki (-1)),(some (58,true))⟩,(so 61 (.pick (.t 58) (.t 60) (.k (.bool false)))),(sa 0 61)] .ret)))))))⟩
def s22 : aw := ⟨30,[.tmp 6,.tmp 7],(rg [(so 3 (.box 27 (.t 0))),(so 5 (.box 29 (.t 2))),(b6 6 0),(b6 7 0)] (rg [(sc 9 4 3),(sa 10 1),(se 11 0 3),(sb 12 11),(b4 13 12),(so 14 (.bsl 3 2 (zs 2) [(0,1,(.t 10)),(1,1,(.t 13))])),(b3 15 44 [9,14]),(sa 8 15)] (.seq (.block 0 (rg [(sa 17 8),(b2 18 .neq 17 0),(sa 16 18)] (.cond (.t 16) (rg [(sa 19 8),(b6 6 0),(sa 7 19)] .ret) (rg [(sc 21 4 5),(b3 22 53 [21]),(sa 20 22)] (.cond (.t 20) (rg [(b6 6 0),(b6 7 7)] .ret) .skip))))) (.seq (.draw [(ee 23 0 3),(eb 24 23),(ea 25 1),(d7 26 4 24 25),(ec 27 4 26),(ec 28 4 5),(d3 29 61 [27,28]),(ea 6 29),(eo 7 (.mov (ki 0)))]) .ret))))⟩
def s23 : aw := ⟨75,[.tmp 2,.tmp 3,.tmp 4],(rg [(so 1 (.box 27 (.t 0))),(b6 2 0),(b6 3 0),(b6 4 0)] (.seq (rg [(se 13 0 1),(sb 14 13),(b4 15 14),(b2 16 .gtr 15 8),(sa 17 16),⟨(some 18),.fa 1 (.t 1),(some (17,false))⟩,⟨(some 19),.ld (.t 18),(some (17,false))⟩,⟨(some 20),.len (.t 19),(some (17,false))⟩,⟨(some 21),.bin .gtr (.t 20) (ki 12),(some (17,false))⟩,(so 22 (.pick (.t 17) (.k (.bool true)) (.t 21))),(sa 23 22),⟨(some 24),.fa 2 (.t 1),(some (23,false))⟩,⟨(some 25),.ld (.t 24),(some (23,false))⟩,⟨(some 26),.len (.t 25),(some (23,false))⟩,⟨(some 27),.bin .gtr (.t 26) (ki 8),(some (23,false))⟩,(so 28 (.pick (.t 23) (.k (.bool true)) (.t 27))),(sa 29 28),⟨(some 30),.fa 3 (.t 1),(some (29,false))⟩,⟨(some 31),.ld (.t 30),(some (29,false))⟩,⟨(some 32),.len (.t 31),(some (29,false))⟩,⟨(some 33),.bin .gtr (.t 32) (ki 24),(some (29,false))⟩,(so 34 (.pick (.t 29) (.k (.bool true)) (.t 33)))] (.cond (.t 34) (rg [(b6 2 0),(b6 3 0),(b6 4 3)] .ret) .skip)) (.seq (rg [(se 36 0 1),(sb 37 36),(so 38 (.call 62 [(.t 37),(.k (.fn (.func 63) [] []))])),(sa 35 38),(so 39 (.ext (.t 35) 0)),(so 40 (.ext (.t 35) 1)),(sa 5 39),(sa 6 40)] (rg [(sa 41 6),(b2 42 .neq 41 0)] (.cond (.t 42) (rg [(sa 43 5),(sa 44 6),(b6 2 1),(sa 3 43),(sa 4 44)] .ret) .skip))) (.seq (rg [(se 46 1 1),(sb 47 46),(so 48 (.call 64 [(.t 47),(.k (.fn (.func 65) [] []))])),(sa 45 48),(so 49 (.ext (.t 45) 0)),(so 50 (.ext (.t 45) 1)),(sa 7 49),(sa 8 50)] (rg [(sa 51 8),(b2 52 .neq 51 0)] (.cond (.t 52) (rg [(sa 53 7),(sa 54 8),(b6 2 2),(sa 3 53),(sa 4 54)] .ret) .skip))) (.seq (rg [(se 56 2 1),(sb 57 56),(so 58 (.call 66 [(.t 57),(.k (.fn (.func 67) [] []))])),(sa 55 58),(so 59 (.ext (.t 55) 0)),(so 60 (.ext (.t 55) 1)),(sa 9 59),(sa 10 60)] (rg [(sa 61 10),(b2 62 .neq 61 0)] (.cond (.t 62) (rg [(sa 63 9),(sa 64 10),(b6 2 3),(sa 3 63),(sa 4 64)] .ret) .skip))) (.seq (rg [(se 66 3 1),(sb 67 66),(so 68 (.call 68 [(.t 67),(.k (.fn (.func 69) [] []))])),(sa 65 68),(so 69 (.ext (.t 65) 0)),(so 70 (.ext (.t 65) 1)),(sa 11 69),(sa 12 70)] (rg [(sa 71 12),(b2 72 .neq 71 0)] (.cond (.t 72) (rg [(sa 73 11),(sa 74 12),(b6 2 4),(sa 3 73),(sa 4 74)] .ret) .skip))) (rg [(b6 2 0),(b6 3 0),(b6 4 0)] .ret)))))))⟩
def s25 : aw := ⟨35,[.tmp 8,.tmp 9],(rg [(so 4 (.box 27 (.t 0))),(so 8 (.mov (.k (.bool false)))),(b6 9 0)] (rg [(sc 11 4 4),(sa 12 1),(se 13 0 4),(sb 14 13),(b4 15 14),(so 16 (.bsl 3 2 (zs 2) [(0,1,(.t 12)),(1,1,(.t 15))])),(b3 17 44 [11,16]),(sa 10 17)] (.seq (.block 0 (rg [(sa 19 10),(b2 20 .neq 19 0),(sa 18 20)] (.cond (.t 18) (rg [(sa 21 10),(so 8 (.mov (.k (.bool false)))),(sa 9 21)] .ret) (rg [(sa 23 2),(sa 24 3),(so 25 (.bsl 3 2 (zs 2) [(0,1,(.t 23)),(1,1,(.t 24))])),(b3 26 45 [25]),(sa 22 26)] (.cond (.t 22) (rg [(so 8 (.mov (.k (.bool false)))),(b6 9 7)] .ret) .skip))))) (rg [(se 27 0 4),(sb 28 27),(sa 29 1),(b7 30 4 28 29),(sc 31 4 30),(sa 32 2),(sa 33 3),(b3 34 74 [31,32,33]),(sa 8 34),(b6 9 0)] .ret))))⟩
def s30 : aw := ⟨57,[.tmp 6,.tmp 7],(rg [(so 3 (.box 27 (.t 0))),(so 6 (.mov (.k (.bool false)))),(b6 7 0)] (.seq (rg [(sc 11 4 3),(sa 12 2),(se 13 2 3),(sb 14 13),(b4 15 14),(sa 16 1),(se 17 3 3),(sb 18 17),(b4 19 18),(so 20 (.bsl 3 4 (zs 4) [(0,1,(.t 12)),(1,1,(.t 15)),(2,1,(.t 16)),(3,1,(.t 19))])),(b3 21 44 [11,20]),(sa 8 21)] (rg [(sa 22 8),(b2 23 .neq 22 0)] (.cond (.t 23) (rg [(sa 24 8),(so 6 (.mov (.k (.bool false)))),(sa 7 24)] .ret) .skip))) (.seq (.draw [⟨(se 25 2 3),none,[10,11],[]⟩,⟨(sb 26 25),none,[10,11],[]⟩,⟨(sa 27 2),none,[10,11],[]⟩,⟨(b7 28 5 26 27),none,[10,11],[]⟩,⟨(sc 29 5 28),none,[10,11],[]⟩,⟨(se 30 3 3),none,[10,11,12],[]⟩,⟨(sb 31 30),none,[10,11,12],[]⟩,⟨(sa 32 1),none,[10,11,12],[]⟩,⟨(b7 33 6 31 32),none,[10,11,12],[]⟩,⟨(sc 34 6 33),none,[10,11,12],[]⟩,⟨(so 9 (.new 123 [(.int .i64 0),(.int .i64 0),(.int .i64 0),(.int .i64 0),(.slice none 0 0)])),(some 0),[11],[.fresh 0]⟩,⟨(so 10 (.new 100 [(.str ⟨#[]⟩),(.int .i64 0),(.int .i64 0),(.int .i64 0),(.int .i64 0),(.int .i64 0)])),(some 1),[10],[.fresh 1]⟩,⟨(b8 5 9 29),none,[],[.fresh 0]⟩,⟨(b8 6 10 34),none,[],[.fresh 1]⟩]) (rg [(se 35 0 9),(so 36 (.iaA 2 1 (.t 35) (ki 0))),(sb 37 36),(se 38 0 9),(so 39 (.iaA 2 1 (.t 38) (ki 1))),(sb 40 39),(so 41 (.agg (zs 2) [(0,1,(.t 37)),(1,1,(.t 40))])),(se 42 2 9),(so 43 (.iaA 2 1 (.t 42) (ki 0))),(sb 44 43),(se 45 2 9),(so 46 (.iaA 2 1 (.t 45) (ki 1))),(sb 47 46),(so 48 (.agg (zs 2) [(0,1,(.t 44)),(1,1,(.t 47))])),(so 49 (.agg (zs 4) [(0,2,(.t 41)),(2,2,(.t 48))])),(se 50 1 10),(sb 51 50),(se 52 2 10),(sb 53 52),(so 54 (.agg (zs 2) [(0,1,(.t 51)),(1,1,(.t 53))])),(b3 55 78 [49,54]),(b2 56 .gtr 55 0),(sa 6 56),(b6 7 0)] .ret))))⟩
def s32 : aw := ⟨80,[.cell 6 (some 6),.tmp 7],(rg [(so 3 (.box 27 (.t 0))),(so 6 (.new 68 (zs 6))),(b6 7 0)] (rg [(sc 13 4 3),(sa 14 1),(se 15 2 3),(sb 16 15),(b4 17 16),(so 18 (.bsl 3 2 (zs 2) [(0,1,(.t 14)),(1,1,(.t 17))])),(b3 19 44 [13,18]),(sa 8 19)] (.seq (rg [(sa 20 8),(b2 21 .eql 20 0)] (.cond (.t 21) (.draw [⟨(sc 22 4 3),none,[9],[]⟩,(ea 23 2),(ee 24 2 3),(eb 25 24),(ea 26 1),(d7 27 5 25 26),(ee 28 4 27),(eb 29 28),(d4 30 29),⟨(so 31 (.bsl 3 2 (zs 2) [(0,1,(.t 23)),(1,1,(.t 30))])),(some 0),[],[.fresh 0]⟩,(d3 32 44 [22,31]),(ea 8 32)]) .skip)) (.seq (rg [(sa 33 8),(b2 34 .neq 33 0)] (.cond (.t 34) (rg [(so 35 (.agg (zs 6) [])),(sa 36 8),(b8 6 6 35),(sa 7 36)] .ret) .skip)) (rg [(se 37 2 3),(sb 38 37),(sa 39 1),(b7 40 5 38 39),(sc 41 5 40),(so 9 (.new 123 [(.int .i64 0),(.int .i64 0),(.int .i64 0),(.int .i64 0),(.slice none 0 0)])),(b8 5 9 41)] (rg [(se 42 4 9),(sb 43 42),(sa 44 2),(b7 45 4 43 44),(sc 46 4 45),(so 10 (.new 137 (zs 4))),(b8 4 10 46)] (rg [(so 47 (.mkf (.func 80) [] [(.t 10)])),(sa 11 47)] (rg [(se 48 2 10),(sb 49 48),(se 50 3 10),(sb 51 50),(so 52 (.agg (zs 6) [(4,1,(.t 49)),(5,1,(.t 51))])),(so 12 (.new 68 (zs 6))),(b8 6 12 52)] (rg [(sa 54 11),(se 55 0 9),(so 56 (.iaA 2 1 (.t 55) (ki 0))),(sb 57 56),(se 58 2 9),(so 59 (.iaA 2 1 (.t 58) (ki 0))),(sb 60 59),(so 61 (.callv (.t 54) [(.t 57),(.t 60)])),(sa 53 61),(so 62 (.ext (.t 53) 0)),(so 63 (.ext (.t 53) 1)),(se 64 0 12),(b8 1 64 62),(se 65 2 12),(b8 1 65 63)] (rg [(sa 67 11),(se 68 0 9),(so 69 (.iaA 2 1 (.t 68) (ki 1))),(sb 70 69),(se 71 2 9),(so 72 (.iaA 2 1 (.t 71) (ki 1))),(sb 73 72),(so 74 (.callv (.t 67) [(.t 70),(.t 73)])),(sa 66 74),(so 75 (.ext (.t 66) 0)),(so 76 (.ext (.t 66) 1)),(se 77 1 12),(b8 1 77 75),(se 78 3 12),(b8 1 78 76)] (rg [(sc 79 6 12),(b8 6 6 79),(b6 7 0)] .ret)))))))))))⟩
def s34 : aw := ⟨52,[.tmp 4,.tmp 5],(rg [(so 2 (.box 27 (.t 0))),(so 4 (.mov (.k (.slice none 0 0)))),(b6 5 0)] (.seq (rg [(sc 12 4 2),(sa 13 1),(se 14 0 2),(sb 15 14),(b4 16 15),(so 17 (.bsl 3 2 (zs 2) [(0,1,(.t 13)),(1,1,(.t 16))])),(b3 18 44 [12,17]),(sa 6 18)] (rg [(sa 19 6),(b2 20 .neq 19 0)] (.cond (.t 20) (rg [(sa 21 6),(so 4 (.mov (.k (.slice none 0 0)))),(sa 5 21)] .ret) .skip))) (rg [(so 7 (.new 73 [(.slice none 0 0)]))] (rg [(so 8 (.new 95 (zs 2)))] (rg [(so 9 (.new 3 [(.int .i64 0)])),⟨none,.st 1 (.t 9) (ki 0),none⟩] (.seq (rg [(se 22 0 2),(sb 23 22),(sa 24 1),(b7 25 4 23 24),(sc 26 4 25),(b3 27 83 [26])] (.block 0 (.range (.t 27) [28] (.reg [(so 10 (.new 145 (zs 5))),(b8 5 10 28)]) (.block 1 (rg [(se 29 0 10),(se 30 2 29),(sc 31 2 30),(se 32 0 10),(se 33 0 32),(sc 34 2 33),(b3 35 84 [31,34]),(so 11 (.new 95 (zs 2))),(b8 2 11 35)] (.seq (rg [(sb 36 9),(b2 37 .gtr 36 0),(sa 38 37),⟨(some 39),.lds 2 (.t 11),(some (38,true))⟩,⟨(some 40),.lds 2 (.t 8),(some (38,true))⟩,⟨(some 41),.call 85 [(.t 39),(.t 40)],(some (38,true))⟩,⟨(some 42),.bin .leq (.t 41) (ki 0),(some (38,true))⟩,(so 43 (.pick (.t 38) (.t 42) (.k (.bool false))))] (.cond (.t 43) (.reg [(sb 44 7),(sb 45 9),(so 46 (.bsl 3 1 [(.int .i64 0)] [(0,1,(.t 45))])),(so 47 (.app 3 1 8 [(.int .i64 0)] (.t 44) (.t 46))),(b8 1 7 47)]) .skip)) (rg [(sc 48 2 11),(b8 2 8 48)] (.reg [(sb 49 9),(b2 50 .add 49 1),(b8 1 9 50)]))))) its))) (rg [(sb 51 7),(sa 4 51),(b6 5 0)] .ret)))))))⟩
def s35 : aw := ⟨161,[.tmp 6,.tmp 7],(rg [(so 3 (.box 27 (.t 0))),(so 6 (.mov (.k (.slice none 0 0)))),(b6 7 0)] (.scope (rg [(sc 20 4 3),(sa 21 1),(se 22 0 3),(sb 23 22),(b4 24 23),(so 25 (.bsl 3 2 (zs 2) [(0,1,(.t 21)),(1,1,(.t 24))])),(b3 26 44 [20,25]),(sa 8 26)] (.seq (.block 0 (rg [(sa 28 8),(b2 29 .neq 28 0),(sa 27 29)] (.cond (.t 27) (rg [(sa 30 8),(so 6 (.mov (.k (.slice none 0 0)))),(sa 7 30)] .ret) (rg [(sa 32 2),(so 33 (.call 86 [(.t 32),(ki 100),(ki 100000)])),(sa 31 33)] (.cond (.t 31) (rg [(so 6 (.mov (.k (.slice none 0 0)))),(b6 7 7)] .ret) .skip))))) (rg [(se 34 0 3),(sb 35 34),(sa 36 1),(b7 37 4 35 36),(sc 38 4 37),(so 9 (.new 54 [(.str ⟨#[]⟩),(.int .i64 0),(.slice none 0 0),(.int .i64 0)])),(b8 4 9 38)] (.seq (.draw [⟨(se 39 2 9),none,[8,9],[]⟩,⟨(sb 40 39),none,[8,9],[]⟩,⟨(so 41 (.iaS 2 (.t 40) (ki 0))),none,[8,9],[]⟩,⟨(sc 42 2 41),none,[8,9],[]⟩,⟨(se 43 2 9),none,[8,9,10],[]⟩,⟨(sb 44 43),none,[8,9,10],[]⟩,⟨(so 45 (.iaS 2 (.t 44) (ki 0))),none,[8,9,10],[]⟩,⟨(sc 46 2 45),none,[8,9,10],[]⟩,⟨(so 10 (.new 72 (zs 2))),(some 0),[9],[.fresh 0]⟩,⟨(so 11 (.new 72 (zs 2))),(some 1),[8],[.fresh 1]⟩,⟨(b8 2 10 42),none,[],[.fresh 0]⟩,⟨(b8 2 11 46),none,[],[.fresh 1]⟩]) (.seq (rg [(se 47 2 9),(sb 48 47),(b4 49 48),(b6 50 0)] (.block 1 (.loop (rg [(b1 51 .lss 50 49)] (.seq (.cond (.t 51) .skip (.exit 1)) (.seq (.block 2 (rg [(b7 52 2 48 50),(sc 53 2 52),(so 13 (.new 72 (zs 2))),(b8 2 13 53)] (rg [(b6 54 0)] (.block 3 (.loop (rg [(b2 55 .lss 54 2)] (.seq (.cond (.t 55) .skip (.exit 3)) (.seq (.block 4 (rg [(sa 56 54),(sa 14 56)] (.draw [(ea 57 14),⟨(sa 58 14),none,[17],[]⟩,(ea 59 14),(eo 60 (.iaA 2 1 (.t 10) (.t 59))),(eb 61 60),(ea 62 14),(eo 63 (.iaA 2 1 (.t 13) (.t 62))),(eb 64 63),(eo 65 (.mm false (.t 61) [(.t 64)])),⟨(sa 66 14),none,[17],[]⟩,⟨(so 67 (.iaA 2 1 (.t 11) (.t 66))),none,[17],[]⟩,⟨(sb 68 67),none,[17],[]⟩,⟨(sa 69 14),none,[17],[]⟩,⟨(so 70 (.iaA 2 1 (.t 13) (.t 69))),none,[17],[]⟩,⟨(sb 71 70),none,[17],[]⟩,⟨(so 72 (.mm true (.t 68) [(.t 71)])),none,[17],[]⟩,(eo 73 (.iaA 2 1 (.t 10) (.t 57))),⟨(b8 1 73 65),none,[],[.slot 10]⟩,(eo 74 (.iaA 2 1 (.t 11) (.t 58))),⟨(b8 1 74 72),none,[],[.slot 11]⟩]))) (.reg [(b2 75 .add 54 1),(sa 54 75)]))))))))) (.reg [(b2 76 .add 50 1),(sa 50 76)]))))))) (.seq (rg [(b6 77 0)] (.block 5 (.loop (rg [(b2 78 .lss 77 2)] (.seq (.cond (.t 78) .skip (.exit 5)) (.seq (.block 6 (rg [(sa 79 77),(sa 15 79)] (.draw [(ea 80 15),⟨(sa 81 15),none,[19],[]⟩,(ea 82 15),(eo 83 (.iaA 2 1 (.t 10) (.t 82))),(eb 84 83),(ee 85 3 9),(eb 86 85),(d1 87 .sub 84 86),(ea 88 2),(d3 89 81 [87,88]),(ea 90 15),(eo 91 (.iaA 2 1 (.t 11) (.t 90))),(eb 92 91),(ee 93 3 9),(eb 94 93),(d1 95 .add 92 94),(ea 96 2),(d3 97 81 [95,96]),(eo 98 (.iaA 2 1 (.t 10) (.t 80))),⟨(b8 1 98 89),none,[],[.slot 10]⟩,(eo 99 (.iaA 2 1 (.t 11) (.t 81))),⟨(b8 1 99 97),none,[],[.slot 11]⟩]))) (.reg [(b2 100 .add 77 1),(sa 77 100)]))))))) (.seq (rg [(so 101 (.iaA 2 1 (.t 11) (ki 0))),(sb 102 101),(so 103 (.iaA 2 1 (.t 10) (ki 0))),(sb 104 103),(b1 105 .sub 102 104),(b2 106 .add 105 1),(so 107 (.iaA 2 1 (.t 11) (ki 1))),(sb 108 107),(so 109 (.iaA 2 1 (.t 10) (ki 1))),(sb 110 109),(b1 111 .sub 108 110),(b2 112 .add 111 1),(b1 113 .mul 106 112),(b2 114 .gtr 113 4000)] (.cond (.t 114) (rg [(so 6 (.mov (.k (.slice none 0 0)))),(b6 7 3)] .ret) .skip)) (rg [(so 16 (.mov (.k (.slice none 0 0))))] (.seq .skip (.seq (rg [(so 115 (.iaA 2 1 (.t 10) (ki 1))),(sb 116 115),(sa 17 116)] (.block 7 (.loop (.seq (rg [(sa 117 17),(so 118 (.iaA 2 1 (.t 11) (ki 1))),(sb 119 118),(b1 120 .leq 117 119)] (.cond (.t 120) .skip (.exit 7))) (.seq (.block 8 (rg [(so 123 (.iaA 2 1 (.t 10) (ki 0))),(sb 124 123),(sa 18 124)] (.block 9 (.loop (.seq (rg [(sa 125 18),(so 126 (.iaA 2 1 (.t 11) (ki 0))),(sb 127 126),(b1 128 .leq 125 127)] (.cond (.t 128) .skip (.exit 9))) (.seq (.block 10 (rg [(sa 131 18),(sa 132 2),(b1 133 .mul 131 132),(sa 134 17),(sa 135 2),(b1 136 .mul 134 135),(sa 137 18),(b2 138 .add 137 1),(sa 139 2),(b1 140 .mul 138 139),(sa 141 17),(b2 142 .add 141 1),(sa 143 2),(b1 144 .mul 142 143),(so 145 (.agg (zs 4) [(0,1,(.t 133)),(1,1,(.t 136)),(2,1,(.t 140)),(3,1,(.t 144))])),(so 19 (.new 29 (zs 4))),(b8 4 19 145)] (.seq (rg [(sc 146 4 9),(sc 147 4 19),(b3 148 61 [146,147]),(b2 149 .eql 148 0)] (.cond (.t 149) (.exit 10) .skip)) (rg [(sa 150 16),(sc 151 4 19),(so 152 (.bsl 29 1 (zs 4) [(0,4,(.t 151))])),(so 153 (.app 29 4 32 (zs 4) (.t 150) (.t 152))),(sa 16 153)] (rg [(sa 154 16),(b4 155 154),(b2 156 .gtr 155 400)] (.cond (.t 156) (.exit 7) .skip)))))) (.reg [(sa 129 18),(b2 130 .add 129 1),(sa 18 130)]))))))) (.reg [(sa 121 17),(b2 122 .add 121 1),(sa 17 122)])))))) (.seq (rg [(sa 157 16),(b4 158 157),(b2 159 .gtr 158 400)] (.cond (.t 159) (rg [(so 6 (.mov (.k (.slice none 0 0)))),(b6 7 3)] .ret) .skip)) (rg [(sa 160 16),(sa 6 160),(b6 7 0)] .ret))))))))))))))⟩
def s37 : aw := ⟨33,[.tmp 2,.tmp 3],(rg [(so 1 (.box 27 (.t 0))),(so 2 (.mov (.k (.slice none 0 0)))),(b6 3 0)] (.seq (rg [(sc 9 4 1),(so 10 (.call 44 [(.t 9),(.k (.slice none 0 0))])),(sa 4 10)] (rg [(sa 11 4),(b2 12 .neq 11 0)] (.cond (.t 12) (rg [(sa 13 4),(so 2 (.mov (.k (.slice none 0 0)))),(sa 3 13)] .ret) .skip))) (rg [(so 5 (.mov (.k (.slice none 0 0))))] (.seq (rg [(se 14 3 1),(sb 15 14),(b4 16 15),(b6 17 0)] (.block 0 (.loop (rg [(b1 18 .lss 17 16)] (.seq (.cond (.t 18) .skip (.exit 0)) (.seq (.block 1 (rg [(sa 19 17),(b7 20 6 15 17),(sc 21 6 20),(so 7 (.new 100 [(.str ⟨#[]⟩),(.int .i64 0),(.int .i64 0),(.int .i64 0),(.int .i64 0),(.int .i64 0)])),(sa 6 19),(b8 6 7 21)] (rg [(so 22 (.mkf (.func 89) [] [(.t 7)])),(sa 8 22)] (rg [(se 23 0 1),(sb 24 23),(sa 25 8),(b3 26 90 [24,25])] (.cond (.t 26) (.reg [(sa 27 5),(sa 28 6),(so 29 (.bsl 3 1 [(.int .i64 0)] [(0,1,(.t 28))])),(so 30 (.app 3 1 8 [(.int .i64 0)] (.t 27) (.t 29))),(sa 5 30)]) .skip))))) (.reg [(b2 31 .add 17 1),(sa 17 31)]))))))) (rg [(sa 32 5),(sa 2 32),(b6 3 0)] .ret)))))⟩
def s40 : aw := ⟨26,[.tmp 4],(rg [(so 4 (.mov (.k (.bool false))))] (.seq (rg [(sa 6 0),(b4 7 6),(sa 8 1),(b4 9 8),(b1 10 .neq 7 9)] (.cond (.t 10) (rg [(so 4 (.mov (.k (.bool false))))] .ret) .skip)) (.seq (rg [(b6 5 0)] (.block 0 (.loop (.seq (rg [(sa 11 5),(sa 12 0),(b4 13 12),(b1 14 .lss 11 13)] (.cond (.t 14) .skip (.exit 0))) (.seq (.block 1 (.seq (.draw [(ea 17 0),(ea 18 5),(d7 19 1 17 18),(eb 20 19),(ea 21 1),(ea 22 5),(d7 23 1 21 22),(eb 24 23),(d1 25 .neq 20 24)]) (.cond (.t 25) (rg [(so 4 (.mov (.k (.bool false))))] .ret) .skip))) (.reg [(sa 15 5),(b2 16 .add 15 1),(sa 5 16)])))))) (rg [(so 4 (.mov (.k (.bool true))))] .ret))))⟩
def s43 : aw := ⟨22,[.cell 0 (some 4)],(rg [(so 0 (.new 27 [(.slice none 0 0),(.slice none 0 0),(.slice none 0 0),(.slice none 0 0)]))] (rg [(so 1 (.agg (zs 2) [(0,1,(ki 0)),(1,1,(ki 0))])),(so 2 (.agg (zs 2) [(0,1,(ki 10000)),(1,1,(ki 0))])),(so 3 (.agg (zs 2) [(0,1,(ki 10000)),(1,1,(ki 10000))])),(so 4 (.bsl 72 3 (zs 6) [(0,2,(.t 1)),(2,2,(.t 2)),(4,2,(.t 3))])),(so 5 (.agg [(.str ⟨#[]⟩),(.int .i64 0),(.slice none 0 0),(.int .i64 0)] [(0,1,(.k (.str ⟨#[104,105,103,104]⟩))),(2,1,(.t 4)),(3,1,(ki 4000))])),(so 6 (.agg (zs 2) [(0,1,(ki 5000)),(1,1,(ki (-2000)))])),(so 7 (.agg (zs 2) [(0,1,(ki 5000)),(1,1,(ki 2000))])),(so 8 (.bsl 72 2 (zs 4) [(0,2,(.t 6)),(2,2,(.t 7))])),(so 9 (.agg [(.str ⟨#[]⟩),(.int .i64 0),(.slice none 0 0),(.int .i64 0)] [(0,1,(.k (.str ⟨#[122,101,98,114,97]⟩))),(1,1,(ki 3)),(2,1,(.t 8)),(3,1,(ki 3000))])),(so 10 (.bsl 54 2 [(.str ⟨#[]⟩),(.int .i64 0),(.slice none 0 0),(.int .i64 0),(.str ⟨#[]⟩),(.int .i64 0),(.slice none 0 0),(.int .i64 0)] [(0,4,(.t 5)),(4,4,(.t 9))])),(so 11 (.agg (zs 5) [(0,1,(ki 4000)),(1,1,(ki 3000)),(2,1,(ki 1000)),(3,1,(ki 20)),(4,1,(ki 40))])),(so 12 (.bsl 57 1 (zs 5) [(0,5,(.t 11))])),(so 13 (.agg (zs 2) [(0,1,(ki 10000)),(1,1,(ki 5000))])),(so 14 (.agg (zs 2) [(0,1,(ki 0)),(1,1,(ki 5000))])),(so 15 (.agg (zs 4) [(0,1,(ki 250)),(1,1,(ki 750)),(2,1,(ki 10)),(3,1,(ki 30))])),(so 16 (.bsl 137 1 (zs 4) [(0,4,(.t 15))])),(so 17 (.agg [(.int .i64 0),(.int .i64 0),(.int .i64 0),(.int .i64 0),(.slice none 0 0)] [(0,2,(.t 13)),(2,2,(.t 14)),(4,1,(.t 16))])),(so 18 (.bsl 123 1 [(.int .i64 0),(.int .i64 0),(.int .i64 0),(.int .i64 0),(.slice none 0 0)] [(0,5,(.t 17))])),(so 19 (.agg [(.str ⟨#[]⟩),(.int .i64 0),(.int .i64 0),(.int .i64 0),(.int .i64 0),(.int .i64 0)] [(0,1,(.k (.str ⟨#[99,49]⟩))),(1,1,(ki 4000)),(2,1,(ki 4000)),(3,1,(ki 60)),(5,1,(ki (-1)))])),(so 20 (.bsl 100 1 [(.str ⟨#[]⟩),(.int .i64 0),(.int .i64 0),(.int .i64 0),(.int .i64 0),(.int .i64 0)] [(0,6,(.t 19))])),(so 21 (.agg [(.slice none 0 0),(.slice none 0 0),(.slice none 0 0),(.slice none 0 0)] [(0,1,(.t 10)),(1,1,(.t 12)),(2,1,(.t 18)),(3,1,(.t 20))])),(b8 4 0 21)] .ret))⟩
def s44 : aw := ⟨37,[.tmp 4],(rg [(so 2 (.box 27 (.t 0))),(b6 4 0)] (rg [(sc 10 4 2),(b3 11 23 [10]),(sa 9 11),(so 12 (.ext (.t 9) 0)),(so 13 (.ext (.t 9) 1)),(so 14 (.ext (.t 9) 2)),(sa 5 12),(sa 6 13),(sa 7 14)] (.seq (rg [(b6 8 0)] (.block 0 (.loop (.seq (rg [(sa 15 8),(sa 16 1),(b4 17 16),(b1 18 .lss 15 17),(sa 19 18),⟨(some 20),.mov (.t 7),(some (19,true))⟩,⟨(some 21),.bin .eql (.t 20) (ki 0),(some (19,true))⟩,(so 22 (.pick (.t 19) (.t 21) (.k (.bool false))))] (.cond (.t 22) .skip (.exit 0))) (.seq (.block 1 (.seq (.draw [(ea 25 1),(ea 26 8),(d7 27 1 25 26),(eb 28 27),(ea 29 1),(ea 30 8),(d2 31 .add 30 1),(d7 32 1 29 31),(eb 33 32),(d2 34 .sub 33 1),(eo 35 (.call 86 [(.t 28),(ki 0),(.t 34)]))]) (.cond (.t 35) (.reg [(b6 7 4)]) .skip))) (.reg [(sa 23 8),(b2 24 .add 23 2),(sa 8 24)])))))) (rg [(sa 36 7),(sa 4 36)] .ret))))⟩
def s45 : aw := ⟨5,[.tmp 2],(rg [(so 2 (.mov (.k (.bool false))))] (rg [(sa 3 0),(so 4 (.call 99 [(.t 3),(.k (.fn (.func 100) [] []))])),(sa 2 4)] .ret))⟩
def s46 : aw := ⟨19,[.tmp 4],(rg [(b6 4 0)] (.seq (rg [(sa 6 0),(b4 7 6),(b6 8 0)] (.block 0 (.loop (rg [(b1 9 .lss 8 7)] (.seq (.cond (.t 9) .skip (.exit 0)) (.seq (.block 1 (rg [(sa 10 8),(sa 5 10)] (rg [(sa 11 1),(sa 12 0),(sa 13 5),(b7 14 5 12 13),(sc 15 5 14),(so 16 (.callv (.t 11) [(.t 15)]))] (.cond (.t 16) (rg [(sa 17 5),(sa 4 17)] .ret) .skip)))) (.reg [(b2 18 .add 8 1),(sa 8 18)]))))))) (rg [(b6 4 (-1))] .ret)))⟩
def s47 : aw := ⟨18,[.tmp 6],(rg [(so 5 (.box 57 (.t 0))),(so 6 (.mov (.k (.bool false))))] (.seq (.draw [(ee 7 3 1),(eb 8 7),(eb 9 2),(d7 10 6 8 9),(ec 11 6 10),(ec 12 5 5),(d3 13 48 [11,12]),(eb 14 3),(eb 15 4),(eo 16 (.agg (zs 2) [(0,1,(.t 14)),(1,1,(.t 15))])),(d3 17 49 [13,16]),(ea 6 17)]) .ret))⟩
def s48 : aw := ⟨42,[.cell 4 (some 9)],(rg [(so 2 (.box 100 (.t 0))),(so 3 (.box 57 (.t 1))),(so 4 (.new 97 [(.int .i64 0),(.int .i64 0),(.int .i64 0),(.int .i64 0),(.int .i64 0),(.int .i64 0),(.int .i64 0),(.int .i64 0),(.bool false)]))] (.seq (.draw [(ee 5 1 2),(eb 6 5),(ee 7 2 2),(eb 8 7),(eo 9 (.agg (zs 2) [(0,1,(.t 6)),(1,1,(.t 8))])),(ee 10 3 2),(eb 11 10),(ee 12 3 2),(eb 13 12),(ee 14 4 3),(eb 15 14),(d1 16 .sub 13 15),(eo 17 (.mm true (ki 0) [(.t 16)])),(ee 18 3 2),(eb 19 18),(ee 20 3 3),(eb 21 20),(d1 22 .sub 19 21),(ee 23 0 3),(eb 24 23),(ee 25 1 3),(eb 26 25),(eo 27 (.agg (zs 2) [(0,1,(.t 24)),(1,1,(.t 26))])),(ee 28 3 2),(eb 29 28),(d3 30 101 [27,29]),(ee 31 2 3),(eb 32 31),(ee 33 3 2),(eb 34 33),(d1 35 .mul 32 34),(ee 36 3 3),(eb 37 36),(ee 38 3 2),(eb 39 38),(d1 40 .gtr 37 39),(eo 41 (.agg [(.int .i64 0),(.int .i64 0),(.int .i64 0),(.int .i64 0),(.int .i64 0),(.int .i64 0),(.int .i64 0),(.int .i64 0),(.bool false)] [(0,2,(.t 9)),(2,1,(.t 11)),(3,1,(.t 17)),(4,1,(.t 22)),(5,2,(.t 30)),(7,1,(.t 35)),(8,1,(.t 40))])),⟨(b8 9 4 41),none,[],[.slot 4]⟩]) .ret))⟩
def s49 : aw := ⟨26,[.tmp 4],(rg [(so 2 (.box 97 (.t 0))),(so 3 (.box 95 (.t 1))),(so 4 (.mov (.k (.bool false))))] (.seq (.draw [(ee 5 8 2),(eb 6 5),(eo 7 (.un .not (.t 6))),(ea 8 7),(dz ⟨(some 9),.lds 9 (.t 2),(some (8,true))⟩),(dz ⟨(some 10),.lds 2 (.t 3),(some (8,true))⟩),(dz ⟨(some 11),.fa 3 (.t 2),(some (8,true))⟩),(dz ⟨(some 12),.ld (.t 11),(some (8,true))⟩),(dz ⟨(some 13),.call 102 [(.t 9),(.t 10),(.t 12)],(some (8,true))⟩),(dz ⟨(some 14),.lds 9 (.t 2),(some (8,true))⟩),(dz ⟨(some 15),.lds 2 (.t 3),(some (8,true))⟩),(dz ⟨(some 16),.fa 4 (.t 2),(some (8,true))⟩),(dz ⟨(some 17),.ld (.t 16),(some (8,true))⟩),(dz ⟨(some 18),.call 102 [(.t 14),(.t 15),(.t 17)],(some (8,true))⟩),(dz ⟨(some 19),.agg (zs 4) [(0,2,(.t 13)),(2,2,(.t 18))],(some (8,true))⟩),(dz ⟨(some 20),.fa 5 (.t 2),(some (8,true))⟩),(dz ⟨(some 21),.lds 2 (.t 20),(some (8,true))⟩),(dz ⟨(some 22),.fa 7 (.t 2),(some (8,true))⟩),(dz ⟨(some 23),.ld (.t 22),(some (8,true))⟩),(dz ⟨(some 24),.call 103 [(.t 19),(.t 21),(.t 23)],(some (8,true))⟩),(eo 25 (.pick (.t 8) (.t 24) (.k (.bool false)))),(ea 4 25)]) .ret))⟩
def s53 : aw := ⟨27,[.tmp 2],(rg [(so 1 (.box 29 (.t 0))),(so 2 (.mov (.k (.bool false))))] (rg [(se 3 0 1),(sb 4 3),(se 5 1 1),(sb 6 5),(se 7 2 1),(sb 8 7),(se 9 3 1),(sb 10 9),(so 11 (.bsl 3 4 (zs 4) [(0,1,(.t 4)),(1,1,(.t 6)),(2,1,(.t 8)),(3,1,(.t 10))])),(b3 12 45 [11]),(sa 13 12),⟨(some 14),.fa 0 (.t 1),(some (13,false))⟩,⟨(some 15),.ld (.t 14),(some (13,false))⟩,⟨(some 16),.fa 2 (.t 1),(some (13,false))⟩,⟨(some 17),.ld (.t 16),(some (13,false))⟩,⟨(some 18),.bin .gtr (.t 15) (.t 17),(some (13,false))⟩,(so 19 (.pick (.t 13) (.k (.bool true)) (.t 18))),(sa 20 19),⟨(some 21),.fa 1 (.t 1),(some (20,false))⟩,⟨(some 22),.ld (.t 21),(some (20,false))⟩,⟨(some 23),.fa 3 (.t 1),(some (20,false))⟩,⟨(some 24),.ld (.t 23),(some (20,false))⟩,⟨(some 25),.bin .gtr (.t 22) (.t 24),(some (20,false))⟩,(so 26 (.pick (.t 20) (.k (.bool true)) (.t 25))),(sa 2 26)] .ret))⟩
def s54 : aw := ⟨24,[.cell 2 (some 8)],(rg [(so 1 (.box 29 (.t 0))),(so 2 (.new 108 (zs 8)))] (rg [(se 3 0 1),(sb 4 3),(se 5 1 1),(sb 6 5),(so 7 (.agg (zs 2) [(0,1,(.t 4)),(1,1,(.t 6))])),(se 8 2 1),(sb 9 8),(se 10 1 1),(sb 11 10),(so 12 (.agg (zs 2) [(0,1,(.t 9)),(1,1,(.t 11))])),(se 13 2 1),(sb 14 13),(se 15 3 1),(sb 16 15),(so 17 (.agg (zs 2) [(0,1,(.t 14)),(1,1,(.t 16))])),(se 18 0 1),(sb 19 18),(se 20 3 1),(sb 21 20),(so 22 (.agg (zs 2) [(0,1,(.t 19)),(1,1,(.t 21))])),(so 23 (.agg (zs 8) [(0,2,(.t 7)),(2,2,(.t 12)),(4,2,(.t 17)),(6,2,(.t 22))])),(b8 8 2 23)] .ret))⟩
def s55 : aw := ⟨9,[.tmp 4],(rg [(so 4 (.mov (.k (.bool false))))] (rg [(sa 5 0),(sa 6 1),(b3 7 108 [5,6]),(b2 8 .geq 7 0),(sa 4 8)] .ret))⟩
def s56 : aw := ⟨8,[.tmp 3],(rg [(so 2 (.box 95 (.t 0))),(so 3 (.mov (.k (.bool false))))] (rg [(sc 4 9 1),(sc 5 2 2),(b3 6 49 [4,5]),(b5 7 6),(sa 3 7)] .ret))⟩
def s57 : aw := ⟨71,[.tmp 4],(rg [(so 2 (.box 97 (.t 0))),(so 3 (.box 29 (.t 1))),(so 4 (.mov (.k (.bool false))))] (.seq (rg [(se 12 8 2),(sb 13 12)] (.cond (.t 13) (rg [(so 4 (.mov (.k (.bool false))))] .ret) .skip)) (rg [(so 5 (.mov (.k (.slice none 0 0))))] (.seq (rg [(sc 14 4 3),(b3 15 54 [14]),(b6 16 0)] (.block 0 (.loop (rg [(b2 17 .lss 16 4)] (.seq (.cond (.t 17) .skip (.exit 0)) (.seq (.block 1 (rg [(so 18 (.ixA 4 2 (some 2) (.t 15) (.t 16))),(so 7 (.new 95 (zs 2))),(b8 2 7 18)] (.draw [⟨(sa 19 5),none,[11],[]⟩,(ec 20 9 2),(ec 21 2 7),(ee 22 3 2),(eb 23 22),(d3 24 102 [20,21,23]),(ec 25 9 2),(ec 26 2 7),(ee 27 4 2),(eb 28 27),(d3 29 102 [25,26,28]),⟨(so 30 (.bsl 95 2 (zs 4) [(0,2,(.t 24)),(2,2,(.t 29))])),(some 0),[],[.fresh 0]⟩,⟨(so 31 (.app 95 2 16 (zs 2) (.t 19) (.t 30))),(some 1),[],[.slot 5,.fresh 1]⟩,(ea 5 31)]))) (.reg [(b2 32 .add 16 1),(sa 16 32)]))))))) (rg [(sa 33 5),(b3 34 109 [33]),(sa 5 34)] (rg [(sa 35 5),(b4 36 35),(b2 37 .gtr 36 2),(sa 8 37)] (.seq (rg [(sa 38 5),(b4 39 38),(b6 40 0)] (.block 2 (.loop (rg [(b1 41 .lss 40 39)] (.seq (.cond (.t 41) .skip (.exit 2)) (.seq (.block 3 (rg [(sa 42 40),(b7 43 2 38 40),(sc 44 2 43),(so 10 (.new 95 (zs 2))),(sa 9 42),(b8 2 10 44)] (.seq (.draw [⟨(sc 45 2 10),none,[10],[]⟩,⟨(sa 46 5),none,[10],[]⟩,⟨(sa 47 9),none,[10],[]⟩,⟨(b2 48 .add 47 1),none,[10],[]⟩,⟨(sa 49 5),none,[10],[]⟩,⟨(b4 50 49),none,[10],[]⟩,⟨(b1 51 .rem 48 50),none,[10],[]⟩,⟨(b7 52 2 46 51),none,[10],[]⟩,⟨(sc 53 2 52),none,[10],[]⟩,⟨(so 54 (.agg (zs 4) [(0,2,(.t 45)),(2,2,(.t 53))])),none,[10],[]⟩,⟨(so 11 (.new 133 (zs 4))),(some 0),[],[.fresh 0]⟩,⟨(b8 4 11 54),none,[],[.fresh 0]⟩]) (.seq (rg [(sc 55 4 11),(se 56 5 2),(sc 57 2 56),(se 58 7 2),(sb 59 58),(b3 60 103 [55,57,59])] (.cond (.t 60) (rg [(so 4 (.mov (.k (.bool true))))] .ret) .skip)) (.reg [(sa 61 8),(sa 62 61),⟨(some 63),.lds 4 (.t 11),(some (62,true))⟩,⟨(some 64),.fa 5 (.t 2),(some (62,true))⟩,⟨(some 65),.lds 2 (.t 64),(some (62,true))⟩,⟨(some 66),.call 78 [(.t 63),(.t 65)],(some (62,true))⟩,⟨(some 67),.bin .gtr (.t 66) (ki 0),(some (62,true))⟩,(so 68 (.pick (.t 62) (.t 67) (.k (.bool false)))),(sa 8 68)]))))) (.reg [(b2 69 .add 40 1),(sa 40 69)]))))))) (rg [(sa 70 8),(sa 4 70)] .ret))))))))⟩
def s61 : aw := ⟨16,[.tmp 4],(rg [(so 2 (.box 54 (.t 0))),(so 3 (.box 29 (.t 1))),(b6 4 0)] (rg [(so 5 (.new 3 [(.int .i64 0)])),⟨none,.st 1 (.t 5) (ki 0),none⟩] (.seq (rg [(sc 7 4 2),(b3 8 83 [7])] (.block 0 (.range (.t 8) [9] (.reg [(so 6 (.new 145 (zs 5))),(b8 5 6 9)]) (.block 1 (.draw [(eb 10 5),(ec 11 5 6),(ec 12 4 3),(d3 13 111 [11,12]),(eo 14 (.mm true (.t 10) [(.t 13)])),⟨(b8 1 5 14),none,[],[.slot 5]⟩])) its))) (rg [(sb 15 5),(sa 4 15)] .ret))))⟩
def s62 : aw := ⟨27,[.tmp 4,.tmp 5],(rg [(b6 4 0),(b6 5 0)] (.seq (rg [(sa 9 0),(b4 10 9),(b6 11 0)] (.block 0 (.loop (rg [(b1 12 .lss 11 10)] (.seq (.cond (.t 12) .skip (.exit 0)) (.seq (.block 1 (rg [(sa 13 11),(b7 14 4 9 11),(sc 15 4 14),(so 7 (.new 54 [(.str ⟨#[]⟩),(.int .i64 0),(.slice none 0 0),(.int .i64 0)])),(sa 6 13),(b8 4 7 15)] (.seq (.draw [(ea 16 1),(ea 17 0),(ea 18 6),(eo 19 (.slS 4 (.t 17) none (some (.t 18)) none)),(ec 20 4 7),(eo 21 (.callv (.t 16) [(.t 19),(.t 20)])),(ea 8 21)]) (rg [(sa 22 8),(b2 23 .neq 22 0)] (.cond (.t 23) (rg [(sa 24 6),(sa 25 8),(sa 4 24),(sa 5 25)] .ret) .skip))))) (.reg [(b2 26 .add 11 1),(sa 11 26)]))))))) (rg [(b6 4 0),(b6 5 0)] .ret)))⟩
def s63 : aw := ⟨61,[.tmp 4],(rg [(so 3 (.box 54 (.t 1))),(b6 4 0)] (rg [(so 7 (.mkf (.func 112) [] [(.t 3)])),(sa 5 7)] (rg [(so 6 (.mov (.k (.fn (.func 113) [] []))))] (.seq (.block 0 (rg [(se 9 0 3),(sb 10 9),(b3 11 114 [10]),(b5 12 11),(sa 8 12)] (.cond (.t 8) (rg [(b6 4 6)] .ret) (rg [(sa 14 0),(sa 15 5),(b3 16 90 [14,15]),(sa 13 16)] (.cond (.t 13) (rg [(b6 4 5)] .ret) (rg [(se 18 1 3),(sb 19 18),(so 20 (.call 86 [(.t 19),(ki 0),(ki 3)])),(sa 17 20)] (.cond (.t 17) (rg [(b6 4 2)] .ret) (rg [(se 22 2 3),(sb 23 22),(b4 24 23),(b2 25 .lss 24 2),(sa 21 25)] (.cond (.t 21) (rg [(b6 4 4)] .ret) (rg [(se 27 2 3),(sb 28 27),(b4 29 28),(b2 30 .gtr 29 8),(sa 26 30)] (.cond (.t 26) (rg [(b6 4 3)] .ret) (rg [(se 32 2 3),(sb 33 32),(sa 34 6),(b3 35 115 [33,34]),(sa 36 35),⟨(some 37),.fa 3 (.t 3),(some (36,false))⟩,⟨(some 38),.ld (.t 37),(some (36,false))⟩,⟨(some 39),.call 86 [(.t 38),(ki 100),(ki 30000)],(some (36,false))⟩,(so 40 (.pick (.t 36) (.k (.bool true)) (.t 39))),(sa 31 40)] (.cond (.t 31) (rg [(b6 4 7)] .ret) (.seq (.allo (.op (se 42 2 3) (.op (se 47 2 3) (.alt (.op (sb 43 42) (.alt (.op (b3 44 117 [43]) (.alt (.op (b3 45 116 [44]) (.op (b4 46 45) (.op (sb 48 47) (.op (b4 49 48) (.op (b1 50 .lss 46 49) (.op (sa 41 50) .done)))))) (.op (sb 48 47) (.op (b4 49 48) (.op (b3 45 116 [44]) (.op (b4 46 45) (.op (b1 50 .lss 46 49) (.op (sa 41 50) .done)))))))) (.op (sb 48 47) (.op (b4 49 48) (.op (b3 44 117 [43]) (.op (b3 45 116 [44]) (.op (b4 46 45) (.op (b1 50 .lss 46 49) (.op (sa 41 50) .done))))))))) (.op (sb 48 47) (.op (b4 49 48) (.op (sb 43 42) (.op (b3 44 117 [43]) (.op (b3 45 116 [44]) (.op (b4 46 45) (.op (b1 50 .lss 46 49) (.op (sa 41 50) .done)))))))))))) (.cond (.t 41) (rg [(b6 4 2)] .ret) (rg [(se 52 1 3),(sb 53 52),(b2 54 .eql 53 3),(sa 55 54),⟨(some 56),.fa 2 (.t 3),(some (55,true))⟩,⟨(some 57),.ld (.t 56),(some (55,true))⟩,⟨(some 58),.len (.t 57),(some (55,true))⟩,⟨(some 59),.bin .gtr (.t 58) (ki 2),(some (55,true))⟩,(so 60 (.pick (.t 55) (.t 59) (.k (.bool false)))),(sa 51 60)] (.cond (.t 51) (rg [(b6 4 2)] .ret) .skip))))))))))))))))) (rg [(b6 4 0)] .ret)))))⟩
def s64 : aw := ⟨27,[.tmp 4,.tmp 5],(rg [(b6 4 0),(b6 5 0)] (.seq (rg [(sa 9 0),(b4 10 9),(b6 11 0)] (.block 0 (.loop (rg [(b1 12 .lss 11 10)] (.seq (.cond (.t 12) .skip (.exit 0)) (.seq (.block 1 (rg [(sa 13 11),(b7 14 5 9 11),(sc 15 5 14),(so 7 (.new 57 (zs 5))),(sa 6 13),(b8 5 7 15)] (.seq (.draw [(ea 16 1),(ea 17 0),(ea 18 6),(eo 19 (.slS 5 (.t 17) none (some (.t 18)) none)),(ec 20 5 7),(eo 21 (.callv (.t 16) [(.t 19),(.t 20)])),(ea 8 21)]) (rg [(sa 22 8),(b2 23 .neq 22 0)] (.cond (.t 23) (rg [(sa 24 6),(sa 25 8),(sa 4 24),(sa 5 25)] .ret) .skip))))) (.reg [(b2 26 .add 11 1),(sa 11 26)]))))))) (rg [(b6 4 0),(b6 5 0)] .ret)))⟩
def s65 : aw := ⟨29,[.tmp 4],(rg [(so 3 (.box 57 (.t 1))),(b6 4 0)] (.seq (rg [(se 5 0 3),(sb 6 5),(se 7 1 3),(sb 8 7),(so 9 (.bsl 3 2 (zs 2) [(0,1,(.t 6)),(1,1,(.t 8))])),(b3 10 45 [9]),(sa 11 10),⟨(some 12),.fa 2 (.t 3),(some (11,false))⟩,⟨(some 13),.ld (.t 12),(some (11,false))⟩,⟨(some 14),.call 86 [(.t 13),(ki 1),(ki 20000)],(some (11,false))⟩,(so 15 (.pick (.t 11) (.k (.bool true)) (.t 14))),(sa 16 15),⟨(some 17),.fa 3 (.t 3),(some (16,false))⟩,⟨(some 18),.ld (.t 17),(some (16,false))⟩,⟨(some 19),.fa 4 (.t 3),(some (16,false))⟩,⟨(some 20),.ld (.t 19),(some (16,false))⟩,⟨(some 21),.bin .sub (.t 20) (ki 1),(some (16,false))⟩,⟨(some 22),.call 86 [(.t 18),(ki 0),(.t 21)],(some (16,false))⟩,(so 23 (.pick (.t 16) (.k (.bool true)) (.t 22))),(sa 24 23),⟨(some 25),.fa 4 (.t 3),(some (24,false))⟩,⟨(some 26),.ld (.t 25),(some (24,false))⟩,⟨(some 27),.call 86 [(.t 26),(ki 1),(ki 1000)],(some (24,false))⟩,(so 28 (.pick (.t 24) (.k (.bool true)) (.t 27)))] (.cond (.t 28) (rg [(b6 4 7)] .ret) .skip)) (rg [(b6 4 0)] .ret)))⟩
def s66 : aw := ⟨27,[.tmp 4,.tmp 5],(rg [(b6 4 0),(b6 5 0)] (.seq (rg [(sa 9 0),(b4 10 9),(b6 11 0)] (.block 0 (.loop (rg [(b1 12 .lss 11 10)] (.seq (.cond (.t 12) .skip (.exit 0)) (.seq (.block 1 (rg [(sa 13 11),(b7 14 5 9 11),(sc 15 5 14),(so 7 (.new 123 [(.int .i64 0),(.int .i64 0),(.int .i64 0),(.int .i64 0),(.slice none 0 0)])),(sa 6 13),(b8 5 7 15)] (.seq (.draw [(ea 16 1),(ea 17 0),(ea 18 6),(eo 19 (.slS 5 (.t 17) none (some (.t 18)) none)),(ec 20 5 7),(eo 21 (.callv (.t 16) [(.t 19),(.t 20)])),(ea 8 21)]) (rg [(sa 22 8),(b2 23 .neq 22 0)] (.cond (.t 23) (rg [(sa 24 6),(sa 25 8),(sa 4 24),(sa 5 25)] .ret) .skip))))) (.reg [(b2 26 .add 11 1),(sa 11 26)]))))))) (rg [(b6 4 0),(b6 5 0)] .ret)))⟩
def s67 : aw := ⟨37,[.tmp 4],(rg [(so 3 (.box 123 (.t 1))),(b6 4 0)] (rg [(so 5 (.mov (.k (.fn (.func 118) [] []))))] (.seq (.block 0 (rg [(se 7 0 3),(so 8 (.iaA 2 1 (.t 7) (ki 0))),(sb 9 8),(se 10 0 3),(so 11 (.iaA 2 1 (.t 10) (ki 1))),(sb 12 11),(se 13 2 3),(so 14 (.iaA 2 1 (.t 13) (ki 0))),(sb 15 14),(se 16 2 3),(so 17 (.iaA 2 1 (.t 16) (ki 1))),(sb 18 17),(so 19 (.bsl 3 4 (zs 4) [(0,1,(.t 9)),(1,1,(.t 12)),(2,1,(.t 15)),(3,1,(.t 18))])),(b3 20 45 [19]),(sa 6 20)] (.cond (.t 6) (rg [(b6 4 7)] .ret) (rg [(se 22 0 3),(sc 23 2 22),(se 24 2 3),(sc 25 2 24),(so 26 (.eqa false 2 (.t 23) (.t 25))),(sa 21 26)] (.cond (.t 21) (rg [(b6 4 2)] .ret) (rg [(se 28 4 3),(sb 29 28),(b4 30 29),(b2 31 .gtr 30 6),(sa 27 31)] (.cond (.t 27) (rg [(b6 4 3)] .ret) (rg [(se 33 4 3),(sb 34 33),(sa 35 5),(b3 36 119 [34,35]),(sa 32 36)] (.cond (.t 32) (rg [(b6 4 7)] .ret) .skip))))))))) (rg [(b6 4 0)] .ret))))⟩
def s68 : aw := ⟨27,[.tmp 4,.tmp 5],(rg [(b6 4 0),(b6 5 0)] (.seq (rg [(sa 9 0),(b4 10 9),(b6 11 0)] (.block 0 (.loop (rg [(b1 12 .lss 11 10)] (.seq (.cond (.t 12) .skip (.exit 0)) (.seq (.block 1 (rg [(sa 13 11),(b7 14 6 9 11),(sc 15 6 14),(so 7 (.new 100 [(.str ⟨#[]⟩),(.int .i64 0),(.int .i64 0),(.int .i64 0),(.int .i64 0),(.int .i64 0)])),(sa 6 13),(b8 6 7 15)] (.seq (.draw [(ea 16 1),(ea 17 0),(ea 18 6),(eo 19 (.slS 6 (.t 17) none (some (.t 18)) none)),(ec 20 6 7),(eo 21 (.callv (.t 16) [(.t 19),(.t 20)])),(ea 8 21)]) (rg [(sa 22 8),(b2 23 .neq 22 0)] (.cond (.t 23) (rg [(sa 24 6),(sa 25 8),(sa 4 24),(sa 5 25)] .ret) .skip))))) (.reg [(b2 26 .add 11 1),(sa 11 26)]))))))) (rg [(b6 4 0),(b6 5 0)] .ret)))⟩
def s69 : aw := ⟨47,[.tmp 4],(rg [(so 3 (.box 100 (.t 1))),(b6 4 0)] (rg [(so 6 (.mkf (.func 120) [] [(.t 3)])),(sa 5 6)] (.seq (.block 0 (rg [(se 8 0 3),(sb 9 8),(b3 10 114 [9]),(b5 11 10),(sa 7 11)] (.cond (.t 7) (rg [(b6 4 6)] .ret) (rg [(sa 13 0),(sa 14 5),(b3 15 121 [13,14]),(sa 12 15)] (.cond (.t 12) (rg [(b6 4 5)] .ret) (rg [(se 17 1 3),(sb 18 17),(se 19 2 3),(sb 20 19),(so 21 (.bsl 3 2 (zs 2) [(0,1,(.t 18)),(1,1,(.t 20))])),(b3 22 45 [21]),(sa 23 22),⟨(some 24),.fa 3 (.t 3),(some (23,false))⟩,⟨(some 25),.ld (.t 24),(some (23,false))⟩,⟨(some 26),.call 86 [(.t 25),(ki 1),(ki 200)],(some (23,false))⟩,(so 27 (.pick (.t 23) (.k (.bool true)) (.t 26))),(sa 28 27),⟨(some 29),.fa 4 (.t 3),(some (28,false))⟩,⟨(some 30),.ld (.t 29),(some (28,false))⟩,⟨(some 31),.call 86 [(.t 30),(ki (-1000)),(ki 1000)],(some (28,false))⟩,(so 32 (.pick (.t 28) (.k (.bool true)) (.t 31))),(sa 33 32),⟨(some 34),.fa 5 (.t 3),(some (33,false))⟩,⟨(some 35),.ld (.t 34),(some (33,false))⟩,⟨(some 36),.call 86 [(.t 35),(ki (-1000)),(ki 1000)],(some (33,false))⟩,(so 37 (.pick (.t 33) (.k (.bool true)) (.t 36))),(sa 16 37)] (.cond (.t 16) (rg [(b6 4 7)] .ret) (rg [(se 39 4 3),(sb 40 39),(b2 41 .eql 40 0),(sa 42 41),⟨(some 43),.fa 5 (.t 3),(some (42,true))⟩,⟨(some 44),.ld (.t 43),(some (42,true))⟩,⟨(some 45),.bin .eql (.t 44) (ki 0),(some (42,true))⟩,(so 46 (.pick (.t 42) (.t 45) (.k (.bool false)))),(sa 38 46)] (.cond (.t 38) (rg [(b6 4 2)] .ret) .skip))))))))) (rg [(b6 4 0)] .ret))))⟩
def s74 : aw := ⟨15,[.cell 6 none],(rg [(so 3 (.box 54 (.t 0))),(so 4 (.box 3 (.t 1))),(so 5 (.box 3 (.t 2))),(so 6 (.new 4 [(.bool false)]))] (.seq (rg [(sc 8 4 3),(b3 9 83 [8])] (.block 0 (.range (.t 9) [10] (.reg [(so 7 (.new 145 (zs 5))),(b8 5 7 10)]) (.block 1 (rg [(sc 11 5 7),(sb 12 4),(sb 13 5),(b3 14 123 [11,12,13])] (.cond (.t 14) (rg [⟨none,.st 1 (.t 6) (.k (.bool true)),none⟩] .ret) .skip))) its))) (rg [⟨none,.st 1 (.t 6) (.k (.bool false)),none⟩] .ret)))⟩
def s78 : aw := ⟨15,[.tmp 4],(rg [(so 2 (.box 133 (.t 0))),(so 3 (.box 95 (.t 1))),(b6 4 0)] (.seq (.draw [(ee 5 2 2),(ec 6 2 5),(ee 7 0 2),(ec 8 2 7),(d3 9 84 [6,8]),(ec 10 2 3),(ee 11 0 2),(ec 12 2 11),(d3 13 84 [10,12]),(d3 14 127 [9,13]),(ea 4 14)]) .ret))⟩
def s80 : aw := ⟨37,[.tmp 5,.tmp 6],(rg [(b6 5 0),(b6 6 0)] (.seq (.draw [(ea 9 0),(eo 10 (.bin .mul (ki 1000) (.t 9))),(ea 11 1),(ea 12 0),(d1 13 .sub 11 12),(ee 14 0 2),(eb 15 14),(d1 16 .mul 13 15),(d1 17 .add 10 16),(ea 18 0),(eo 19 (.bin .mul (ki 1000) (.t 18))),(ea 20 1),(ea 21 0),(d1 22 .sub 20 21),(ee 23 1 2),(eb 24 23),(d1 25 .mul 22 24),(d1 26 .add 19 25),(ea 7 17),(ea 8 26)]) (rg [(sa 27 7),(sa 28 8),(so 29 (.mm false (.t 27) [(.t 28)])),(so 30 (.call 81 [(.t 29),(ki 1000)])),(sa 31 7),(sa 32 8),(so 33 (.mm true (.t 31) [(.t 32)])),(so 34 (.un .neg (.t 33))),(so 35 (.call 81 [(.t 34),(ki 1000)])),(so 36 (.un .neg (.t 35))),(sa 5 30),(sa 6 36)] .ret)))⟩
def s81 : aw := ⟨17,[.tmp 4],(rg [(b6 4 0)] (.seq (rg [(sa 5 0),(b2 6 .lss 5 0)] (.cond (.t 6) (rg [(sa 7 1),(b2 8 .sub 7 1),(sa 9 0),(b1 10 .sub 8 9),(sa 11 1),(b1 12 .quo 10 11),(so 13 (.un .neg (.t 12))),(sa 4 13)] .ret) .skip)) (rg [(sa 14 0),(sa 15 1),(b1 16 .quo 14 15),(sa 4 16)] .ret)))⟩
def s83 : aw := ⟨4,[.tmp 2],(rg [(so 1 (.box 54 (.t 0))),(so 2 (.mov (.k (.raw .nilFunc))))] (rg [(so 3 (.mkf (.func 128) [] [(.t 1)])),(sa 2 3)] .ret))⟩
def s84 : aw := ⟨16,[.cell 4 (some 2)],(rg [(so 2 (.box 95 (.t 0))),(so 3 (.box 95 (.t 1))),(so 4 (.new 95 (zs 2)))] (rg [(se 5 0 2),(sb 6 5),(se 7 0 3),(sb 8 7),(b1 9 .sub 6 8),(se 10 1 2),(sb 11 10),(se 12 1 3),(sb 13 12),(b1 14 .sub 11 13),(so 15 (.agg (zs 2) [(0,1,(.t 9)),(1,1,(.t 14))])),(b8 2 4 15)] .ret))⟩
def s85 : aw := ⟨16,[.tmp 4],(rg [(so 2 (.box 95 (.t 0))),(so 3 (.box 95 (.t 1))),(b6 4 0)] (rg [(se 5 0 2),(sb 6 5),(se 7 0 3),(sb 8 7),(b1 9 .mul 6 8),(se 10 1 2),(sb 11 10),(se 12 1 3),(sb 13 12),(b1 14 .mul 11 13),(b1 15 .add 9 14),(sa 4 15)] .ret))⟩
def s86 : aw := ⟨15,[.tmp 6],(rg [(so 6 (.mov (.k (.bool false))))] (rg [(sa 7 0),(sa 8 1),(b1 9 .lss 7 8),(sa 10 9),⟨(some 11),.mov (.t 0),(some (10,false))⟩,⟨(some 12),.mov (.t 2),(some (10,false))⟩,⟨(some 13),.bin .gtr (.t 11) (.t 12),(some (10,false))⟩,(so 14 (.pick (.t 10) (.k (.bool true)) (.t 13))),(sa 6 14)] .ret))⟩
def s89 : aw := ⟨15,[.tmp 3],(rg [(so 2 (.box 54 (.t 0))),(so 3 (.mov (.k (.bool false))))] (rg [(se 4 1 2),(sb 5 4),(b2 6 .neq 5 1),(sa 7 6),⟨(some 8),.lds 4 (.t 2),(some (7,true))⟩,⟨(some 9),.fa 1 (.t 1),(some (7,true))⟩,⟨(some 10),.ld (.t 9),(some (7,true))⟩,⟨(some 11),.fa 2 (.t 1),(some (7,true))⟩,⟨(some 12),.ld (.t 11),(some (7,true))⟩,⟨(some 13),.call 74 [(.t 8),(.t 10),(.t 12)],(some (7,true))⟩,(so 14 (.pick (.t 7) (.t 13) (.k (.bool false)))),(sa 3 14)] .ret))⟩
def s90 : aw := ⟨9,[.tmp 4],(rg [(so 4 (.mov (.k (.bool false))))] (rg [(sa 5 0),(sa 6 1),(b3 7 129 [5,6]),(b2 8 .geq 7 0),(sa 4 8)] .ret))⟩
def s94 : aw := ⟨14,[],(rg [(sa 5 0),(b4 6 5),(sa 4 6)] (.reg [(sa 7 0),(sa 8 4),(sa 9 4),(so 10 (.conv .u64 (.t 9))),(b3 11 131 [10]),(sa 12 1),(so 13 (.call 130 [(.t 7),(ki 0),(.t 8),(.t 11),(.t 12)]))]))⟩
def s99 : aw := ⟨9,[.tmp 4],(rg [(so 4 (.mov (.k (.bool false))))] (rg [(sa 5 0),(sa 6 1),(b3 7 133 [5,6]),(b2 8 .geq 7 0),(sa 4 8)] .ret))⟩
def GC : aw := ⟨5,[.tmp 2],(rg [(so 2 (.mov (.k (.bool false))))] (rg [(sa 3 0),(so 4 (.call 86 [(.t 3),(ki (-100000)),(ki 100000)])),(sa 2 4)] .ret))⟩
def G0 : aw := ⟨14,[.cell 4 (some 2)],(rg [(so 2 (.box 95 (.t 0))),(so 4 (.new 95 (zs 2)))] (rg [(sa 5 1),(se 6 0 2),(sb 7 6),(b1 8 .mul 5 7),(sa 9 1),(se 10 1 2),(sb 11 10),(b1 12 .mul 9 11),(so 13 (.agg (zs 2) [(0,1,(.t 8)),(1,1,(.t 12))])),(b8 2 4 13)] .ret))⟩
def Hb : aw := ⟨35,[.cell 6 (some 2)],(rg [(so 3 (.box 97 (.t 0))),(so 4 (.box 95 (.t 1))),(so 6 (.new 95 (zs 2)))] (rg [(sc 8 2 4),(se 9 0 3),(sc 10 2 9),(b3 11 84 [8,10]),(so 7 (.new 95 (zs 2))),(b8 2 7 11)] (rg [(se 12 2 3),(sb 13 12),(se 14 0 3),(se 15 0 14),(sb 16 15),(b1 17 .mul 13 16),(sa 18 2),(se 19 0 7),(sb 20 19),(b1 21 .mul 18 20),(b1 22 .add 17 21),(se 23 2 3),(sb 24 23),(se 25 0 3),(se 26 1 25),(sb 27 26),(b1 28 .mul 24 27),(sa 29 2),(se 30 1 7),(sb 31 30),(b1 32 .mul 29 31),(b1 33 .add 28 32),(so 34 (.agg (zs 2) [(0,1,(.t 22)),(1,1,(.t 33))])),(b8 2 6 34)] .ret)))⟩
def HD : aw := ⟨69,[.tmp 6],(rg [(so 3 (.box 133 (.t 0))),(so 4 (.box 95 (.t 1))),(so 6 (.mov (.k (.bool false))))] (.seq (.draw [⟨(se 13 2 3),none,[9,10],[]⟩,⟨(sc 14 2 13),none,[9,10],[]⟩,⟨(se 15 0 3),none,[9,10],[]⟩,⟨(sc 16 2 15),none,[9,10],[]⟩,⟨(b3 17 84 [14,16]),none,[9,10],[]⟩,⟨(sc 18 2 4),none,[9,10],[]⟩,⟨(se 19 0 3),none,[9,10],[]⟩,⟨(sc 20 2 19),none,[9,10],[]⟩,⟨(b3 21 84 [18,20]),none,[9,10],[]⟩,⟨(so 7 (.new 95 (zs 2))),(some 0),[10],[.fresh 0]⟩,⟨(so 8 (.new 95 (zs 2))),(some 1),[9],[.fresh 1]⟩,⟨(b8 2 7 17),none,[],[.fresh 0]⟩,⟨(b8 2 8 21),none,[],[.fresh 1]⟩]) (.seq (.draw [(ec 22 2 8),(ec 23 2 7),(d3 24 85 [22,23]),(ec 25 2 7),(ec 26 2 7),(d3 27 85 [25,26]),(ea 9 24),(ea 10 27)]) (.block 0 (rg [(sa 45 9),(b2 46 .leq 45 0),(sa 44 46)] (.cond (.t 44) (rg [(sc 47 2 8),(sc 48 2 8),(b3 49 85 [47,48]),(sa 50 2),(sa 51 2),(b1 52 .mul 50 51),(b1 53 .leq 49 52),(sa 6 53)] .ret) (rg [(sa 55 9),(sa 56 10),(b1 57 .geq 55 56),(sa 54 57)] (.cond (.t 54) (rg [(sc 58 2 4),(se 59 2 3),(sc 60 2 59),(b3 61 84 [58,60]),(so 11 (.new 95 (zs 2))),(b8 2 11 61)] (rg [(sc 62 2 11),(sc 63 2 11),(b3 64 85 [62,63]),(sa 65 2),(sa 66 2),(b1 67 .mul 65 66),(b1 68 .leq 64 67),(sa 6 68)] .ret)) (rg [(sc 28 2 7),(sc 29 2 8),(b3 30 127 [28,29]),(sa 12 30)] (rg [(sa 31 12),(sa 32 12),(so 33 (.un .neg (.t 32))),(so 34 (.mm true (.t 31) [(.t 33)])),(sa 12 34)] (rg [(sa 35 12),(sa 36 12),(b3 37 134 [35,36]),(sa 38 2),(sa 39 2),(b1 40 .mul 38 39),(sa 41 10),(b3 42 134 [40,41]),(b3 43 135 [37,42]),(sa 6 43)] .ret)))))))))))⟩
def HF : aw := ⟨19,[.tmp 4],(rg [(b6 4 0)] (.seq (rg [(sa 6 0),(b4 7 6),(b6 8 0)] (.block 0 (.loop (rg [(b1 9 .lss 8 7)] (.seq (.cond (.t 9) .skip (.exit 0)) (.seq (.block 1 (rg [(sa 10 8),(sa 5 10)] (rg [(sa 11 1),(sa 12 0),(sa 13 5),(b7 14 2 12 13),(sc 15 2 14),(so 16 (.callv (.t 11) [(.t 15)]))] (.cond (.t 16) (rg [(sa 17 5),(sa 4 17)] .ret) .skip)))) (.reg [(b2 18 .add 8 1),(sa 8 18)]))))))) (rg [(b6 4 (-1))] .ret)))⟩
def Fb : aw := ⟨23,[.tmp 2],(rg [(so 2 (.mov (.k (.slice none 0 0))))] (rg [(sa 5 0),(so 6 (.call 139 [(.t 5),(.k (.fn (.func 140) [] []))]))] (rg [(sa 7 0),(b3 8 141 [7]),(sa 0 8)] (.seq (rg [(sa 9 0),(b4 10 9),(b2 11 .lss 10 3)] (.cond (.t 11) (rg [(sa 12 0),(sa 2 12)] .ret) .skip)) (rg [(so 3 (.new 111 [(.slice none 0 0)]))] (rg [(so 13 (.mkf (.func 142) [] [(.t 3)])),(sa 4 13)] (rg [(sa 14 4),(sa 15 0),(so 16 (.callv (.t 14) [(.t 15)]))] (rg [(sa 17 0),(b3 18 143 [17])] (rg [(sa 19 4),(sa 20 0),(so 21 (.callv (.t 19) [(.t 20)]))] (rg [(sb 22 3),(sa 2 22)] .ret))))))))))⟩
def Hd : aw := ⟨81,[.tmp 4],(rg [(so 2 (.box 145 (.t 0))),(so 3 (.box 29 (.t 1))),(b6 4 0)] (rg [(b6 5 0)] (.seq (rg [(sc 11 4 3),(b3 12 54 [11]),(b6 13 0)] (.block 0 (.loop (rg [(b2 14 .lss 13 4)] (.seq (.cond (.t 14) .skip (.exit 0)) (.seq (.block 1 (rg [(so 15 (.ixA 4 2 (some 2) (.t 12) (.t 13))),(so 7 (.new 95 (zs 2))),(b8 2 7 15)] (rg [(sc 16 5 2),(se 17 0 7),(sb 18 17),(se 19 1 7),(sb 20 19),(b3 21 123 [16,18,20])] (.cond (.t 21) (.reg [(sa 22 5),(b2 23 .add 22 1),(sa 5 23)]) .skip)))) (.reg [(b2 24 .add 13 1),(sa 13 24)]))))))) (.seq (.block 2 (rg [(sa 26 5),(b2 27 .eql 26 4),(sa 25 27)] (.cond (.t 25) (rg [(b6 4 2)] .ret) (rg [(sa 29 5),(b2 30 .gtr 29 0),(sa 28 30)] (.cond (.t 28) (rg [(b6 4 1)] .ret) .skip))))) (.seq (rg [(se 31 0 2),(se 32 0 31),(sc 33 2 32),(se 34 0 2),(se 35 2 34),(sc 36 2 35),(so 37 (.agg (zs 4) [(0,2,(.t 33)),(2,2,(.t 36))])),(b6 38 0)] (.block 3 (.loop (rg [(b2 39 .lss 38 2)] (.seq (.cond (.t 39) .skip (.exit 3)) (.seq (.block 4 (rg [(so 40 (.ixA 2 2 (some 2) (.t 37) (.t 38))),(so 9 (.new 95 (zs 2))),(b8 2 9 40)] (rg [(se 41 0 3),(sb 42 41),(so 43 (.bin .mul (ki 2) (.t 42))),(se 44 0 9),(sb 45 44),(b1 46 .sub 43 45),(se 47 0 9),(sb 48 47),(se 49 2 3),(sb 50 49),(so 51 (.bin .mul (ki 2) (.t 50))),(b1 52 .sub 48 51),(so 53 (.mm true (.t 46) [(ki 0),(.t 52)])),(se 54 1 3),(sb 55 54),(so 56 (.bin .mul (ki 2) (.t 55))),(se 57 1 9),(sb 58 57),(b1 59 .sub 56 58),(se 60 1 9),(sb 61 60),(se 62 3 3),(sb 63 62),(so 64 (.bin .mul (ki 2) (.t 63))),(b1 65 .sub 61 64),(so 66 (.mm true (.t 59) [(ki 0),(.t 65)])),(so 67 (.agg (zs 2) [(0,1,(.t 53)),(1,1,(.t 66))])),(so 10 (.new 95 (zs 2))),(b8 2 10 67)] (.seq (.draw [(ec 68 2 10),(ec 69 2 10),(d3 70 85 [68,69]),(ee 71 4 2),(eb 72 71),(ee 73 4 2),(eb 74 73),(d1 75 .mul 72 74),(d1 76 .leq 70 75)]) (.cond (.t 76) (rg [(b6 4 1)] .ret) .skip))))) (.reg [(b2 77 .add 38 1),(sa 38 77)]))))))) (.seq (rg [(sc 78 5 2),(sc 79 4 3),(b3 80 145 [78,79])] (.cond (.t 80) (rg [(b6 4 1)] .ret) .skip)) (rg [(b6 4 0)] .ret)))))))⟩
def H7 : aw := ⟨9,[.tmp 3],(rg [(so 2 (.box 54 (.t 0))),(so 3 (.mov (.k (.bool false))))] (rg [(se 4 0 2),(sb 5 4),(se 6 0 1),(sb 7 6),(b1 8 .eql 5 7),(sa 3 8)] .ret))⟩
def GG : aw := ⟨9,[.tmp 2],(rg [(so 1 (.box 72 (.t 0))),(so 2 (.mov (.k (.bool false))))] (rg [(so 3 (.iaA 2 1 (.t 1) (ki 0))),(sb 4 3),(so 5 (.iaA 2 1 (.t 1) (ki 1))),(sb 6 5),(so 7 (.bsl 3 2 (zs 2) [(0,1,(.t 4)),(1,1,(.t 6))])),(b3 8 45 [7]),(sa 2 8)] .ret))⟩
def Hc : aw := ⟨27,[.tmp 2],(rg [(so 2 (.mov (.k (.bool false))))] (rg [(sa 4 0),(so 5 (.call 146 [(.t 4),(.k (.str ⟨#[97,98,99,100,101,102,103,104,105,106,107,108,109,110,111,112,113,114,115,116,117,118,119,120,121,122,48,49,50,51,52,53,54,55,56,57,45]⟩))])),(sa 3 5)] (rg [(sa 6 0),(so 7 (.bin .neq (.t 6) (.k (.str ⟨#[]⟩)))),(sa 8 7),⟨(some 9),.mov (.t 0),(some (8,true))⟩,⟨(some 10),.lenT (.t 9),(some (8,true))⟩,⟨(some 11),.bin .leq (.t 10) (ki 24),(some (8,true))⟩,(so 12 (.pick (.t 8) (.t 11) (.k (.bool false)))),(sa 13 12),⟨(some 14),.mov (.t 3),(some (13,true))⟩,⟨(some 15),.bin .eql (.t 14) (.k (.str ⟨#[]⟩)),(some (13,true))⟩,(so 16 (.pick (.t 13) (.t 15) (.k (.bool false)))),(sa 17 16),⟨(some 18),.mov (.t 0),(some (17,true))⟩,⟨(some 19),.ixS (.t 18) (ki 0),(some (17,true))⟩,⟨(some 20),.bin .geq (.t 19) (.k (.int .u8 97)),(some (17,true))⟩,(so 21 (.pick (.t 17) (.t 20) (.k (.bool false)))),(sa 22 21),⟨(some 23),.mov (.t 0),(some (22,true))⟩,⟨(some 24),.ixS (.t 23) (ki 0),(some (22,true))⟩,⟨(some 25),.bin .leq (.t 24) (.k (.int .u8 122)),(some (22,true))⟩,(so 26 (.pick (.t 22) (.t 25) (.k (.bool false)))),(sa 2 26)] .ret)))⟩
def Gt : aw := ⟨9,[.tmp 4],(rg [(so 4 (.mov (.k (.bool false))))] (rg [(sa 5 0),(sa 6 1),(b3 7 147 [5,6]),(b2 8 .geq 7 0),(sa 4 8)] .ret))⟩
def zq : aw := ⟨61,[.tmp 2],(rg [(so 2 (.mov (.k (.slice none 0 0))))] (.seq (rg [(sa 6 0),(b4 7 6),(b2 8 .lss 7 2)] (.cond (.t 8) (rg [(sa 9 0),(sa 2 9)] .ret) .skip)) (.seq (rg [(b6 3 1)] (.block 0 (.loop (.seq (rg [(sa 10 3),(sa 11 0),(b4 12 11),(b1 13 .lss 10 12)] (.cond (.t 13) .skip (.exit 0))) (.seq (.block 1 (.seq (.draw [(ea 16 0),(ea 17 3),(d7 18 2 16 17),(ec 19 2 18),(ea 20 0),(ea 21 3),(d2 22 .sub 21 1),(d7 23 2 20 22),(ec 24 2 23),(eo 25 (.eqa false 2 (.t 19) (.t 24)))]) (.cond (.t 25) (rg [(sa 26 0),(sa 27 3),(so 28 (.slS 2 (.t 26) (some (.t 27)) none none)),(sa 4 28)] (.seq (rg [(b6 5 1)] (.block 2 (.loop (.seq (rg [(sa 29 5),(sa 30 4),(b4 31 30),(b1 32 .lss 29 31)] (.cond (.t 32) .skip (.exit 2))) (.seq (.block 3 (.seq (.draw [(ea 35 4),(ea 36 5),(d7 37 2 35 36),(ec 38 2 37),(ea 39 4),(ea 40 5),(d2 41 .sub 40 1),(d7 42 2 39 41),(ec 43 2 42),(eo 44 (.eqa true 2 (.t 38) (.t 43)))]) (.cond (.t 44) (rg [(sa 45 0),(sa 46 3),(sa 47 4),(sa 48 5),(b7 49 2 47 48),(sc 50 2 49),(b7 51 2 45 46),(b8 2 51 50)] (.reg [(sa 52 3),(b2 53 .add 52 1),(sa 3 53)])) .skip))) (.reg [(sa 33 5),(b2 34 .add 33 1),(sa 5 34)])))))) (rg [(sa 54 0),(sa 55 3),(so 56 (.slS 2 (.t 54) (some (.t 55)) none none)),⟨none,.clr 2 (zs 2) (.t 56),none⟩] (rg [(sa 57 0),(sa 58 3),(so 59 (.slS 2 (.t 57) none (some (.t 58)) none)),(sa 2 59)] .ret)))) .skip))) (.reg [(sa 14 3),(b2 15 .add 14 1),(sa 3 15)])))))) (rg [(sa 60 0),(sa 2 60)] .ret))))⟩
def zb : aw := ⟨8,[.tmp 2],(rg [(so 2 (.mov (.k (.slice none 0 0))))] (.seq (rg [(sa 3 0),(so 4 (.isn false (.t 3)))] (.cond (.t 4) (rg [(so 2 (.mov (.k (.slice none 0 0))))] .ret) .skip)) (rg [(so 5 (.bsl 72 0 [] [])),(sa 6 0),(so 7 (.app 72 2 16 (zs 2) (.t 5) (.t 6))),(sa 2 7)] .ret)))⟩
def GE : aw := ⟨27,[.tmp 2],(rg [(so 1 (.box 137 (.t 0))),(so 2 (.mov (.k (.bool false))))] (rg [(se 3 1 1),(sb 4 3),(so 5 (.call 86 [(.t 4),(ki 1),(ki 1000)])),(sa 6 5),⟨(some 7),.fa 0 (.t 1),(some (6,false))⟩,⟨(some 8),.ld (.t 7),(some (6,false))⟩,⟨(some 9),.fa 1 (.t 1),(some (6,false))⟩,⟨(some 10),.ld (.t 9),(some (6,false))⟩,⟨(some 11),.bin .sub (.t 10) (ki 1),(some (6,false))⟩,⟨(some 12),.call 86 [(.t 8),(ki 0),(.t 11)],(some (6,false))⟩,(so 13 (.pick (.t 6) (.k (.bool true)) (.t 12))),(sa 14 13),⟨(some 15),.fa 3 (.t 1),(some (14,false))⟩,⟨(some 16),.ld (.t 15),(some (14,false))⟩,⟨(some 17),.call 86 [(.t 16),(ki 1),(ki 1000)],(some (14,false))⟩,(so 18 (.pick (.t 14) (.k (.bool true)) (.t 17))),(sa 19 18),⟨(some 20),.fa 2 (.t 1),(some (19,false))⟩,⟨(some 21),.ld (.t 20),(some (19,false))⟩,⟨(some 22),.fa 3 (.t 1),(some (19,false))⟩,⟨(some 23),.ld (.t 22),(some (19,false))⟩,⟨(some 24),.bin .sub (.t 23) (ki 1),(some (19,false))⟩,⟨(some 25),.call 86 [(.t 21),(ki 0),(.t 24)],(some (19,false))⟩,(so 26 (.pick (.t 19) (.k (.bool true)) (.t 25))),(sa 2 26)] .ret))⟩
def G8 : aw := ⟨9,[.tmp 4],(rg [(so 4 (.mov (.k (.bool false))))] (rg [(sa 5 0),(sa 6 1),(b3 7 148 [5,6]),(b2 8 .geq 7 0),(sa 4 8)] .ret))⟩
def GA : aw := ⟨9,[.tmp 3],(rg [(so 2 (.box 100 (.t 0))),(so 3 (.mov (.k (.bool false))))] (rg [(se 4 0 2),(sb 5 4),(se 6 0 1),(sb 7 6),(b1 8 .eql 5 7),(sa 3 8)] .ret))⟩
def Ie : aw := ⟨9,[.tmp 4],(rg [(so 4 (.mov (.k (.bool false))))] (rg [(sa 5 0),(sa 6 1),(b3 7 149 [5,6]),(b2 8 .geq 7 0),(sa 4 8)] .ret))⟩
def Hj : aw := ⟨17,[.tmp 6],(rg [(so 3 (.box 145 (.t 0))),(so 6 (.mov (.k (.bool false))))] (rg [(se 7 0 3),(sc 8 4 7),(sa 9 1),(so 10 (.bin .mul (ki 2) (.t 9))),(sa 11 2),(so 12 (.bin .mul (ki 2) (.t 11))),(so 13 (.agg (zs 2) [(0,1,(.t 10)),(1,1,(.t 12))])),(se 14 4 3),(sb 15 14),(b3 16 103 [8,13,15]),(sa 6 16)] .ret))⟩
def Hl : aw := ⟨16,[.tmp 4],(rg [(so 2 (.box 95 (.t 0))),(so 3 (.box 95 (.t 1))),(b6 4 0)] (rg [(se 5 0 2),(sb 6 5),(se 7 1 3),(sb 8 7),(b1 9 .mul 6 8),(se 10 1 2),(sb 11 10),(se 12 0 3),(sb 13 12),(b1 14 .mul 11 13),(b1 15 .sub 9 14),(sa 4 15)] .ret))⟩
def Fg : aw := ⟨19,[.tmp 4],(rg [(b6 4 0)] (.seq (rg [(sa 6 0),(b4 7 6),(b6 8 0)] (.block 0 (.loop (rg [(b1 9 .lss 8 7)] (.seq (.cond (.t 9) .skip (.exit 0)) (.seq (.block 1 (rg [(sa 10 8),(sa 5 10)] (rg [(sa 11 1),(sa 12 0),(sa 13 5),(b7 14 4 12 13),(sc 15 4 14),(so 16 (.callv (.t 11) [(.t 15)]))] (.cond (.t 16) (rg [(sa 17 5),(sa 4 17)] .ret) .skip)))) (.reg [(b2 18 .add 8 1),(sa 8 18)]))))))) (rg [(b6 4 (-1))] .ret)))⟩
def G3 : aw := ⟨148,[],(rg [(so 10 (.mov (.k (.bool true))))] (rg [(so 11 (.mov (.k (.bool true))))] (.block 0 (.loop (.block 1 (rg [(sa 21 2),(sa 22 1),(b1 23 .sub 21 22),(sa 12 23)] (.seq (rg [(sa 24 12),(b2 25 .leq 24 12)] (.cond (.t 25) (rg [(sa 26 0),(sa 27 1),(sa 28 2),(sa 29 4),(b3 30 152 [26,27,28,29])] .ret) .skip)) (.seq (rg [(sa 31 3),(b2 32 .eql 31 0)] (.cond (.t 32) (rg [(sa 33 0),(sa 34 1),(sa 35 2),(sa 36 4),(b3 37 153 [33,34,35,36])] .ret) .skip)) (.seq (rg [(sa 38 10),(b5 39 38)] (.cond (.t 39) (rg [(sa 40 0),(sa 41 1),(sa 42 2),(sa 43 4),(b3 44 154 [40,41,42,43])] (.reg [(sa 45 3),(b2 46 .sub 45 1),(sa 3 46)])) .skip)) (rg [(sa 48 0),(sa 49 1),(sa 50 2),(sa 51 4),(b3 52 155 [48,49,50,51]),(sa 47 52),(so 53 (.ext (.t 47) 0)),(so 54 (.ext (.t 47) 1)),(sa 13 53),(sa 14 54)] (.seq (rg [(sa 55 14),(b2 56 .eql 55 2)] (.cond (.t 56) (rg [(sa 57 0),(sa 58 1),(sa 59 2),(sa 60 4),(b3 61 156 [57,58,59,60])] (rg [(sa 62 2),(b2 63 .sub 62 1),(sa 64 13),(sa 65 1),(b1 66 .sub 64 65),(b1 67 .sub 63 66),(sa 13 67)] (.reg [(b6 14 1)]))) .skip)) (.seq (rg [(sa 68 10),(sa 69 68),⟨(some 70),.mov (.t 11),(some (69,true))⟩,(so 71 (.pick (.t 69) (.t 70) (.k (.bool false)))),(sa 72 71),⟨(some 73),.mov (.t 14),(some (72,true))⟩,⟨(some 74),.bin .eql (.t 73) (ki 1),(some (72,true))⟩,(so 75 (.pick (.t 72) (.t 74) (.k (.bool false))))] (.cond (.t 75) (rg [(sa 76 0),(sa 77 1),(sa 78 2),(sa 79 4),(b3 80 157 [76,77,78,79])] (.cond (.t 80) .ret .skip)) .skip)) (.seq (.seq (.draw [(ea 81 1),(d2 82 .gtr 81 0),(ea 83 82),(dz ⟨(some 84),.mov (.t 4),(some (83,true))⟩),(dz ⟨(some 85),.mov (.t 0),(some (83,true))⟩),(dz ⟨(some 86),.mov (.t 1),(some (83,true))⟩),(dz ⟨(some 87),.bin .sub (.t 86) (ki 1),(some (83,true))⟩),(dz ⟨(some 88),.iaS 3 (.t 85) (.t 87),(some (83,true))⟩),(dz ⟨(some 89),.lds 3 (.t 88),(some (83,true))⟩),(dz ⟨(some 90),.mov (.t 0),(some (83,true))⟩),(dz ⟨(some 91),.mov (.t 13),(some (83,true))⟩),(dz ⟨(some 92),.iaS 3 (.t 90) (.t 91),(some (83,true))⟩),(dz ⟨(some 93),.lds 3 (.t 92),(some (83,true))⟩),(dz ⟨(some 94),.callv (.t 84) [(.t 89),(.t 93)],(some (83,true))⟩),(dz ⟨(some 95),.bin .lss (.t 94) (ki 0),(some (83,true))⟩),(dz ⟨(some 96),.un .not (.t 95),(some (83,true))⟩),(eo 97 (.pick (.t 83) (.t 96) (.k (.bool false))))]) (.cond (.t 97) (rg [(sa 98 0),(sa 99 1),(sa 100 2),(sa 101 13),(sa 102 4),(b3 103 158 [98,99,100,101,102]),(sa 15 103)] (rg [(sa 104 15),(sa 1 104)] (.exit 1))) .skip)) (rg [(sa 106 0),(sa 107 1),(sa 108 2),(sa 109 13),(sa 110 4),(b3 111 159 [106,107,108,109,110]),(sa 105 111),(so 112 (.ext (.t 105) 0)),(so 113 (.ext (.t 105) 1)),(sa 16 112),(sa 17 113)] (rg [(sa 114 17),(sa 11 114)] (rg [(sa 115 16),(sa 116 1),(b1 117 .sub 115 116),(sa 118 2),(sa 119 16),(b1 120 .sub 118 119),(sa 18 117),(sa 19 120)] (rg [(sa 121 12),(b2 122 .quo 121 8),(sa 20 122)] (rg [(sa 123 18),(sa 124 19),(b1 125 .lss 123 124)] (.cond (.t 125) (rg [(sa 126 18),(sa 127 20),(b1 128 .geq 126 127),(sa 10 128)] (rg [(sa 129 0),(sa 130 1),(sa 131 16),(sa 132 3),(sa 133 4),(b3 134 130 [129,130,131,132,133])] (.reg [(sa 135 16),(b2 136 .add 135 1),(sa 1 136)]))) (rg [(sa 137 19),(sa 138 20),(b1 139 .geq 137 138),(sa 10 139)] (rg [(sa 140 0),(sa 141 16),(b2 142 .add 141 1),(sa 143 2),(sa 144 3),(sa 145 4),(b3 146 130 [140,142,143,144,145])] (.reg [(sa 147 16),(sa 2 147)]))))))))))))))))))))))⟩
def Bz : aw := ⟨8,[.tmp 2],(rg [(b6 2 0)] (.seq (.cond (.k (.bool false)) (rg [(sa 3 0),(so 4 (.conv .u32 (.t 3))),(b3 5 160 [4]),(sa 2 5)] .ret) .skip) (rg [(sa 6 0),(b3 7 161 [6]),(sa 2 7)] .ret)))⟩
def Gs : aw := ⟨19,[.tmp 4],(rg [(b6 4 0)] (.seq (rg [(sa 6 0),(b4 7 6),(b6 8 0)] (.block 0 (.loop (rg [(b1 9 .lss 8 7)] (.seq (.cond (.t 9) .skip (.exit 0)) (.seq (.block 1 (rg [(sa 10 8),(sa 5 10)] (rg [(sa 11 1),(sa 12 0),(sa 13 5),(b7 14 1 12 13),(sb 15 14),(so 16 (.callv (.t 11) [(.t 15)]))] (.cond (.t 16) (rg [(sa 17 5),(sa 4 17)] .ret) .skip)))) (.reg [(b2 18 .add 8 1),(sa 8 18)]))))))) (rg [(b6 4 (-1))] .ret)))⟩
def Ib : aw := ⟨18,[.cell 4 (some 2)],(rg [(so 4 (.new 192 [(.int .u64 0),(.int .u64 0)]))] (rg [(sa 8 0),(so 9 (.conv .u64 (.t 8))),(sa 10 1),(so 11 (.conv .u64 (.t 10))),(b3 12 162 [9,11]),(sa 7 12),(so 13 (.ext (.t 7) 0)),(so 14 (.ext (.t 7) 1)),(sa 5 13),(sa 6 14)] (rg [(sa 15 5),(sa 16 6),(so 17 (.agg [(.int .u64 0),(.int .u64 0)] [(0,1,(.t 15)),(1,1,(.t 16))])),(b8 2 4 17)] .ret)))⟩
def He : aw := ⟨29,[.tmp 4],(rg [(so 2 (.box 192 (.t 0))),(so 3 (.box 192 (.t 1))),(so 4 (.mov (.k (.bool false))))] (rg [(sc 5 2 2),(sc 6 2 3),(so 7 (.eqa false 2 (.t 5) (.t 6))),(sa 8 7),⟨(some 9),.fa 0 (.t 2),(some (8,false))⟩,⟨(some 10),.ld (.t 9),(some (8,false))⟩,⟨(some 11),.fa 0 (.t 3),(some (8,false))⟩,⟨(some 12),.ld (.t 11),(some (8,false))⟩,⟨(some 13),.bin .lss (.t 10) (.t 12),(some (8,false))⟩,(so 14 (.pick (.t 8) (.k (.bool true)) (.t 13))),(sa 15 14),⟨(some 16),.fa 0 (.t 2),(some (15,false))⟩,⟨(some 17),.ld (.t 16),(some (15,false))⟩,⟨(some 18),.fa 0 (.t 3),(some (15,false))⟩,⟨(some 19),.ld (.t 18),(some (15,false))⟩,⟨(some 20),.bin .eql (.t 17) (.t 19),(some (15,false))⟩,⟨(some 21),.mov (.t 20),(some (15,false))⟩,⟨(some 22),.fa 1 (.t 2),(some (21,true))⟩,⟨(some 23),.ld (.t 22),(some (21,true))⟩,⟨(some 24),.fa 1 (.t 3),(some (21,true))⟩,⟨(some 25),.ld (.t 24),(some (21,true))⟩,⟨(some 26),.bin .lss (.t 23) (.t 25),(some (21,true))⟩,⟨(some 27),.pick (.t 21) (.t 26) (.k (.bool false)),(some (15,false))⟩,(so 28 (.pick (.t 15) (.k (.bool true)) (.t 27))),(sa 4 28)] .ret))⟩
def Fr : aw := ⟨14,[],(rg [(sa 5 0),(b4 6 5),(sa 4 6)] (.reg [(sa 7 0),(sa 8 4),(sa 9 4),(so 10 (.conv .u64 (.t 9))),(b3 11 131 [10]),(sa 12 1),(so 13 (.call 163 [(.t 7),(ki 0),(.t 8),(.t 11),(.t 12)]))]))⟩
def Ih : aw := ⟨20,[.tmp 4],(rg [(so 2 (.box 95 (.t 0))),(so 3 (.box 95 (.t 1))),(b6 4 0)] (.seq (rg [(se 5 0 2),(sb 6 5),(se 7 0 3),(sb 8 7),(b1 9 .neq 6 8)] (.cond (.t 9) (rg [(se 10 0 2),(sb 11 10),(se 12 0 3),(sb 13 12),(b1 14 .sub 11 13),(sa 4 14)] .ret) .skip)) (rg [(se 15 1 2),(sb 16 15),(se 17 1 3),(sb 18 17),(b1 19 .sub 16 18),(sa 4 19)] .ret)))⟩
def Dy : aw := ⟨61,[.tmp 2],(rg [(so 2 (.mov (.k (.slice none 0 0))))] (.seq (rg [(sa 6 0),(b4 7 6),(b2 8 .lss 7 2)] (.cond (.t 8) (rg [(sa 9 0),(sa 2 9)] .ret) .skip)) (.seq (rg [(b6 3 1)] (.block 0 (.loop (.seq (rg [(sa 10 3),(sa 11 0),(b4 12 11),(b1 13 .lss 10 12)] (.cond (.t 13) .skip (.exit 0))) (.seq (.block 1 (.seq (.draw [(ea 16 0),(ea 17 3),(d7 18 2 16 17),(ec 19 2 18),(ea 20 0),(ea 21 3),(d2 22 .sub 21 1),(d7 23 2 20 22),(ec 24 2 23),(eo 25 (.eqa false 2 (.t 19) (.t 24)))]) (.cond (.t 25) (rg [(sa 26 0),(sa 27 3),(so 28 (.slS 2 (.t 26) (some (.t 27)) none none)),(sa 4 28)] (.seq (rg [(b6 5 1)] (.block 2 (.loop (.seq (rg [(sa 29 5),(sa 30 4),(b4 31 30),(b1 32 .lss 29 31)] (.cond (.t 32) .skip (.exit 2))) (.seq (.block 3 (.seq (.draw [(ea 35 4),(ea 36 5),(d7 37 2 35 36),(ec 38 2 37),(ea 39 4),(ea 40 5),(d2 41 .sub 40 1),(d7 42 2 39 41),(ec 43 2 42),(eo 44 (.eqa true 2 (.t 38) (.t 43)))]) (.cond (.t 44) (rg [(sa 45 0),(sa 46 3),(sa 47 4),(sa 48 5),(b7 49 2 47 48),(sc 50 2 49),(b7 51 2 45 46),(b8 2 51 50)] (.reg [(sa 52 3),(b2 53 .add 52 1),(sa 3 53)])) .skip))) (.reg [(sa 33 5),(b2 34 .add 33 1),(sa 5 34)])))))) (rg [(sa 54 0),(sa 55 3),(so 56 (.slS 2 (.t 54) (some (.t 55)) none none)),⟨none,.clr 2 (zs 2) (.t 56),none⟩] (rg [(sa 57 0),(sa 58 3),(so 59 (.slS 2 (.t 57) none (some (.t 58)) none)),(sa 2 59)] .ret)))) .skip))) (.reg [(sa 14 3),(b2 15 .add 14 1),(sa 3 15)])))))) (rg [(sa 60 0),(sa 2 60)] .ret))))⟩
def EG : aw := ⟨52,[],(rg [(sb 6 1),(b4 7 6),(sa 3 7)] (.seq (rg [(sa 8 0),(b4 9 8),(b6 10 0)] (.block 0 (.loop (rg [(b1 11 .lss 10 9)] (.seq (.cond (.t 11) .skip (.exit 0)) (.seq (.block 1 (rg [(b7 12 2 8 10),(sc 13 2 12),(so 5 (.new 95 (zs 2))),(b8 2 5 13)] (.seq (.block 2 (.loop (.seq (.seq (.draw [(eb 14 1),(d4 15 14),(ea 16 3),(d2 17 .add 16 1),(d1 18 .gtr 15 17),(ea 19 18),(dz ⟨(some 20),.ld (.t 1),(some (19,true))⟩),(dz ⟨(some 21),.ld (.t 1),(some (19,true))⟩),(dz ⟨(some 22),.len (.t 21),(some (19,true))⟩),(dz ⟨(some 23),.bin .sub (.t 22) (ki 2),(some (19,true))⟩),(dz ⟨(some 24),.iaS 2 (.t 20) (.t 23),(some (19,true))⟩),(dz ⟨(some 25),.lds 2 (.t 24),(some (19,true))⟩),(dz ⟨(some 26),.ld (.t 1),(some (19,true))⟩),(dz ⟨(some 27),.ld (.t 1),(some (19,true))⟩),(dz ⟨(some 28),.len (.t 27),(some (19,true))⟩),(dz ⟨(some 29),.bin .sub (.t 28) (ki 1),(some (19,true))⟩),(dz ⟨(some 30),.iaS 2 (.t 26) (.t 29),(some (19,true))⟩),(dz ⟨(some 31),.lds 2 (.t 30),(some (19,true))⟩),(dz ⟨(some 32),.agg (zs 4) [(0,2,(.t 25)),(2,2,(.t 31))],(some (19,true))⟩),(dz ⟨(some 33),.lds 2 (.t 5),(some (19,true))⟩),(dz ⟨(some 34),.call 78 [(.t 32),(.t 33)],(some (19,true))⟩),(dz ⟨(some 35),.bin .leq (.t 34) (ki 0),(some (19,true))⟩),(eo 36 (.pick (.t 19) (.t 35) (.k (.bool false))))]) (.cond (.t 36) .skip (.exit 2))) (.block 3 (.reg [(sb 37 1),(sb 38 1),(b4 39 38),(b2 40 .sub 39 1),(so 41 (.slS 2 (.t 37) none (some (.t 40)) none)),(b8 1 1 41)]))))) (.reg [(sb 42 1),(sc 43 2 5),(so 44 (.bsl 95 1 (zs 2) [(0,2,(.t 43))])),(so 45 (.app 95 2 16 (zs 2) (.t 42) (.t 44))),(b8 1 1 45)])))) (.reg [(b2 46 .add 10 1),(sa 10 46)]))))))) (.reg [(sb 47 1),(sb 48 1),(b4 49 48),(b2 50 .sub 49 1),(so 51 (.slS 2 (.t 47) none (some (.t 50)) none)),(b8 1 1 51)])))⟩
def Dm : aw := ⟨28,[],(rg [(sa 4 0),(b4 5 4),(b2 6 .sub 5 1),(b6 2 0),(sa 3 6)] (.block 0 (.loop (.seq (rg [(sa 7 2),(sa 8 3),(b1 9 .lss 7 8)] (.cond (.t 9) .skip (.exit 0))) (.seq (.block 1 (.draw [(ea 14 0),(ea 15 2),⟨(sa 16 0),none,[13],[]⟩,⟨(sa 17 3),none,[13],[]⟩,(ea 18 0),(ea 19 3),(d7 20 2 18 19),(ec 21 2 20),(ea 22 0),(ea 23 2),(d7 24 2 22 23),(ec 25 2 24),(d7 26 2 14 15),⟨(b8 2 26 21),none,[],[.slot 0]⟩,(d7 27 2 16 17),⟨(b8 2 27 25),none,[],[.slot 0]⟩])) (.reg [(sa 10 2),(b2 11 .add 10 1),(sa 12 3),(b2 13 .sub 12 1),(sa 2 11),(sa 3 13)]))))))⟩
def HQ : aw := ⟨93,[.tmp 4],(rg [(so 2 (.box 145 (.t 0))),(so 3 (.box 29 (.t 1))),(so 4 (.mov (.k (.bool false))))] (.seq (rg [(se 10 0 2),(se 11 0 10),(se 12 0 11),(sb 13 12),(se 14 0 2),(se 15 2 14),(se 16 0 15),(sb 17 16),(so 18 (.mm true (.t 13) [(.t 17)])),(se 19 0 3),(sb 20 19),(so 21 (.bin .mul (ki 2) (.t 20))),(b1 22 .lss 18 21),(sa 23 22),⟨(some 24),.fa 0 (.t 2),(some (23,false))⟩,⟨(some 25),.fa 0 (.t 24),(some (23,false))⟩,⟨(some 26),.fa 0 (.t 25),(some (23,false))⟩,⟨(some 27),.ld (.t 26),(some (23,false))⟩,⟨(some 28),.fa 0 (.t 2),(some (23,false))⟩,⟨(some 29),.fa 2 (.t 28),(some (23,false))⟩,⟨(some 30),.fa 0 (.t 29),(some (23,false))⟩,⟨(some 31),.ld (.t 30),(some (23,false))⟩,⟨(some 32),.mm false (.t 27) [(.t 31)],(some (23,false))⟩,⟨(some 33),.fa 2 (.t 3),(some (23,false))⟩,⟨(some 34),.ld (.t 33),(some (23,false))⟩,⟨(some 35),.bin .mul (ki 2) (.t 34),(some (23,false))⟩,⟨(some 36),.bin .gtr (.t 32) (.t 35),(some (23,false))⟩,(so 37 (.pick (.t 23) (.k (.bool true)) (.t 36))),(sa 38 37),⟨(some 39),.fa 0 (.t 2),(some (38,false))⟩,⟨(some 40),.fa 0 (.t 39),(some (38,false))⟩,⟨(some 41),.fa 1 (.t 40),(some (38,false))⟩,⟨(some 42),.ld (.t 41),(some (38,false))⟩,⟨(some 43),.fa 0 (.t 2),(some (38,false))⟩,⟨(some 44),.fa 2 (.t 43),(some (38,false))⟩,⟨(some 45),.fa 1 (.t 44),(some (38,false))⟩,⟨(some 46),.ld (.t 45),(some (38,false))⟩,⟨(some 47),.mm true (.t 42) [(.t 46)],(some (38,false))⟩,⟨(some 48),.fa 1 (.t 3),(some (38,false))⟩,⟨(some 49),.ld (.t 48),(some (38,false))⟩,⟨(some 50),.bin .mul (ki 2) (.t 49),(some (38,false))⟩,⟨(some 51),.bin .lss (.t 47) (.t 50),(some (38,false))⟩,(so 52 (.pick (.t 38) (.k (.bool true)) (.t 51))),(sa 53 52),⟨(some 54),.fa 0 (.t 2),(some (53,false))⟩,⟨(some 55),.fa 0 (.t 54),(some (53,false))⟩,⟨(some 56),.fa 1 (.t 55),(some (53,false))⟩,⟨(some 57),.ld (.t 56),(some (53,false))⟩,⟨(some 58),.fa 0 (.t 2),(some (53,false))⟩,⟨(some 59),.fa 2 (.t 58),(some (53,false))⟩,⟨(some 60),.fa 1 (.t 59),(some (53,false))⟩,⟨(some 61),.ld (.t 60),(some (53,false))⟩,⟨(some 62),.mm false (.t 57) [(.t 61)],(some (53,false))⟩,⟨(some 63),.fa 3 (.t 3),(some (53,false))⟩,⟨(some 64),.ld (.t 63),(some (53,false))⟩,⟨(some 65),.bin .mul (ki 2) (.t 64),(some (53,false))⟩,⟨(some 66),.bin .gtr (.t 62) (.t 65),(some (53,false))⟩,(so 67 (.pick (.t 53) (.k (.bool true)) (.t 66)))] (.cond (.t 67) (rg [(so 4 (.mov (.k (.bool false))))] .ret) .skip)) (rg [(so 5 (.mov (.k (.bool false)))),(so 6 (.mov (.k (.bool false))))] (.seq (rg [(sc 68 4 3),(b3 69 54 [68]),(b6 70 0)] (.block 0 (.loop (rg [(b2 71 .lss 70 4)] (.seq (.cond (.t 71) .skip (.exit 0)) (.seq (.block 1 (rg [(so 72 (.ixA 4 2 (some 2) (.t 69) (.t 70))),(so 8 (.new 95 (zs 2))),(b8 2 8 72)] (.seq (.draw [(ee 73 0 2),(ec 74 4 73),(ec 75 2 8),(eo 76 (.call 101 [(.t 75),(ki 2)])),(d3 77 78 [74,76]),(ea 9 77)]) (.reg [(sa 78 5),(sa 79 78),⟨(some 80),.mov (.t 9),(some (79,false))⟩,⟨(some 81),.bin .geq (.t 80) (ki 0),(some (79,false))⟩,(so 82 (.pick (.t 79) (.k (.bool true)) (.t 81))),(sa 83 6),(sa 84 83),⟨(some 85),.mov (.t 9),(some (84,false))⟩,⟨(some 86),.bin .leq (.t 85) (ki 0),(some (84,false))⟩,(so 87 (.pick (.t 84) (.k (.bool true)) (.t 86))),(sa 5 82),(sa 6 87)])))) (.reg [(b2 88 .add 70 1),(sa 70 88)]))))))) (rg [(sa 89 5),(sa 90 89),⟨(some 91),.mov (.t 6),(some (90,true))⟩,(so 92 (.pick (.t 90) (.t 91) (.k (.bool false)))),(sa 4 92)] .ret)))))⟩
def H6 : aw := ⟨19,[.tmp 4],(rg [(b6 4 0)] (.seq (rg [(sa 6 0),(b4 7 6),(b6 8 0)] (.block 0 (.loop (rg [(b1 9 .lss 8 7)] (.seq (.cond (.t 9) .skip (.exit 0)) (.seq (.block 1 (rg [(sa 10 8),(sa 5 10)] (rg [(sa 11 1),(sa 12 0),(sa 13 5),(b7 14 2 12 13),(sc 15 2 14),(so 16 (.callv (.t 11) [(.t 15)]))] (.cond (.t 16) (rg [(sa 17 5),(sa 4 17)] .ret) .skip)))) (.reg [(b2 18 .add 8 1),(sa 8 18)]))))))) (rg [(b6 4 (-1))] .ret)))⟩
def Gv : aw := ⟨19,[.tmp 4],(rg [(b6 4 0)] (.seq (rg [(sa 6 0),(b4 7 6),(b6 8 0)] (.block 0 (.loop (rg [(b1 9 .lss 8 7)] (.seq (.cond (.t 9) .skip (.exit 0)) (.seq (.block 1 (rg [(sa 10 8),(sa 5 10)] (rg [(sa 11 1),(sa 12 0),(sa 13 5),(b7 14 4 12 13),(sc 15 4 14),(so 16 (.callv (.t 11) [(.t 15)]))] (.cond (.t 16) (rg [(sa 17 5),(sa 4 17)] .ret) .skip)))) (.reg [(b2 18 .add 8 1),(sa 8 18)]))))))) (rg [(b6 4 (-1))] .ret)))⟩
def HT : aw := ⟨19,[.tmp 4],(rg [(b6 4 0)] (.seq (rg [(sa 6 0),(b4 7 6),(b6 8 0)] (.block 0 (.loop (rg [(b1 9 .lss 8 7)] (.seq (.cond (.t 9) .skip (.exit 0)) (.seq (.block 1 (rg [(sa 10 8),(sa 5 10)] (rg [(sa 11 1),(sa 12 0),(sa 13 5),(b7 14 6 12 13),(sc 15 6 14),(so 16 (.callv (.t 11) [(.t 15)]))] (.cond (.t 16) (rg [(sa 17 5),(sa 4 17)] .ret) .skip)))) (.reg [(b2 18 .add 8 1),(sa 8 18)]))))))) (rg [(b6 4 (-1))] .ret)))⟩
def Gm : aw := ⟨53,[],(rg [(sa 10 1),(b2 11 .add 10 1),(sa 8 11)] (.block 0 (.loop (.seq (rg [(sa 12 8),(sa 13 2),(b1 14 .lss 12 13)] (.cond (.t 14) .skip (.exit 0))) (.seq (.block 1 (rg [(sa 17 8),(sa 9 17)] (.block 2 (.loop (.seq (.seq (.draw [(ea 18 9),(ea 19 1),(d1 20 .gtr 18 19),(ea 21 20),(dz ⟨(some 22),.mov (.t 3),(some (21,true))⟩),(dz ⟨(some 23),.mov (.t 0),(some (21,true))⟩),(dz ⟨(some 24),.mov (.t 9),(some (21,true))⟩),(dz ⟨(some 25),.iaS 3 (.t 23) (.t 24),(some (21,true))⟩),(dz ⟨(some 26),.lds 3 (.t 25),(some (21,true))⟩),(dz ⟨(some 27),.mov (.t 0),(some (21,true))⟩),(dz ⟨(some 28),.mov (.t 9),(some (21,true))⟩),(dz ⟨(some 29),.bin .sub (.t 28) (ki 1),(some (21,true))⟩),(dz ⟨(some 30),.iaS 3 (.t 27) (.t 29),(some (21,true))⟩),(dz ⟨(some 31),.lds 3 (.t 30),(some (21,true))⟩),(dz ⟨(some 32),.callv (.t 22) [(.t 26),(.t 31)],(some (21,true))⟩),(dz ⟨(some 33),.bin .lss (.t 32) (ki 0),(some (21,true))⟩),(eo 34 (.pick (.t 21) (.t 33) (.k (.bool false))))]) (.cond (.t 34) .skip (.exit 2))) (.seq (.block 3 (.draw [(ea 37 0),(ea 38 9),⟨(sa 39 0),none,[15],[]⟩,⟨(sa 40 9),none,[15],[]⟩,⟨(b2 41 .sub 40 1),none,[15],[]⟩,(ea 42 0),(ea 43 9),(d2 44 .sub 43 1),(d7 45 3 42 44),(ec 46 3 45),(ea 47 0),(ea 48 9),(d7 49 3 47 48),(ec 50 3 49),(d7 51 3 37 38),⟨(b8 3 51 46),none,[],[.slot 0]⟩,(d7 52 3 39 41),⟨(b8 3 52 50),none,[],[.slot 0]⟩])) (.reg [(sa 35 9),(b2 36 .sub 35 1),(sa 9 36)]))))))) (.reg [(sa 15 8),(b2 16 .add 15 1),(sa 8 16)]))))))⟩
def A7 : aw := ⟨25,[.tmp 2],(rg [(b6 2 0)] (.seq (rg [(sa 3 0),(so 4 (.bin .geq (.t 3) (.k (.int .u64 4294967296))))] (.cond (.t 4) (rg [(sa 5 0),(so 6 (.bin .shr (.t 5) (.k (.int .u64 32)))),(sa 0 6)] (.reg [(b6 2 32)])) .skip)) (.seq (rg [(sa 7 0),(so 8 (.bin .geq (.t 7) (.k (.int .u64 65536))))] (.cond (.t 8) (rg [(sa 9 0),(so 10 (.bin .shr (.t 9) (.k (.int .u64 16)))),(sa 0 10)] (.reg [(sa 11 2),(b2 12 .add 11 16),(sa 2 12)])) .skip)) (.seq (rg [(sa 13 0),(so 14 (.bin .geq (.t 13) (.k (.int .u64 256))))] (.cond (.t 14) (rg [(sa 15 0),(so 16 (.bin .shr (.t 15) (.k (.int .u64 8)))),(sa 0 16)] (.reg [(sa 17 2),(b2 18 .add 17 8),(sa 2 18)])) .skip)) (rg [(sa 19 2),(sa 20 0),(so 21 (.conv .u8 (.t 20))),(so 22 (.ixS (.k (.str ⟨#[0,1,2,2,3,3,3,3,4,4,4,4,4,4,4,4,5,5,5,5,5,5,5,5,5,5,5,5,5,5,5,5,6,6,6,6,6,6,6,6,6,6,6,6,6,6,6,6,6,6,6,6,6,6,6,6,6,6,6,6,6,6,6,6,7,7,7,7,7,7,7,7,7,7,7,7,7,7,7,7,7,7,7,7,7,7,7,7,7,7,7,7,7,7,7,7,7,7,7,7,7,7,7,7,7,7,7,7,7,7,7,7,7,7,7,7,7,7,7,7,7,7,7,7,7,7,7,7,8,8,8,8,8,8,8,8,8,8,8,8,8,8,8,8,8,8,8,8,8,8,8,8,8,8,8,8,8,8,8,8,8,8,8,8,8,8,8,8,8,8,8,8,8,8,8,8,8,8,8,8,8,8,8,8,8,8,8,8,8,8,8,8,8,8,8,8,8,8,8,8,8,8,8,8,8,8,8,8,8,8,8,8,8,8,8,8,8,8,8,8,8,8,8,8,8,8,8,8,8,8,8,8,8,8,8,8,8,8,8,8,8,8,8,8,8,8,8,8,8,8,8,8,8,8,8,8]⟩)) (.t 21))),(so 23 (.conv .i64 (.t 22))),(b1 24 .add 19 23),(sa 2 24)] .ret)))))⟩
def HV : aw := ⟨51,[.tmp 4,.tmp 5],(rg [(so 4 (.mov (.k (.int .u64 0)))),(so 5 (.mov (.k (.int .u64 0))))] (rg [(sa 14 0),(so 15 (.bin .and (.t 14) (.k (.int .u64 4294967295)))),(sa 6 15)] (rg [(sa 16 0),(so 17 (.bin .shr (.t 16) (.k (.int .u64 32)))),(sa 7 17)] (rg [(sa 18 1),(so 19 (.bin .and (.t 18) (.k (.int .u64 4294967295)))),(sa 8 19)] (rg [(sa 20 1),(so 21 (.bin .shr (.t 20) (.k (.int .u64 32)))),(sa 9 21)] (rg [(sa 22 6),(sa 23 8),(b1 24 .mul 22 23),(sa 10 24)] (rg [(sa 25 7),(sa 26 8),(b1 27 .mul 25 26),(sa 28 10),(so 29 (.bin .shr (.t 28) (.k (.int .u64 32)))),(b1 30 .add 27 29),(sa 11 30)] (rg [(sa 31 11),(so 32 (.bin .and (.t 31) (.k (.int .u64 4294967295)))),(sa 12 32)] (rg [(sa 33 11),(so 34 (.bin .shr (.t 33) (.k (.int .u64 32)))),(sa 13 34)] (rg [(sa 35 12),(sa 36 6),(sa 37 9),(b1 38 .mul 36 37),(b1 39 .add 35 38),(sa 12 39)] (rg [(sa 40 7),(sa 41 9),(b1 42 .mul 40 41),(sa 43 13),(b1 44 .add 42 43),(sa 45 12),(so 46 (.bin .shr (.t 45) (.k (.int .u64 32)))),(b1 47 .add 44 46),(sa 4 47)] (rg [(sa 48 0),(sa 49 1),(b1 50 .mul 48 49),(sa 5 50)] .ret))))))))))))⟩
def EP : aw := ⟨148,[],(rg [(so 10 (.mov (.k (.bool true))))] (rg [(so 11 (.mov (.k (.bool true))))] (.block 0 (.loop (.block 1 (rg [(sa 21 2),(sa 22 1),(b1 23 .sub 21 22),(sa 12 23)] (.seq (rg [(sa 24 12),(b2 25 .leq 24 12)] (.cond (.t 25) (rg [(sa 26 0),(sa 27 1),(sa 28 2),(sa 29 4),(b3 30 177 [26,27,28,29])] .ret) .skip)) (.seq (rg [(sa 31 3),(b2 32 .eql 31 0)] (.cond (.t 32) (rg [(sa 33 0),(sa 34 1),(sa 35 2),(sa 36 4),(b3 37 178 [33,34,35,36])] .ret) .skip)) (.seq (rg [(sa 38 10),(b5 39 38)] (.cond (.t 39) (rg [(sa 40 0),(sa 41 1),(sa 42 2),(sa 43 4),(b3 44 179 [40,41,42,43])] (.reg [(sa 45 3),(b2 46 .sub 45 1),(sa 3 46)])) .skip)) (rg [(sa 48 0),(sa 49 1),(sa 50 2),(sa 51 4),(b3 52 180 [48,49,50,51]),(sa 47 52),(so 53 (.ext (.t 47) 0)),(so 54 (.ext (.t 47) 1)),(sa 13 53),(sa 14 54)] (.seq (rg [(sa 55 14),(b2 56 .eql 55 2)] (.cond (.t 56) (rg [(sa 57 0),(sa 58 1),(sa 59 2),(sa 60 4),(b3 61 181 [57,58,59,60])] (rg [(sa 62 2),(b2 63 .sub 62 1),(sa 64 13),(sa 65 1),(b1 66 .sub 64 65),(b1 67 .sub 63 66),(sa 13 67)] (.reg [(b6 14 1)]))) .skip)) (.seq (rg [(sa 68 10),(sa 69 68),⟨(some 70),.mov (.t 11),(some (69,true))⟩,(so 71 (.pick (.t 69) (.t 70) (.k (.bool false)))),(sa 72 71),⟨(some 73),.mov (.t 14),(some (72,true))⟩,⟨(some 74),.bin .eql (.t 73) (ki 1),(some (72,true))⟩,(so 75 (.pick (.t 72) (.t 74) (.k (.bool false))))] (.cond (.t 75) (rg [(sa 76 0),(sa 77 1),(sa 78 2),(sa 79 4),(b3 80 182 [76,77,78,79])] (.cond (.t 80) .ret .skip)) .skip)) (.seq (.seq (.draw [(ea 81 1),(d2 82 .gtr 81 0),(ea 83 82),(dz ⟨(some 84),.mov (.t 4),(some (83,true))⟩),(dz ⟨(some 85),.mov (.t 0),(some (83,true))⟩),(dz ⟨(some 86),.mov (.t 1),(some (83,true))⟩),(dz ⟨(some 87),.bin .sub (.t 86) (ki 1),(some (83,true))⟩),(dz ⟨(some 88),.iaS 2 (.t 85) (.t 87),(some (83,true))⟩),(dz ⟨(some 89),.lds 2 (.t 88),(some (83,true))⟩),(dz ⟨(some 90),.mov (.t 0),(some (83,true))⟩),(dz ⟨(some 91),.mov (.t 13),(some (83,true))⟩),(dz ⟨(some 92),.iaS 2 (.t 90) (.t 91),(some (83,true))⟩),(dz ⟨(some 93),.lds 2 (.t 92),(some (83,true))⟩),(dz ⟨(some 94),.callv (.t 84) [(.t 89),(.t 93)],(some (83,true))⟩),(dz ⟨(some 95),.bin .lss (.t 94) (ki 0),(some (83,true))⟩),(dz ⟨(some 96),.un .not (.t 95),(some (83,true))⟩),(eo 97 (.pick (.t 83) (.t 96) (.k (.bool false))))]) (.cond (.t 97) (rg [(sa 98 0),(sa 99 1),(sa 100 2),(sa 101 13),(sa 102 4),(b3 103 183 [98,99,100,101,102]),(sa 15 103)] (rg [(sa 104 15),(sa 1 104)] (.exit 1))) .skip)) (rg [(sa 106 0),(sa 107 1),(sa 108 2),(sa 109 13),(sa 110 4),(b3 111 184 [106,107,108,109,110]),(sa 105 111),(so 112 (.ext (.t 105) 0)),(so 113 (.ext (.t 105) 1)),(sa 16 112),(sa 17 113)] (rg [(sa 114 17),(sa 11 114)] (rg [(sa 115 16),(sa 116 1),(b1 117 .sub 115 116),(sa 118 2),(sa 119 16),(b1 120 .sub 118 119),(sa 18 117),(sa 19 120)] (rg [(sa 121 12),(b2 122 .quo 121 8),(sa 20 122)] (rg [(sa 123 18),(sa 124 19),(b1 125 .lss 123 124)] (.cond (.t 125) (rg [(sa 126 18),(sa 127 20),(b1 128 .geq 126 127),(sa 10 128)] (rg [(sa 129 0),(sa 130 1),(sa 131 16),(sa 132 3),(sa 133 4),(b3 134 163 [129,130,131,132,133])] (.reg [(sa 135 16),(b2 136 .add 135 1),(sa 1 136)]))) (rg [(sa 137 19),(sa 138 20),(b1 139 .geq 137 138),(sa 10 139)] (rg [(sa 140 0),(sa 141 16),(b2 142 .add 141 1),(sa 143 2),(sa 144 3),(sa 145 4),(b3 146 163 [140,142,143,144,145])] (.reg [(sa 147 16),(sa 2 147)]))))))))))))))))))))))⟩
def FQ : aw := ⟨53,[],(rg [(sa 10 1),(b2 11 .add 10 1),(sa 8 11)] (.block 0 (.loop (.seq (rg [(sa 12 8),(sa 13 2),(b1 14 .lss 12 13)] (.cond (.t 14) .skip (.exit 0))) (.seq (.block 1 (rg [(sa 17 8),(sa 9 17)] (.block 2 (.loop (.seq (.seq (.draw [(ea 18 9),(ea 19 1),(d1 20 .gtr 18 19),(ea 21 20),(dz ⟨(some 22),.mov (.t 3),(some (21,true))⟩),(dz ⟨(some 23),.mov (.t 0),(some (21,true))⟩),(dz ⟨(some 24),.mov (.t 9),(some (21,true))⟩),(dz ⟨(some 25),.iaS 2 (.t 23) (.t 24),(some (21,true))⟩),(dz ⟨(some 26),.lds 2 (.t 25),(some (21,true))⟩),(dz ⟨(some 27),.mov (.t 0),(some (21,true))⟩),(dz ⟨(some 28),.mov (.t 9),(some (21,true))⟩),(dz ⟨(some 29),.bin .sub (.t 28) (ki 1),(some (21,true))⟩),(dz ⟨(some 30),.iaS 2 (.t 27) (.t 29),(some (21,true))⟩),(dz ⟨(some 31),.lds 2 (.t 30),(some (21,true))⟩),(dz ⟨(some 32),.callv (.t 22) [(.t 26),(.t 31)],(some (21,true))⟩),(dz ⟨(some 33),.bin .lss (.t 32) (ki 0),(some (21,true))⟩),(eo 34 (.pick (.t 21) (.t 33) (.k (.bool false))))]) (.cond (.t 34) .skip (.exit 2))) (.seq (.block 3 (.draw [(ea 37 0),(ea 38 9),⟨(sa 39 0),none,[15],[]⟩,⟨(sa 40 9),none,[15],[]⟩,⟨(b2 41 .sub 40 1),none,[15],[]⟩,(ea 42 0),(ea 43 9),(d2 44 .sub 43 1),(d7 45 2 42 44),(ec 46 2 45),(ea 47 0),(ea 48 9),(d7 49 2 47 48),(ec 50 2 49),(d7 51 2 37 38),⟨(b8 2 51 46),none,[],[.slot 0]⟩,(d7 52 2 39 41),⟨(b8 2 52 50),none,[],[.slot 0]⟩])) (.reg [(sa 35 9),(b2 36 .sub 35 1),(sa 9 36)]))))))) (.reg [(sa 15 8),(b2 16 .add 15 1),(sa 8 16)]))))))⟩
end Go.Dx
namespace Go.Dx
abbrev jv0 (l : List V) : Int := iv (hdV l)
abbrev jv1 (l : List V) : Int := iv (hdV (tlV l))
abbrev jv2 (l : List V) : Int := iv (hdV (tlV (tlV l)))
abbrev jv3 (l : List V) : Int := iv (hdV (tlV (tlV (tlV l))))
abbrev jv4 (l : List V) : Int := iv (hdV (tlV (tlV (tlV (tlV l)))))
abbrev jv5 (l : List V) : Int := iv (hdV (tlV (tlV (tlV (tlV (tlV l))))))
theorem dqt {p : Prop} [inst : Decidable p] (h : p) : decide p = true := decide_eq_true h
theorem dqf {p : Prop} [inst : Decidable p] (h : ¬p) : decide p = false := decide_eq_false h
theorem imn {a b : Int} (h : 0 <= a) (g : 0 <= b) : 0 <= a * b := Int.mul_nonneg h g
theorem iml {a b c : Int} (h : a <= b) (g : 0 <= c) : c * a <= c * b := Int.mul_le_mul_of_nonneg_left h g
def iR : Nat -> Nat -> Rho -> Rho
 | _, 0, l => l
 | k, n + 1, l => some (some k) :: iR (k + 1) n l
def rdP (ct : bc) (un : Unr) (j : JJ) (l : Lp JJ) (s : Env × List O × Option Sx.Ex) : T (bQ JJ) := rdT ct un j l s.1 s.2.1 s.2.2
abbrev vi (n : Int) : V := .int .i64 n
abbrev tp2 : List Ty := [Ty.int IntKind.i64, Ty.int IntKind.i64]
abbrev tp4 : List Ty := [Ty.int IntKind.i64, Ty.int IntKind.i64, Ty.int IntKind.i64, Ty.int IntKind.i64]
abbrev tp1 : List Ty := [Ty.int IntKind.i64]
abbrev tyR : List Ty := [Ty.str, Ty.int IntKind.i64, Ty.sl [Ty.int IntKind.i64, Ty.int IntKind.i64], Ty.int IntKind.i64]
abbrev tyF : List Ty := [Ty.int IntKind.i64, Ty.int IntKind.i64, Ty.int IntKind.i64, Ty.int IntKind.i64, Ty.sl [Ty.int IntKind.i64, Ty.int IntKind.i64, Ty.int IntKind.i64, Ty.int IntKind.i64]]
abbrev tyC : List Ty := [Ty.str, Ty.int IntKind.i64, Ty.int IntKind.i64, Ty.int IntKind.i64, Ty.int IntKind.i64, Ty.int IntKind.i64]
abbrev tyT : List Ty := [Ty.int IntKind.i64, Ty.int IntKind.i64, Ty.int IntKind.i64, Ty.int IntKind.i64, Ty.int IntKind.i64]
abbrev scV (n0 : Nat) (f0 : FnV) (n2 : Nat) (f2 : FnV) (n4 : Nat) (f4 : FnV) (n6 : Nat) (f6 : FnV) : V := .agg [.sl n0 (elV tyR f0), .sl n2 (elV tyT f2), .sl n4 (elV tyF f4), .sl n6 (elV tyC f6)]
end Go.Dx
namespace Go.Dx
open Go.IntKind (i64 u64 u8)
open Go.Sx Go.Proofs
def eqs : List TypeId := [68, 29, 72, 192, 95]
theorem hE : ∀ t ∈ eqs, bU Tryz.prog t := by
 intro t ht
 simp only [eqs, List.mem_cons, List.not_mem_nil, or_false] at ht
 rcases ht with rfl | rfl | rfl | rfl | rfl
 ·exact dP (by kernel_rfl) (by kernel_rfl) (by kernel_rfl) (by kernel_rfl) (by kernel_rfl)
 ·exact dP (by kernel_rfl) (by kernel_rfl) (by kernel_rfl) (by kernel_rfl) (by kernel_rfl)
 ·exact pn 3 2 (by kernel_rfl) (by kernel_rfl) (by kernel_rfl) (by kernel_rfl) (by kernel_rfl) (by kernel_rfl)
 ·exact dP (by kernel_rfl) (by kernel_rfl) (by kernel_rfl) (by kernel_rfl) (by kernel_rfl)
 ·exact dP (by kernel_rfl) (by kernel_rfl) (by kernel_rfl) (by kernel_rfl) (by kernel_rfl)
theorem hI : lf Tryz.prog eqs its := by
 intro it ht
 simp only [its, List.mem_cons, List.not_mem_nil, or_false] at ht
 subst ht
 exact ⟨_, Tryz.func128, by kernel_rfl, by kernel_rfl⟩
def u0 : Unr := fun _ => 0
noncomputable def fnQ (fn : Func) (sf : aw) (ts : List Ty) : Bool × Option aw × Bool × Bool := (fn.name == "runtime.NumGoroutine", dN Tryz.prog eqs its fn, dt sf.ntmps sf.body, dV ts)
theorem lK {fn : Func} {sf : aw} {ts : List Ty} (h : fnQ fn sf ts = (false, some sf, true, true)) : (fn.name == "runtime.NumGoroutine") = false /\ dN Tryz.prog eqs its fn = some sf /\ dt sf.ntmps sf.body = true /\ dV ts = true := by
 have h1 := congrArg Prod.fst h
 have h2 := congrArg (fun x => x.2.1) h
 have h3 := congrArg (fun x => x.2.2.1) h
 have h4 := congrArg (fun x => x.2.2.2) h
 exact ⟨h1, h2, h3, h4⟩
section
variable {ct : bc} {f : FuncId} {fn : Func} {sf : aw} {un : Unr} {ts : List Ty} {pre : List V -> Prop} {r : List V -> V}
theorem mkE (hT : aX Tryz.prog eqs its ct) (hf : Tryz.prog.funcs[f]? = some fn) (hk : fnQ fn sf ts = (false, some sf, true, true)) (h : ∀ ds, pre (al ts ds) -> Run ct (aY JJ ct un sf (al ts ds)) (r (al ts ds))) : (vP (mkC ts pre r)).Ok Tryz.prog f :=
 px (J := JJ) (un := un) hT hE hI hf (lK hk).1 (lK hk).2.1 (lK hk).2.2.1 (lK hk).2.2.2 fun w0 ds hp => h ds hp hT.dst w0
end
end Go.Dx
namespace Go.Dx
open Go.IntKind (i64 u64 u8)
open Go.Sx Go.Proofs
def rO : bc := []
theorem oD : aX Tryz.prog eqs its rO := .nil
def m84 (x0 x1 x2 x3 : Int) : RT Empty := .ret (V.agg [vi (i64.wrap (x0 - x2)), vi (i64.wrap (x1 - x3))])
theorem E0 (x0 x1 x2 x3 : Int) : Fit noD (aY JJ rO u0 s84 [V.agg [vi x0, vi x1], V.agg [vi x2, vi x3]]) (m84 x0 x1 x2 x3) := ⟨by kernel_rfl, by kernel_rfl⟩
def aC (x0 x2 : Int) : Int := i64.wrap (x0 - x2)
def aB (x1 x3 : Int) : Int := i64.wrap (x1 - x3)
def R84 (x0 x1 x2 x3 : Int) : V := .agg [.int i64 (aC x0 x2), .int i64 (aB x1 x3)]
theorem HN (x0 x1 x2 x3 : Int) : evR noE (m84 x0 x1 x2 x3) (R84 x0 x1 x2 x3) := evRet (by unfold R84 aC aB; rfl)
def C84 : aI := mkC [.agg tp2, .agg tp2] (fun _ => True) fun
 | [.agg [.int _ x0, .int _ x1], .agg [.int _ x2, .int _ x3]] => R84 x0 x1 x2 x3
 | _ => .any
theorem xZ : (vP C84).Ok Tryz.prog 84 := mkE oD Tryz.func84 (by kernel_rfl) fun ds hp => rf0 (E0 ..) (HN _ _ _ _)
def m85 (x0 x1 x2 x3 : Int) : RT Empty := .ret (vi (i64.wrap (i64.wrap (x0 * x2) + i64.wrap (x1 * x3))))
theorem EM (x0 x1 x2 x3 : Int) : Fit noD (aY JJ rO u0 s85 [V.agg [vi x0, vi x1], V.agg [vi x2, vi x3]]) (m85 x0 x1 x2 x3) := ⟨by kernel_rfl, by kernel_rfl⟩
def dn (x0 x1 x2 x3 : Int) : Int := i64.wrap (i64.wrap (x0 * x2) + i64.wrap (x1 * x3))
def R85 (x0 x1 x2 x3 : Int) : V := .int i64 (dn x0 x1 x2 x3)
theorem HZ (x0 x1 x2 x3 : Int) : evR noE (m85 x0 x1 x2 x3) (R85 x0 x1 x2 x3) := evRet (by unfold R85 dn; rfl)
def C85 : aI := mkC [.agg tp2, .agg tp2] (fun _ => True) fun
 | [.agg [.int _ x0, .int _ x1], .agg [.int _ x2, .int _ x3]] => R85 x0 x1 x2 x3
 | _ => .any
theorem wX : (vP C85).Ok Tryz.prog 85 := mkE oD Tryz.func85 (by kernel_rfl) fun ds hp => rf0 (EM ..) (HZ _ _ _ _)
def FJ (x0 x1 x2 x3 : Int) : RT Empty := .ret (vi (i64.wrap (i64.wrap (x0 * x3) - i64.wrap (x1 * x2))))
theorem BS (x0 x1 x2 x3 : Int) : Fit noD (aY JJ rO u0 Hl [V.agg [vi x0, vi x1], V.agg [vi x2, vi x3]]) (FJ x0 x1 x2 x3) := ⟨by kernel_rfl, by kernel_rfl⟩
def cl (x0 x1 x2 x3 : Int) : Int := i64.wrap (i64.wrap (x0 * x3) - i64.wrap (x1 * x2))
def Bl (x0 x1 x2 x3 : Int) : V := .int i64 (cl x0 x1 x2 x3)
theorem FY (x0 x1 x2 x3 : Int) : evR noE (FJ x0 x1 x2 x3) (Bl x0 x1 x2 x3) := evRet (by unfold Bl cl; rfl)
def uy : aI := mkC [.agg tp2, .agg tp2] (fun _ => True) fun
 | [.agg [.int _ x0, .int _ x1], .agg [.int _ x2, .int _ x3]] => Bl x0 x1 x2 x3
 | _ => .any
theorem pW : (vP uy).Ok Tryz.prog 127 := mkE oD Tryz.func127 (by kernel_rfl) fun ds hp => rf0 (BS ..) (FY _ _ _ _)
def Dv (x0 x1 x2 : Int) : RT Empty := .ret (V.agg [vi (i64.wrap (x2 * x0)), vi (i64.wrap (x2 * x1))])
theorem Cv (x0 x1 x2 : Int) : Fit noD (aY JJ rO u0 G0 [V.agg [vi x0, vi x1], vi x2]) (Dv x0 x1 x2) := ⟨by kernel_rfl, by kernel_rfl⟩
def ce (x0 x2 : Int) : Int := i64.wrap (x2 * x0)
def cj (x1 x2 : Int) : Int := i64.wrap (x2 * x1)
def C2 (x0 x1 x2 : Int) : V := .agg [.int i64 (ce x0 x2), .int i64 (cj x1 x2)]
theorem EU (x0 x1 x2 : Int) : evR noE (Dv x0 x1 x2) (C2 x0 x1 x2) := evRet (by unfold C2 ce cj; rfl)
def va : aI := mkC [.agg tp2, .int .i64] (fun _ => True) fun
 | [.agg [.int _ x0, .int _ x1], .int _ x2] => C2 x0 x1 x2
 | _ => .any
theorem pS : (vP va).Ok Tryz.prog 101 := mkE oD Tryz.func101 (by kernel_rfl) fun ds hp => rf0 (Cv ..) (EU _ _ _)
def m86 (x0 x1 x2 : Int) : RT Empty := .obi (.obi (.obi (.ret (V.bool (bif decide (x0 < x1) then true else decide (x2 < x0))))))
theorem FU (x0 x1 x2 : Int) : Fit noD (aY JJ rO u0 s86 [vi x0, vi x1, vi x2]) (m86 x0 x1 x2) := ⟨by kernel_rfl, by kernel_rfl⟩
def be (x0 x1 x2 : Int) : Bool := bif decide (x0 < x1) then true else decide (x2 < x0)
def R86 (x0 x1 x2 : Int) : V := .bool (be x0 x1 x2)
theorem HC (x0 x1 x2 : Int) : evR noE (m86 x0 x1 x2) (R86 x0 x1 x2) := ak (ak (ak (evRet (by unfold R86 be; rfl))))
def C86 : aI := mkC [.int .i64, .int .i64, .int .i64] (fun _ => True) fun
 | [.int _ x0, .int _ x1, .int _ x2] => R86 x0 x1 x2
 | _ => .any
theorem yf : (vP C86).Ok Tryz.prog 86 := mkE oD Tryz.func86 (by kernel_rfl) fun ds hp => rf0 (FU ..) (HC _ _ _)
def lV (x0 x1 x2 : Int) : Bool := bif decide (x1 <= x0) then decide (x0 <= x2) else false
def FD (x0 x1 : Int) : RT Empty := .obt (.obt (.obt (.obt (.obt (.ret (V.tup [V.int u64 (u64.wrap (u64.wrap (u64.wrap (x0.fdiv (2 ^ 32) * x1.fdiv (2 ^ 32)) + (u64.wrap (u64.wrap (x0.fdiv (2 ^ 32) * bits BinOp.and u64 x1 4294967295) + (u64.wrap (bits BinOp.and u64 x0 4294967295 * bits BinOp.and u64 x1 4294967295)).fdiv (2 ^ 32))).fdiv (2 ^ 32)) + (u64.wrap (bits BinOp.and u64 (u64.wrap (u64.wrap (x0.fdiv (2 ^ 32) * bits BinOp.and u64 x1 4294967295) + (u64.wrap (bits BinOp.and u64 x0 4294967295 * bits BinOp.and u64 x1 4294967295)).fdiv (2 ^ 32))) 4294967295 + u64.wrap (bits BinOp.and u64 x0 4294967295 * x1.fdiv (2 ^ 32)))).fdiv (2 ^ 32))), V.int u64 (u64.wrap (x0 * x1))]))))))
theorem BY (x0 x1 : Int) : Fit noD (aY JJ rO u0 HV [V.int u64 x0, V.int u64 x1]) (FD x0 x1) := ⟨by kernel_rfl, by kernel_rfl⟩
def oV (x0 x1 : Int) : Int := u64.wrap (u64.wrap (u64.wrap (x0.fdiv (2 ^ 32) * x1.fdiv (2 ^ 32)) + (u64.wrap (u64.wrap (x0.fdiv (2 ^ 32) * bits BinOp.and u64 x1 4294967295) + (u64.wrap (bits BinOp.and u64 x0 4294967295 * bits BinOp.and u64 x1 4294967295)).fdiv (2 ^ 32))).fdiv (2 ^ 32)) + (u64.wrap (bits BinOp.and u64 (u64.wrap (u64.wrap (x0.fdiv (2 ^ 32) * bits BinOp.and u64 x1 4294967295) + (u64.wrap (bits BinOp.and u64 x0 4294967295 * bits BinOp.and u64 x1 4294967295)).fdiv (2 ^ 32))) 4294967295 + u64.wrap (bits BinOp.and u64 x0 4294967295 * x1.fdiv (2 ^ 32)))).fdiv (2 ^ 32))
def oL (x0 x1 : Int) : Int := u64.wrap (x0 * x1)
def Cp (x0 x1 : Int) : V := .tup [.int u64 (oV x0 x1), .int u64 (oL x0 x1)]
theorem Fe (x0 x1 : Int) : evR noE (FD x0 x1) (Cp x0 x1) := evObt (evObt (evObt (evObt (evObt (evRet (by unfold Cp oV oL; rfl))))))
def uu : aI := mkC [.int .u64, .int .u64] (fun _ => True) fun
 | [.int _ x0, .int _ x1] => Cp x0 x1
 | _ => .any
theorem qL : (vP uu).Ok Tryz.prog 162 := mkE oD Tryz.func162 (by kernel_rfl) fun ds hp => rf0 (BY ..) (Fe _ _)
def pu : bc := [(84, .con C84), (85, .con C85), (127, .con uy), (101, .con va), (86, .con C86), (162, .con uu)]
theorem kR : aX Tryz.prog eqs its pu := .con xZ (.con wX (.con pW (.con pS (.con yf (.con qL (.nil))))))
def Fa (x0 x1 : Int) : RT Empty := .obc (.obt (.ret (V.agg [V.int u64 (oV (u64.wrap x0) (u64.wrap x1)), V.int u64 (oL (u64.wrap x0) (u64.wrap x1))])))
theorem BN (x0 x1 : Int) : Fit noD (aY JJ pu u0 Ib [vi x0, vi x1]) (Fa x0 x1) := ⟨by kernel_rfl, by kernel_rfl⟩
def jZ (x0 x1 : Int) : Int := oV (u64.wrap x0) (u64.wrap x1)
def ke (x0 x1 : Int) : Int := oL (u64.wrap x0) (u64.wrap x1)
def CM (x0 x1 : Int) : V := .agg [.int u64 (jZ x0 x1), .int u64 (ke x0 x1)]
theorem E1 (x0 x1 : Int) : evR noE (Fa x0 x1) (CM x0 x1) := ao (evObt (evRet (by unfold CM jZ ke; rfl)))
def uL : aI := mkC tp2 (fun _ => True) fun
 | [.int _ x0, .int _ x1] => CM x0 x1
 | _ => .any
theorem qJ : (vP uL).Ok Tryz.prog 134 := mkE kR Tryz.func134 (by kernel_rfl) fun ds hp => rf0 (BN ..) (E1 _ _)
def EQ (x0 x1 x2 x3 : Int) : RT Empty := .obi (.obi (.obi (.obi (.obi (.obi (.obi (.obi (.obi (.obi (.obi (.obi (.obi (.obi (.obi (.obi (.obi (.ret (V.bool (bif bif x0 == x2 && (x1 == x3 && true) then true else decide (x0 < x2) then true else bif x0 == x2 then decide (x1 < x3) else false)))))))))))))))))))
theorem CX (x0 x1 x2 x3 : Int) : Fit noD (aY JJ pu u0 He [V.agg [V.int u64 x0, V.int u64 x1], V.agg [V.int u64 x2, V.int u64 x3]]) (EQ x0 x1 x2 x3) := ⟨by kernel_rfl, by kernel_rfl⟩
def py (x0 x1 x2 x3 : Int) : Bool := bif bif x0 == x2 && (x1 == x3 && true) then true else decide (x0 < x2) then true else bif x0 == x2 then decide (x1 < x3) else false
def CN (x0 x1 x2 x3 : Int) : V := .bool (py x0 x1 x2 x3)
theorem Er (x0 x1 x2 x3 : Int) : evR noE (EQ x0 x1 x2 x3) (CN x0 x1 x2 x3) := ak (ak (ak (ak (ak (ak (ak (ak (ak (ak (ak (ak (ak (ak (ak (ak (ak (evRet (by unfold CN py; rfl))))))))))))))))))
def u6 : aI := mkC [.agg [.int .u64, .int .u64], .agg [.int .u64, .int .u64]] (fun _ => True) fun
 | [.agg [.int _ x0, .int _ x1], .agg [.int _ x2, .int _ x3]] => CN x0 x1 x2 x3
 | _ => .any
theorem qO : (vP u6).Ok Tryz.prog 135 := mkE kR Tryz.func135 (by kernel_rfl) fun ds hp => rf0 (CX ..) (Er _ _ _ _)
def m78 (x0 x1 x2 x3 x4 x5 : Int) : RT Empty := .obc (.obt (.obc (.obt (.obc (.obt (.ret (vi (cl (aC x2 x0) (aB x3 x1) (aC x4 x0) (aB x5 x1)))))))))
theorem En (x0 x1 x2 x3 x4 x5 : Int) : Fit noD (aY JJ pu u0 s78 [V.agg [vi x0, vi x1, vi x2, vi x3], V.agg [vi x4, vi x5]]) (m78 x0 x1 x2 x3 x4 x5) := ⟨by kernel_rfl, by kernel_rfl⟩
def dh (x0 x1 x2 x3 x4 x5 : Int) : Int := cl (aC x2 x0) (aB x3 x1) (aC x4 x0) (aB x5 x1)
def R78 (x0 x1 x2 x3 x4 x5 : Int) : V := .int i64 (dh x0 x1 x2 x3 x4 x5)
theorem H8 (x0 x1 x2 x3 x4 x5 : Int) : evR noE (m78 x0 x1 x2 x3 x4 x5) (R78 x0 x1 x2 x3 x4 x5) := ao (evObt (ao (evObt (ao (evObt (evRet (by unfold R78 dh; rfl)))))))
def C78 : aI := mkC [.agg tp4, .agg tp2] (fun _ => True) fun
 | [.agg [.int _ x0, .int _ x1, .int _ x2, .int _ x3], .agg [.int _ x4, .int _ x5]] => R78 x0 x1 x2 x3 x4 x5
 | _ => .any
theorem wQ : (vP C78).Ok Tryz.prog 78 := mkE kR Tryz.func78 (by kernel_rfl) fun ds hp => rf0 (En ..) (H8 _ _ _ _ _ _)
def m54 (x0 x1 x2 x3 : Int) : RT Empty := .ret (V.agg [vi x0, vi x1, vi x2, vi x1, vi x2, vi x3, vi x0, vi x3])
theorem FI (x0 x1 x2 x3 : Int) : Fit noD (aY JJ pu u0 s54 [V.agg [vi x0, vi x1, vi x2, vi x3]]) (m54 x0 x1 x2 x3) := ⟨by kernel_rfl, by kernel_rfl⟩
def R54 (x0 x1 x2 x3 : Int) : V := .agg [.int i64 (x0), .int i64 (x1), .int i64 (x2), .int i64 (x1), .int i64 (x2), .int i64 (x3), .int i64 (x0), .int i64 (x3)]
theorem HU (x0 x1 x2 x3 : Int) : evR noE (m54 x0 x1 x2 x3) (R54 x0 x1 x2 x3) := evRet (by unfold R54 ; rfl)
def C54 : aI := mkC [.agg tp4] (fun _ => True) fun
 | [.agg [.int _ x0, .int _ x1, .int _ x2, .int _ x3]] => R54 x0 x1 x2 x3
 | _ => .any
theorem wp : (vP C54).Ok Tryz.prog 54 := mkE kR Tryz.func54 (by kernel_rfl) fun ds hp => rf0 (FI ..) (HU _ _ _ _)
def m48 (s0 : ByteArray) (x1 x2 x3 x4 x5 x6 x7 x8 x9 x10 : Int) : RT Empty := .obc (.obt (.ret (V.agg [vi x1, vi x2, vi x3, vi (max 0 (i64.wrap (x3 - x10))), vi (i64.wrap (x3 - x9)), vi (ce x6 x3), vi (cj x7 x3), vi (i64.wrap (x8 * x3)), V.bool (decide (x3 < x9))])))
theorem Dh (s0 : ByteArray) (x1 x2 x3 x4 x5 x6 x7 x8 x9 x10 : Int) : Fit noD (aY JJ pu u0 s48 [V.agg [V.str s0, vi x1, vi x2, vi x3, vi x4, vi x5], V.agg [vi x6, vi x7, vi x8, vi x9, vi x10]]) (m48 s0 x1 x2 x3 x4 x5 x6 x7 x8 x9 x10) := ⟨by kernel_rfl, by kernel_rfl⟩
def tN (x3 x10 : Int) : Int := max 0 (i64.wrap (x3 - x10))
def tw (x3 x9 : Int) : Int := i64.wrap (x3 - x9)
def tI (x3 x6 : Int) : Int := ce x6 x3
def sY (x3 x7 : Int) : Int := cj x7 x3
def sG (x3 x8 : Int) : Int := i64.wrap (x8 * x3)
def sX (x3 x9 : Int) : Bool := decide (x3 < x9)
def R48 (s0 : ByteArray) (x1 x2 x3 x4 x5 x6 x7 x8 x9 x10 : Int) : V := .agg [.int i64 (x1), .int i64 (x2), .int i64 (x3), .int i64 (tN x3 x10), .int i64 (tw x3 x9), .int i64 (tI x3 x6), .int i64 (sY x3 x7), .int i64 (sG x3 x8), .bool (sX x3 x9)]
theorem Hr (s0 : ByteArray) (x1 x2 x3 x4 x5 x6 x7 x8 x9 x10 : Int) : evR noE (m48 s0 x1 x2 x3 x4 x5 x6 x7 x8 x9 x10) (R48 s0 x1 x2 x3 x4 x5 x6 x7 x8 x9 x10) := ao (evObt (evRet (by unfold R48 tN tw tI sY sG sX; rfl)))
def C48 : aI := mkC [.agg tyC, .agg tyT] (fun _ => True) fun
 | [.agg [.str s0, .int _ x1, .int _ x2, .int _ x3, .int _ x4, .int _ x5], .agg [.int _ x6, .int _ x7, .int _ x8, .int _ x9, .int _ x10]] => R48 s0 x1 x2 x3 x4 x5 x6 x7 x8 x9 x10
 | _ => .any
theorem wa : (vP C48).Ok Tryz.prog 48 := mkE kR Tryz.func48 (by kernel_rfl) fun ds hp => rf0 (Dh ..) (Hr _ _ _ _ _ _ _ _ _ _ _)
def DD (x0 x1 x2 x3 x4 x5 x6 x7 : Int) (b8 : Bool) (x9 x10 x11 : Int) : RT Empty := .obc (.obt (.ret (V.agg [vi (i64.wrap (i64.wrap (x2 * x0) + i64.wrap (x11 * aC x9 x0))), vi (i64.wrap (i64.wrap (x2 * x1) + i64.wrap (x11 * aB x10 x1)))])))
theorem BO (x0 x1 x2 x3 x4 x5 x6 x7 : Int) (b8 : Bool) (x9 x10 x11 : Int) : Fit noD (aY JJ pu u0 Hb [V.agg [vi x0, vi x1, vi x2, vi x3, vi x4, vi x5, vi x6, vi x7, V.bool b8], V.agg [vi x9, vi x10], vi x11]) (DD x0 x1 x2 x3 x4 x5 x6 x7 b8 x9 x10 x11) := ⟨by kernel_rfl, by kernel_rfl⟩
def kn (x0 x2 x9 x11 : Int) : Int := i64.wrap (i64.wrap (x2 * x0) + i64.wrap (x11 * aC x9 x0))
def j9 (x1 x2 x10 x11 : Int) : Int := i64.wrap (i64.wrap (x2 * x1) + i64.wrap (x11 * aB x10 x1))
def BC (x0 x1 x2 x3 x4 x5 x6 x7 : Int) (b8 : Bool) (x9 x10 x11 : Int) : V := .agg [.int i64 (kn x0 x2 x9 x11), .int i64 (j9 x1 x2 x10 x11)]
theorem DB (x0 x1 x2 x3 x4 x5 x6 x7 : Int) (b8 : Bool) (x9 x10 x11 : Int) : evR noE (DD x0 x1 x2 x3 x4 x5 x6 x7 b8 x9 x10 x11) (BC x0 x1 x2 x3 x4 x5 x6 x7 b8 x9 x10 x11) := ao (evObt (evRet (by unfold BC kn j9; rfl)))
def vh : aI := mkC [.agg [.int .i64, .int .i64, .int .i64, .int .i64, .int .i64, .int .i64, .int .i64, .int .i64, .bool], .agg tp2, .int .i64] (fun _ => True) fun
 | [.agg [.int _ x0, .int _ x1, .int _ x2, .int _ x3, .int _ x4, .int _ x5, .int _ x6, .int _ x7, .bool b8], .agg [.int _ x9, .int _ x10], .int _ x11] => BC x0 x1 x2 x3 x4 x5 x6 x7 b8 x9 x10 x11
 | _ => .any
theorem pN : (vP vh).Ok Tryz.prog 102 := mkE kR Tryz.func102 (by kernel_rfl) fun ds hp => rf0 (BO ..) (DB _ _ _ _ _ _ _ _ _ _ _ _)
def m81 (x0 x1 : Int) : RT Empty := .br (decide (x0 < 0)) (.ob (decide (x1 ≠ 0)) (.ret (vi (i64.wrap (0 - i64.wrap ((i64.wrap (i64.wrap (x1 - 1) - x0)).tdiv x1)))))) (.ob (decide (x1 ≠ 0)) (.ret (vi (i64.wrap (x0.tdiv x1)))))
theorem DL (x0 x1 : Int) : Fit noD (aY JJ pu u0 s81 [vi x0, vi x1]) (m81 x0 x1) := ⟨by kernel_rfl, by kernel_rfl⟩
def mZ (x0 x1 : Int) : Int := bif decide (x0 < 0) then i64.wrap (0 - i64.wrap ((i64.wrap (i64.wrap (x1 - 1) - x0)).tdiv x1)) else i64.wrap (x0.tdiv x1)
def R81 (x0 x1 : Int) : V := .int i64 (mZ x0 x1)
theorem Gl (x0 x1 : Int) (hp : x1 ≠ 0) : evR noE (m81 x0 x1) (R81 x0 x1) := aL (fun h0 => aD (by first | assumption | (simp [hp])) (evRet (by unfold R81 mZ; try rw [h0]; rfl))) (fun h0 => aD (by first | assumption | (simp [hp])) (evRet (by unfold R81 mZ; try rw [h0]; rfl)))
def C81 : aI := mkC tp2 (fun
 | [.int _ x0, .int _ x1] => x1 ≠ 0
 | _ => False) fun
 | [.int _ x0, .int _ x1] => R81 x0 x1
 | _ => .any
theorem wj : (vP C81).Ok Tryz.prog 81 := mkE kR Tryz.func81 (by kernel_rfl) fun ds hp => rf0 (DL ..) (Gl _ _ hp)
end Go.Dx
namespace Go.Dx
open Go.IntKind (i64 u64 u8)
open Go.Sx
theorem dH {n : Nat} {P : Nat -> Prop} (h : ∀ i, i <= n -> (i < n -> P (i + 1)) -> P i) : ∀ i, i <= n -> P i := by
 have key : ∀ k i, i + k = n -> P i := by
  intro k
  induction k with
  | zero => intro i e; exact h i (by omega) fun h => by omega
  | succ k ih => intro i e; exact h i (by omega) fun _ => ih (i + 1) (by omega)
 exact fun i hi => key (n - i) i (by omega)
theorem bW {x : Int} (h1 : -9223372036854775808 <= x) (h2 : x <= 9223372036854775807) : i64.wrap x = x := IntWalk.i64_in _ (by omega)
theorem Ak {i n : Nat} (h : i < n) (hn : n <= 9223372036854775807) : i64.wrap ((i : Int) + 1) = ((i + 1 : Nat) : Int) := by
 rw [bW (by omega) (by omega)]; omega
theorem rz {n : Nat} {p : Nat -> Bool} (i : Nat) (hi : i < n) (h : p i = false) : gH n p = false := by
 cases hb : gH n p with
 | false => rfl
 | true => rw [ia hb i hi] at h; cases h
def sm (p : Nat -> Bool) : Nat -> Nat -> Int
 | 0, _ => -1
 | k + 1, i => bif p i then (i : Int) else sm p k (i + 1)
def idx (n : Nat) (p : Nat -> Bool) : Int := sm p n 0
theorem nU {p : Nat -> Bool} : ∀ (k i : Nat), (∀ j, i <= j -> j < i + k -> p j = false) -> sm p k i = -1
 | 0, _, _ => rfl
 | k + 1, i, h => by simp only [sm, h i (Nat.le_refl _) (by omega), cond_false]; exact nU k (i + 1) fun j h1 h2 => h j (by omega) (by omega)
theorem nX {p : Nat -> Bool} {j : Nat} (hj : p j = true) : ∀ (k i : Nat), i <= j -> j < i + k -> (∀ l, i <= l -> l < j -> p l = false) -> sm p k i = j
 | 0, i, h1, h2, _ => by omega
 | k + 1, i, h1, h2, h => by
   by_cases e : i = j
   ·subst e; simp only [sm, hj, cond_true]
   ·simp only [sm, h i (Nat.le_refl _) (by omega), cond_false]
    exact nX hj k (i + 1) (by omega) (by omega) fun l h3 h4 => h l (by omega) h4
theorem mN {n : Nat} {p : Nat -> Bool} (h : ∀ j, j < n -> p j = false) : idx n p = -1 := nU n 0 fun j _ h2 => h j (by omega)
theorem mt {n : Nat} {p : Nat -> Bool} {j : Nat} (hj : p j = true) (h1 : j < n) (h : ∀ l, l < j -> p l = false) : idx n p = j := nX hj n 0 (by omega) (by omega) fun l _ h4 => h l h4
def exB (n : Nat) (p : Nat -> Bool) : Bool := !gH n fun i => !p i
section
variable {S : Type} {step : S -> RT S} {r : V}
theorem Ev.st {s : S} (h0 : bR (step s) = true) (h : evR (Ev step) (step s) r) : Ev step s r := Ev.of h0 h
end
end Go.Dx
namespace Go.Dx
open Go.IntKind (i64 u64 u8)
open Go.Sx
section
variable {S : Type} {step : S -> RT S}
theorem j6 {L : Int -> S} {n : Nat} {p : Nat -> Bool} (hn : n <= 9223372036854775807)
 (hst : ∀ i : Nat, step (L i) = .br (decide ((i : Int) < (n : Int))) (.ob (decide (0 <= (i : Int) /\ (i : Int) < (n : Int))) (.obc (.obt (.br (p i) (.ret (.int .i64 i)) (.next [] (L (i64.wrap ((i : Int) + 1))) []))))) (.ret (.int .i64 (-1)))) :
 Ev step (L 0) (.int .i64 (idx n p)) := by
 have key := dH (n := n) (P := fun i => (∀ j, j < i -> p j = false) -> Ev step (L i) (.int .i64 (idx n p))) fun i hi ih hj => by
  refine Ev.of (by rw [hst]; rfl) ?_
  rw [hst]
  refine aL (fun h => ?_) (fun h => ?_)
  ·have hlt : i < n := by simpa using h
   refine aD (by simpa using hlt) (ao (evObt (aL (fun hb => evRet ?_) (fun hb => cv ?_))))
   ·rw [mt hb hlt hj]
   ·rw [Ak hlt hn]
    exact ih hlt fun j h1 => by
     by_cases e : j = i
     ·subst e; exact hb
     ·exact hj j (by omega)
  ·have : i = n := by have : ¬ i < n := by simpa using h
                      omega
   subst this
   refine evRet ?_
   rw [mN hj]
 exact key 0 (Nat.zero_le _) fun j hj => by omega
end
end Go.Dx
namespace Go.Dx
open Go.IntKind (i64 u64 u8)
open Go.Sx
theorem ER {n : Nat} (hn : n <= 9223372036854775807) (p : Nat -> Bool) {P : Int -> Prop} (hstep : ∀ i : Nat, i < n -> (∀ j, j < i -> p j = false) -> (p i = false -> P (i64.wrap ((i : Int) + 1))) -> P i) (hend : (∀ j, j < n -> p j = false) -> P n) : P 0 := by
 have key := dH (n := n) (P := fun i => (∀ j, j < i -> p j = false) -> P i) fun i hi ih hj => by
  by_cases hlt : i < n
  ·refine hstep i hlt hj fun hp => ?_
   rw [Ak hlt hn]
   exact ih hlt fun j h1 => by
    by_cases e : j = i
    ·subst e; exact hp
    ·exact hj j (by omega)
  ·have : i = n := by omega
   subst this; exact hend hj
 exact key 0 (Nat.zero_le _) fun j hj => by omega
section
variable {S : Type} {Nx : S -> V -> Prop} {r : V} {x y : RT S} {i n : Nat}
theorem xT (h : i < n) (hx : evR Nx x r) : evR Nx (.br (decide ((i : Int) < (n : Int))) x y) r := ⟨fun _ => hx, fun k => by have := of_decide_eq_false k; omega⟩
theorem kq (hy : evR Nx y r) : evR Nx (.br (decide ((n : Int) < (n : Int))) x y) r := ⟨(fun k => by have := of_decide_eq_true k; omega), fun _ => hy⟩
theorem xi (h : i < n) (hx : evR Nx x r) : evR Nx (.ob (decide (0 <= (i : Int) /\ (i : Int) < (n : Int))) x) r := ⟨decide_eq_true (by omega), hx⟩
theorem mH {b : Bool} (h : b = true) (hx : evR Nx x r) : evR Nx (.br b x y) r := ⟨fun _ => hx, fun k => by rw [h] at k; cases k⟩
theorem pY {b : Bool} (h : b = false) (hy : evR Nx y r) : evR Nx (.br b x y) r := ⟨(fun k => by rw [h] at k; cases k), fun _ => hy⟩
end
end Go.Dx
namespace Go.Dx
open Go.IntKind (i64 u64 u8)
theorem eK {n : Nat} {p : Nat -> Bool} (i : Nat) (hi : i < n) (h : p i = true) : exB n p = true := by
 unfold exB; rw [rz i hi (by rw [h]; rfl)]; rfl
theorem eE {n : Nat} {p : Nat -> Bool} (h : ∀ i, i < n -> p i = false) : exB n p = false := by
 unfold exB; rw [o8 fun i hi => by rw [h i hi]; rfl]; rfl
end Go.Dx
namespace Go.Dx
open Go.IntKind (i64 u64 u8)
open Go.Sx
def eT (n : Nat) (c : Nat -> Int) : Int := bif idx n (fun i => c i != 0) == -1 then 0 else idx n fun i => c i != 0
def ef (n : Nat) (c : Nat -> Int) : Int := bif idx n (fun i => c i != 0) == -1 then 0 else c (idx n fun i => c i != 0).toNat
theorem ng {n : Nat} {c : Nat -> Int} (h : ∀ j, j < n -> (c j != 0) = false) : eT n c = 0 /\ ef n c = 0 := by
 unfold eT ef; rw [mN h]; exact ⟨rfl, rfl⟩
theorem mS {n : Nat} {c : Nat -> Int} {i : Nat} (hi : i < n) (hc : (c i != 0) = true) (h : ∀ j, j < i -> (c j != 0) = false) : eT n c = i /\ ef n c = c i := by
 unfold eT ef; rw [mt hc hi h]
 have : ((i : Int) == -1) = false := by rw [beq_eq_false_iff_ne]; omega
 rw [this]; exact ⟨rfl, rfl⟩
section
variable {S : Type} {step : S -> RT S}
theorem jV {L : Int -> S} {n : Nat} {c : Nat -> Int} {Q : Nat -> Prop} {ρ : Rho} (W : Nat -> RT S -> RT S) (hW : ∀ i x r, Q i -> evR (Ev step) x r -> evR (Ev step) (W i x) r) (hWn : ∀ i x, bR (W i x) = bR x) (hn : n <= 9223372036854775807) (hQ : ∀ i, i < n -> Q i)
 (hst : ∀ i : Nat, step (L i) = .br (decide ((i : Int) < (n : Int))) (.ob (decide (0 <= (i : Int) /\ (i : Int) < (n : Int))) (.ob (decide (0 <= (i : Int) /\ (i : Int) <= (n : Int))) (W i (.br (c i != 0) (.ret (.tup [.int .i64 i, .int .i64 (c i)])) (.next ρ (L (i64.wrap ((i : Int) + 1))) []))))) (.ret (.tup [.int .i64 0, .int .i64 0]))) :
 Ev step (L 0) (.tup [.int .i64 (eT n c), .int .i64 (ef n c)]) :=
 ER hn (fun i => c i != 0) (P := fun i => Ev step (L i) (.tup [.int .i64 (eT n c), .int .i64 (ef n c)])) (fun i hlt hj next => Ev.of (by rw [hst]; simp only [bR, hWn, Bool.and_self]) (by
  rw [hst]
  refine xT hlt (xi hlt (aD (decide_eq_true (by omega)) (hW i _ _ (hQ i hlt) (aL (fun hb => evRet ?_) (fun hb => cv (next hb))))))
  rw [(mS hlt hb hj).1, (mS hlt hb hj).2])) (fun hj => Ev.of (by rw [hst]; simp only [bR, hWn, Bool.and_self]) (by
  rw [hst]
  refine kq (evRet ?_)
  rw [(ng hj).1, (ng hj).2]))
end
def cG (n : Nat) (f : Nat -> List V) : Prop := ∀ i, i < n -> (sv (hdV (f i))).size <= 9223372036854775807
end Go.Dx
namespace Go.Dx
open Go.IntKind (i64 u64 u8)
end Go.Dx
namespace Go.Dx
open Go.IntKind (i64 u64 u8)
open Go.Sx Go.Proofs
def zi : bc := (134, .con uL) :: (135, .con u6) :: (78, .con C78) :: (54, .con C54) :: (48, .con C48) :: (102, .con vh) :: (81, .con C81) :: pu
theorem wb : aX Tryz.prog eqs its zi := .con qJ (.con qO (.con wQ (.con wp (.con wa (.con pN (.con wj (kR)))))))
def Dt (x0 x1 x2 x3 x4 x5 x6 : Int) : RT Empty := .obc (.obt (.obc (.obt (.obc (.obt (.obc (.obt (.br (decide (dn (aC x4 x0) (aB x5 x1) (aC x2 x0) (aB x3 x1) <= 0)) (.obc (.obt (.ret (V.bool (decide (dn (aC x4 x0) (aB x5 x1) (aC x4 x0) (aB x5 x1) <= i64.wrap (x6 * x6))))))) (.br (decide (dn (aC x2 x0) (aB x3 x1) (aC x2 x0) (aB x3 x1) <= dn (aC x4 x0) (aB x5 x1) (aC x2 x0) (aB x3 x1))) (.obc (.obt (.obc (.obt (.ret (V.bool (decide (dn (aC x4 x2) (aB x5 x3) (aC x4 x2) (aB x5 x3) <= i64.wrap (x6 * x6))))))))) (.obc (.obt (.obc (.obt (.obc (.obt (.obc (.obt (.ret (V.bool (py (jZ (max (cl (aC x2 x0) (aB x3 x1) (aC x4 x0) (aB x5 x1)) (i64.wrap (0 - cl (aC x2 x0) (aB x3 x1) (aC x4 x0) (aB x5 x1)))) (max (cl (aC x2 x0) (aB x3 x1) (aC x4 x0) (aB x5 x1)) (i64.wrap (0 - cl (aC x2 x0) (aB x3 x1) (aC x4 x0) (aB x5 x1))))) (ke (max (cl (aC x2 x0) (aB x3 x1) (aC x4 x0) (aB x5 x1)) (i64.wrap (0 - cl (aC x2 x0) (aB x3 x1) (aC x4 x0) (aB x5 x1)))) (max (cl (aC x2 x0) (aB x3 x1) (aC x4 x0) (aB x5 x1)) (i64.wrap (0 - cl (aC x2 x0) (aB x3 x1) (aC x4 x0) (aB x5 x1))))) (jZ (i64.wrap (x6 * x6)) (dn (aC x2 x0) (aB x3 x1) (aC x2 x0) (aB x3 x1))) (ke (i64.wrap (x6 * x6)) (dn (aC x2 x0) (aB x3 x1) (aC x2 x0) (aB x3 x1)))))))))))))))))))))))
theorem A0 (x0 x1 x2 x3 x4 x5 x6 : Int) : Fit noD (aY JJ zi u0 HD [V.agg [vi x0, vi x1, vi x2, vi x3], V.agg [vi x4, vi x5], vi x6]) (Dt x0 x1 x2 x3 x4 x5 x6) := ⟨by kernel_rfl, by kernel_rfl⟩
def gR (x0 x1 x2 x3 x4 x5 x6 : Int) : Bool := bif decide (dn (aC x4 x0) (aB x5 x1) (aC x2 x0) (aB x3 x1) <= 0) then decide (dn (aC x4 x0) (aB x5 x1) (aC x4 x0) (aB x5 x1) <= i64.wrap (x6 * x6)) else bif decide (dn (aC x2 x0) (aB x3 x1) (aC x2 x0) (aB x3 x1) <= dn (aC x4 x0) (aB x5 x1) (aC x2 x0) (aB x3 x1)) then decide (dn (aC x4 x2) (aB x5 x3) (aC x4 x2) (aB x5 x3) <= i64.wrap (x6 * x6)) else py (jZ (max (cl (aC x2 x0) (aB x3 x1) (aC x4 x0) (aB x5 x1)) (i64.wrap (0 - cl (aC x2 x0) (aB x3 x1) (aC x4 x0) (aB x5 x1)))) (max (cl (aC x2 x0) (aB x3 x1) (aC x4 x0) (aB x5 x1)) (i64.wrap (0 - cl (aC x2 x0) (aB x3 x1) (aC x4 x0) (aB x5 x1))))) (ke (max (cl (aC x2 x0) (aB x3 x1) (aC x4 x0) (aB x5 x1)) (i64.wrap (0 - cl (aC x2 x0) (aB x3 x1) (aC x4 x0) (aB x5 x1)))) (max (cl (aC x2 x0) (aB x3 x1) (aC x4 x0) (aB x5 x1)) (i64.wrap (0 - cl (aC x2 x0) (aB x3 x1) (aC x4 x0) (aB x5 x1))))) (jZ (i64.wrap (x6 * x6)) (dn (aC x2 x0) (aB x3 x1) (aC x2 x0) (aB x3 x1))) (ke (i64.wrap (x6 * x6)) (dn (aC x2 x0) (aB x3 x1) (aC x2 x0) (aB x3 x1)))
def xM (x0 x1 x2 x3 x4 x5 x6 : Int) : V := .bool (gR x0 x1 x2 x3 x4 x5 x6)
theorem D8 (x0 x1 x2 x3 x4 x5 x6 : Int) : evR noE (Dt x0 x1 x2 x3 x4 x5 x6) (xM x0 x1 x2 x3 x4 x5 x6) := ao (evObt (ao (evObt (ao (evObt (ao (evObt (aL (fun h0 => ao (evObt (evRet (by unfold xM gR; try rw [h0]; rfl)))) (fun h0 => aL (fun h1 => ao (evObt (ao (evObt (evRet (by unfold xM gR; try rw [h0]; try rw [h1]; rfl)))))) (fun h1 => ao (evObt (ao (evObt (ao (evObt (ao (evObt (evRet (by unfold xM gR; try rw [h0]; try rw [h1]; rfl)))))))))))))))))))
def uD : aI := mkC [.agg tp4, .agg tp2, .int .i64] (fun _ => True) fun
 | [.agg [.int _ x0, .int _ x1, .int _ x2, .int _ x3], .agg [.int _ x4, .int _ x5], .int _ x6] => xM x0 x1 x2 x3 x4 x5 x6
 | _ => .any
theorem pD : (vP uD).Ok Tryz.prog 103 := mkE wb Tryz.func103 (by kernel_rfl) fun ds hp => rf0 (A0 ..) (D8 _ _ _ _ _ _ _)
def DG (x0 : Int) : RT Empty := .obc (.obt (.ret (V.bool (be x0 (-100000) 100000))))
theorem Ce (x0 : Int) : Fit noD (aY JJ zi u0 GC [vi x0]) (DG x0) := ⟨by kernel_rfl, by kernel_rfl⟩
def pw (x0 : Int) : Bool := be x0 (-100000) 100000
def AW (x0 : Int) : V := .bool (pw x0)
theorem Dq (x0 : Int) : evR noE (DG x0) (AW x0) := ao (evObt (evRet (by unfold AW pw; rfl)))
def vl : aI := mkC tp1 (fun _ => True) fun
 | [.int _ x0] => AW x0
 | _ => .any
theorem pU : (vP vl).Ok Tryz.prog 100 := mkE wb Tryz.func100 (by kernel_rfl) fun ds hp => rf0 (Ce ..) (Dq _)
def sk : bc := (103, .con uD) :: (100, .con vl) :: zi
theorem pF : aX Tryz.prog eqs its sk := .con pD (.con pU (wb))
def DK (s0 : ByteArray) (x1 : Int) (n2 : Nat) (f2 : FnV) (x4 : Int) (s5 : ByteArray) (x6 : Int) (n7 : Nat) (f7 : FnV) (x9 : Int) : RT Empty := .ret (V.bool (s0.toList == s5.toList))
theorem Bd (s0 : ByteArray) (x1 : Int) (n2 : Nat) (f2 : FnV) (x4 : Int) (s5 : ByteArray) (x6 : Int) (n7 : Nat) (f7 : FnV) (x9 : Int) : Fit noD (aY JJ sk u0 H7 [V.agg [V.str s0, vi x1, V.sl n2 (elV tp2 f2), vi x4], V.pd [V.str s5, vi x6, V.sl n7 (elV tp2 f7), vi x9]]) (DK s0 x1 n2 f2 x4 s5 x6 n7 f7 x9) := ⟨by kernel_rfl, by kernel_rfl⟩
def pm (s0 : ByteArray) (s5 : ByteArray) : Bool := s0.toList == s5.toList
def BI (s0 : ByteArray) (x1 : Int) (n2 : Nat) (f2 : FnV) (x4 : Int) (s5 : ByteArray) (x6 : Int) (n7 : Nat) (f7 : FnV) (x9 : Int) : V := .bool (pm s0 s5)
theorem Ei (s0 : ByteArray) (x1 : Int) (n2 : Nat) (f2 : FnV) (x4 : Int) (s5 : ByteArray) (x6 : Int) (n7 : Nat) (f7 : FnV) (x9 : Int) : evR noE (DK s0 x1 n2 f2 x4 s5 x6 n7 f7 x9) (BI s0 x1 n2 f2 x4 s5 x6 n7 f7 x9) := evRet (by unfold BI pm; rfl)
def uF : aI := mkC [.agg tyR, .pd tyR] (fun _ => True) fun
 | [.agg [.str s0, .int _ x1, .sl n2 f2, .int _ x4], .pd [.str s5, .int _ x6, .sl n7 f7, .int _ x9]] => BI s0 x1 n2 f2 x4 s5 x6 n7 f7 x9
 | _ => .any
theorem qn : (vP uF).Ok Tryz.prog 112 := mkE pF Tryz.func112 (by kernel_rfl) fun ds hp => rf0 (Bd ..) (Ei _ _ _ _ _ _ _ _ _ _)
def FM (x0 x1 x2 x3 : Int) : RT Empty := .obc (.obt (.obi (.obi (.obi (.br (!be x1 1 1000) (.ob (!be x1 1 1000) (.ob (!be x1 1 1000) (.obc (.obt (.obi (.br (!be x0 0 (i64.wrap (x1 - 1))) (.ob (!be x0 0 (i64.wrap (x1 - 1))) (.obc (.obt (.obi (.obi (.obi (.br (!be x3 1 1000) (.ob (!be x3 1 1000) (.ob (!be x3 1 1000) (.obc (.obt (.ret (V.bool (be x2 0 (i64.wrap (x3 - 1))))))))) (.ret (V.kb true))))))))) (.ret (V.kb true)))))))) (.ret (V.kb true)))))))
theorem Bp (x0 x1 x2 x3 : Int) : Fit noD (aY JJ sk u0 GE [V.agg [vi x0, vi x1, vi x2, vi x3]]) (FM x0 x1 x2 x3) := ⟨by kernel_rfl, by kernel_rfl⟩
def iT (x0 x1 x2 x3 : Int) : Bool := bif !be x1 1 1000 then bif !be x0 0 (i64.wrap (x1 - 1)) then bif !be x3 1 1000 then be x2 0 (i64.wrap (x3 - 1)) else true else true else true
def u4 (x0 x1 x2 x3 : Int) : V := .bool (iT x0 x1 x2 x3)
theorem EA (x0 x1 x2 x3 : Int) : evR noE (FM x0 x1 x2 x3) (u4 x0 x1 x2 x3) := ao (evObt (ak (ak (ak (aL (fun h0 => aD (by first | assumption | (fail)) (aD (by first | assumption | (fail)) (ao (evObt (ak (aL (fun h1 => aD (by first | assumption | (fail)) (ao (evObt (ak (ak (ak (aL (fun h2 => aD (by first | assumption | (fail)) (aD (by first | assumption | (fail)) (ao (evObt (evRet (by unfold u4 iT; try rw [h0]; try rw [h1]; try rw [h2]; rfl)))))) (fun h2 => evRet (by unfold u4 iT; try rw [h0]; try rw [h1]; try rw [h2]; rfl))))))))) (fun h1 => evRet (by unfold u4 iT; try rw [h0]; try rw [h1]; rfl)))))))) (fun h0 => evRet (by unfold u4 iT; try rw [h0]; rfl)))))))
def uV : aI := mkC [.agg tp4] (fun _ => True) fun
 | [.agg [.int _ x0, .int _ x1, .int _ x2, .int _ x3]] => u4 x0 x1 x2 x3
 | _ => .any
theorem pI : (vP uV).Ok Tryz.prog 118 := mkE pF Tryz.func118 (by kernel_rfl) fun ds hp => rf0 (Bp ..) (EA _ _ _ _)
def DP (s0 : ByteArray) (x1 x2 x3 x4 x5 : Int) (s6 : ByteArray) (x7 x8 x9 x10 x11 : Int) : RT Empty := .ret (V.bool (s0.toList == s6.toList))
theorem AX (s0 : ByteArray) (x1 x2 x3 x4 x5 : Int) (s6 : ByteArray) (x7 x8 x9 x10 x11 : Int) : Fit noD (aY JJ sk u0 GA [V.agg [V.str s0, vi x1, vi x2, vi x3, vi x4, vi x5], V.pd [V.str s6, vi x7, vi x8, vi x9, vi x10, vi x11]]) (DP s0 x1 x2 x3 x4 x5 s6 x7 x8 x9 x10 x11) := ⟨by kernel_rfl, by kernel_rfl⟩
def o0 (s0 : ByteArray) (s6 : ByteArray) : Bool := s0.toList == s6.toList
def Bg (s0 : ByteArray) (x1 x2 x3 x4 x5 : Int) (s6 : ByteArray) (x7 x8 x9 x10 x11 : Int) : V := .bool (o0 s0 s6)
theorem Fk (s0 : ByteArray) (x1 x2 x3 x4 x5 : Int) (s6 : ByteArray) (x7 x8 x9 x10 x11 : Int) : evR noE (DP s0 x1 x2 x3 x4 x5 s6 x7 x8 x9 x10 x11) (Bg s0 x1 x2 x3 x4 x5 s6 x7 x8 x9 x10 x11) := evRet (by unfold Bg o0; rfl)
def uA : aI := mkC [.agg tyC, .pd tyC] (fun _ => True) fun
 | [.agg [.str s0, .int _ x1, .int _ x2, .int _ x3, .int _ x4, .int _ x5], .pd [.str s6, .int _ x7, .int _ x8, .int _ x9, .int _ x10, .int _ x11]] => Bg s0 x1 x2 x3 x4 x5 s6 x7 x8 x9 x10 x11
 | _ => .any
theorem qx : (vP uA).Ok Tryz.prog 120 := mkE pF Tryz.func120 (by kernel_rfl) fun ds hp => rf0 (AX ..) (Fk _ _ _ _ _ _ _ _ _ _ _ _)
def F51 (n0 : Nat) (f0 : FnV) : Bool := gH n0 fun i => lV (jv0 (f0 i)) (-100000) 100000
inductive qy where
 | L0 (ia0 : Int)
def A8 (n0 : Nat) (f0 : FnV) : qy -> Env × List O × Option Ex
 | .L0 ia0 => ([(8, vi ia0), (7, vi (↑n0 : Int)), (6, V.sl n0 (elV tp1 f0)), (4, vi 0), (0, V.sl n0 (elV tp1 f0)), (1, V.fn 100 [] [])], [], none)
def Ec : qy -> JJ
 | .L0 ia0 => (0, [])
def An (n0 : Nat) (f0 : FnV) : T (bQ JJ) := aY JJ sk u0 Gs [V.sl n0 (elV tp1 f0), V.fn 100 [] []]
def tA (n0 : Nat) (f0 : FnV) (cx : List Cx) : Lp JJ := lpT (atT (An n0 f0) [])
def Fh (n0 : Nat) (f0 : FnV) : JJ -> Lp JJ
 | (0, cx) => tA n0 f0 cx
 | (_, cx) => tA n0 f0 cx
def Gn (n0 : Nat) (f0 : FnV) : LD JJ qy := ⟨Ec, Fh n0 f0, A8 n0 f0⟩
def xX (n0 : Nat) (f0 : FnV) : qy -> RT qy
 | .L0 ia0 => .br (decide (ia0 < (↑n0 : Int))) (.ob (decide (0 <= ia0 /\ ia0 < (↑n0 : Int))) (.obc (.obt (.br (pw (jv0 (f0 ia0.toNat))) (.ret (vi ia0)) (.next [] (qy.L0 (i64.wrap (ia0 + 1))) []))))) (.ret (vi (-1)))
def A2 (n0 : Nat) (f0 : FnV) : RT qy := .asm (true = true -> n0 <= 9223372036854775807) (.enter [] (qy.L0 (0)) [])
theorem BB (n0 : Nat) (f0 : FnV) : iC sk u0 (Gn n0 f0) (An n0 f0) (A2 n0 f0) (xX n0 f0) := ⟨⟨by kernel_rfl, by kernel_rfl⟩, fun s => by cases s <;> exact ⟨by kernel_rfl, by kernel_rfl⟩⟩
def wm (n0 : Nat) (f0 : FnV) : Int   := idx n0 fun ii => pw (jv0 (f0 ii))
theorem y8 (n0 : Nat) (f0 : FnV) : evR (Ev (xX n0 f0)) (A2 n0 f0) (.int .i64 (wm n0 f0)) := da fun hn => bo (j6 hn fun i => rfl)
theorem Dz (n0 : Nat) (f0 : FnV) : evR (Ev (xX n0 f0)) (A2 n0 f0) (.int .i64 (wm n0 (elV tp1 f0))) := y8 n0 f0
def vx : aI := mkC [.sl tp1, .fn 100 [] []] (fun _ => True) fun
 | [.sl n0 f0, .fn _ [] []] => .int .i64 (wm n0 f0)
 | _ => .any
theorem pC : (vP vx).Ok Tryz.prog 133 := mkE pF Tryz.func133 (by kernel_rfl) fun ds hp => rfs (BB ..) (Dz _ _)
def oN : bc := (112, .con uF) :: (118, .con uV) :: (120, .con uA) :: (133, .con vx) :: sk
theorem qK : aX Tryz.prog eqs its oN := .con qn (.con pI (.con qx (.con pC (pF))))
def m99 (n0 : Nat) (f0 : FnV) : RT Empty := .obc (.obt (.ret (V.bool (decide (0 <= wm n0 (elV tp1 f0))))))
theorem Es (n0 : Nat) (f0 : FnV) : Fit noD (aY JJ oN u0 s99 [V.sl n0 (elV tp1 f0), V.fn 100 [] []]) (m99 n0 f0) := ⟨by kernel_rfl, by kernel_rfl⟩
def sJ (n0 : Nat) (f0 : FnV) : Bool := decide (0 <= wm n0 (elV tp1 f0))
def R99 (n0 : Nat) (f0 : FnV) : V := .bool (sJ n0 f0)
theorem Io (n0 : Nat) (f0 : FnV) : evR noE (m99 n0 f0) (R99 n0 f0) := ao (evObt (evRet (by unfold R99 sJ; rfl)))
def C99 : aI := mkC [.sl tp1, .fn 100 [] []] (fun _ => True) fun
 | [.sl n0 f0, .fn _ [] []] => R99 n0 f0
 | _ => .any
theorem v6 : (vP C99).Ok Tryz.prog 99 := mkE qK Tryz.func99 (by kernel_rfl) fun ds hp => rf0 (Es ..) (Io _ _)
inductive rp where
 | L0 (ia0 : Int)
def Ct (n0 : Nat) (f0 : FnV) (s2 : ByteArray) (x3 : Int) (n4 : Nat) (f4 : FnV) (x6 : Int) : rp -> Env × List O × Option Ex
 | .L0 ia0 => ([(8, vi ia0), (7, vi (↑n0 : Int)), (6, V.sl n0 (elV tyR f0)), (4, vi 0), (0, V.sl n0 (elV tyR f0)), (1, V.fn 112 [] [V.pd [V.str s2, vi x3, V.sl n4 (elV tp2 f4), vi x6]])], [], none)
def FZ : rp -> JJ
 | .L0 ia0 => (0, [])
def AA (n0 : Nat) (f0 : FnV) (s2 : ByteArray) (x3 : Int) (n4 : Nat) (f4 : FnV) (x6 : Int) : T (bQ JJ) := aY JJ oN u0 Fg [V.sl n0 (elV tyR f0), V.fn 112 [] [V.pd [V.str s2, vi x3, V.sl n4 (elV tp2 f4), vi x6]]]
def sU (n0 : Nat) (f0 : FnV) (s2 : ByteArray) (x3 : Int) (n4 : Nat) (f4 : FnV) (x6 : Int) (cx : List Cx) : Lp JJ := lpT (atT (AA n0 f0 s2 x3 n4 f4 x6) [])
def Dk (n0 : Nat) (f0 : FnV) (s2 : ByteArray) (x3 : Int) (n4 : Nat) (f4 : FnV) (x6 : Int) : JJ -> Lp JJ
 | (0, cx) => sU n0 f0 s2 x3 n4 f4 x6 cx
 | (_, cx) => sU n0 f0 s2 x3 n4 f4 x6 cx
def G4 (n0 : Nat) (f0 : FnV) (s2 : ByteArray) (x3 : Int) (n4 : Nat) (f4 : FnV) (x6 : Int) : LD JJ rp := ⟨FZ, Dk n0 f0 s2 x3 n4 f4 x6, Ct n0 f0 s2 x3 n4 f4 x6⟩
def v7 (n0 : Nat) (f0 : FnV) (s2 : ByteArray) (x3 : Int) (n4 : Nat) (f4 : FnV) (x6 : Int) : rp -> RT rp
 | .L0 ia0 => .br (decide (ia0 < (↑n0 : Int))) (.ob (decide (0 <= ia0 /\ ia0 < (↑n0 : Int))) (.obc (.obt (.br (pm (sv (hdV (f0 ia0.toNat))) s2) (.ret (vi ia0)) (.next [] (rp.L0 (i64.wrap (ia0 + 1))) []))))) (.ret (vi (-1)))
def Cz (n0 : Nat) (f0 : FnV) (s2 : ByteArray) (x3 : Int) (n4 : Nat) (f4 : FnV) (x6 : Int) : RT rp := .asm (true = true -> n0 <= 9223372036854775807) (.enter [] (rp.L0 (0)) [])
theorem BJ (n0 : Nat) (f0 : FnV) (s2 : ByteArray) (x3 : Int) (n4 : Nat) (f4 : FnV) (x6 : Int) : iC oN u0 (G4 n0 f0 s2 x3 n4 f4 x6) (AA n0 f0 s2 x3 n4 f4 x6) (Cz n0 f0 s2 x3 n4 f4 x6) (v7 n0 f0 s2 x3 n4 f4 x6) := ⟨⟨by kernel_rfl, by kernel_rfl⟩, fun s => by cases s <;> exact ⟨by kernel_rfl, by kernel_rfl⟩⟩
def wu (n0 : Nat) (f0 : FnV) (s2 : ByteArray) : Int   := idx n0 fun ii => pm (sv (hdV (f0 ii))) s2
theorem zo (n0 : Nat) (f0 : FnV) (s2 : ByteArray) (x3 : Int) (n4 : Nat) (f4 : FnV) (x6 : Int) : evR (Ev (v7 n0 f0 s2 x3 n4 f4 x6)) (Cz n0 f0 s2 x3 n4 f4 x6) (.int .i64 (wu n0 f0 s2)) := da fun hn => bo (j6 hn fun i => rfl)
theorem C9 (n0 : Nat) (f0 : FnV) (s2 : ByteArray) (x3 : Int) (n4 : Nat) (f4 : FnV) (x6 : Int) : evR (Ev (v7 n0 f0 s2 x3 n4 f4 x6)) (Cz n0 f0 s2 x3 n4 f4 x6) (.int .i64 (wu n0 (elV tyR f0) s2)) := zo n0 f0 s2 x3 n4 f4 x6
def xQ : aI := mkC [.sl tyR, .fn 112 [] [.pd tyR]] (fun _ => True) fun
 | [.sl n0 f0, .fn _ [] [.pd [.str s2, .int _ x3, .sl n4 f4, .int _ x6]]] => .int .i64 (wu n0 f0 s2)
 | _ => .any
theorem uk : (vP xQ).Ok Tryz.prog 129 := mkE qK Tryz.func129 (by kernel_rfl) fun ds hp => rfs (BJ ..) (C9 _ _ _ _ _ _ _)
inductive pE where
 | L0 (ia0 : Int)
def Bv (n0 : Nat) (f0 : FnV) : pE -> Env × List O × Option Ex
 | .L0 ia0 => ([(8, vi ia0), (7, vi (↑n0 : Int)), (6, V.sl n0 (elV tp4 f0)), (4, vi 0), (0, V.sl n0 (elV tp4 f0)), (1, V.fn 118 [] [])], [], none)
def FN : pE -> JJ
 | .L0 ia0 => (0, [])
def Ap (n0 : Nat) (f0 : FnV) : T (bQ JJ) := aY JJ oN u0 Gv [V.sl n0 (elV tp4 f0), V.fn 118 [] []]
def sW (n0 : Nat) (f0 : FnV) (cx : List Cx) : Lp JJ := lpT (atT (Ap n0 f0) [])
def Dc (n0 : Nat) (f0 : FnV) : JJ -> Lp JJ
 | (0, cx) => sW n0 f0 cx
 | (_, cx) => sW n0 f0 cx
def GJ (n0 : Nat) (f0 : FnV) : LD JJ pE := ⟨FN, Dc n0 f0, Bv n0 f0⟩
def yt (n0 : Nat) (f0 : FnV) : pE -> RT pE
 | .L0 ia0 => .br (decide (ia0 < (↑n0 : Int))) (.ob (decide (0 <= ia0 /\ ia0 < (↑n0 : Int))) (.obc (.obt (.br (iT (jv0 (f0 ia0.toNat)) (jv1 (f0 ia0.toNat)) (jv2 (f0 ia0.toNat)) (jv3 (f0 ia0.toNat))) (.ret (vi ia0)) (.next [] (pE.L0 (i64.wrap (ia0 + 1))) []))))) (.ret (vi (-1)))
def CD (n0 : Nat) (f0 : FnV) : RT pE := .asm (true = true -> n0 <= 9223372036854775807) (.enter [] (pE.L0 (0)) [])
theorem C1 (n0 : Nat) (f0 : FnV) : iC oN u0 (GJ n0 f0) (Ap n0 f0) (CD n0 f0) (yt n0 f0) := ⟨⟨by kernel_rfl, by kernel_rfl⟩, fun s => by cases s <;> exact ⟨by kernel_rfl, by kernel_rfl⟩⟩
def vW (n0 : Nat) (f0 : FnV) : Int   := idx n0 fun ii => iT (jv0 (f0 ii)) (jv1 (f0 ii)) (jv2 (f0 ii)) (jv3 (f0 ii))
theorem zV (n0 : Nat) (f0 : FnV) : evR (Ev (yt n0 f0)) (CD n0 f0) (.int .i64 (vW n0 f0)) := da fun hn => bo (j6 hn fun i => rfl)
theorem F0 (n0 : Nat) (f0 : FnV) : evR (Ev (yt n0 f0)) (CD n0 f0) (.int .i64 (vW n0 (elV tp4 f0))) := zV n0 f0
def u9 : aI := mkC [.sl tp4, .fn 118 [] []] (fun _ => True) fun
 | [.sl n0 f0, .fn _ [] []] => .int .i64 (vW n0 f0)
 | _ => .any
theorem rr : (vP u9).Ok Tryz.prog 148 := mkE qK Tryz.func148 (by kernel_rfl) fun ds hp => rfs (C1 ..) (F0 _ _)
inductive pO where
 | L0 (ia0 : Int)
def CE (n0 : Nat) (f0 : FnV) (s2 : ByteArray) (x3 x4 x5 x6 x7 : Int) : pO -> Env × List O × Option Ex
 | .L0 ia0 => ([(8, vi ia0), (7, vi (↑n0 : Int)), (6, V.sl n0 (elV tyC f0)), (4, vi 0), (0, V.sl n0 (elV tyC f0)), (1, V.fn 120 [] [V.pd [V.str s2, vi x3, vi x4, vi x5, vi x6, vi x7]])], [], none)
def D5 : pO -> JJ
 | .L0 ia0 => (0, [])
def AC (n0 : Nat) (f0 : FnV) (s2 : ByteArray) (x3 x4 x5 x6 x7 : Int) : T (bQ JJ) := aY JJ oN u0 HT [V.sl n0 (elV tyC f0), V.fn 120 [] [V.pd [V.str s2, vi x3, vi x4, vi x5, vi x6, vi x7]]]
def tH (n0 : Nat) (f0 : FnV) (s2 : ByteArray) (x3 x4 x5 x6 x7 : Int) (cx : List Cx) : Lp JJ := lpT (atT (AC n0 f0 s2 x3 x4 x5 x6 x7) [])
def F2 (n0 : Nat) (f0 : FnV) (s2 : ByteArray) (x3 x4 x5 x6 x7 : Int) : JJ -> Lp JJ
 | (0, cx) => tH n0 f0 s2 x3 x4 x5 x6 x7 cx
 | (_, cx) => tH n0 f0 s2 x3 x4 x5 x6 x7 cx
def Gh (n0 : Nat) (f0 : FnV) (s2 : ByteArray) (x3 x4 x5 x6 x7 : Int) : LD JJ pO := ⟨D5, F2 n0 f0 s2 x3 x4 x5 x6 x7, CE n0 f0 s2 x3 x4 x5 x6 x7⟩
def xj (n0 : Nat) (f0 : FnV) (s2 : ByteArray) (x3 x4 x5 x6 x7 : Int) : pO -> RT pO
 | .L0 ia0 => .br (decide (ia0 < (↑n0 : Int))) (.ob (decide (0 <= ia0 /\ ia0 < (↑n0 : Int))) (.obc (.obt (.br (o0 (sv (hdV (f0 ia0.toNat))) s2) (.ret (vi ia0)) (.next [] (pO.L0 (i64.wrap (ia0 + 1))) []))))) (.ret (vi (-1)))
def Cy (n0 : Nat) (f0 : FnV) (s2 : ByteArray) (x3 x4 x5 x6 x7 : Int) : RT pO := .asm (true = true -> n0 <= 9223372036854775807) (.enter [] (pO.L0 (0)) [])
theorem Cs (n0 : Nat) (f0 : FnV) (s2 : ByteArray) (x3 x4 x5 x6 x7 : Int) : iC oN u0 (Gh n0 f0 s2 x3 x4 x5 x6 x7) (AC n0 f0 s2 x3 x4 x5 x6 x7) (Cy n0 f0 s2 x3 x4 x5 x6 x7) (xj n0 f0 s2 x3 x4 x5 x6 x7) := ⟨⟨by kernel_rfl, by kernel_rfl⟩, fun s => by cases s <;> exact ⟨by kernel_rfl, by kernel_rfl⟩⟩
def xA (n0 : Nat) (f0 : FnV) (s2 : ByteArray) : Int   := idx n0 fun ii => o0 (sv (hdV (f0 ii))) s2
theorem zU (n0 : Nat) (f0 : FnV) (s2 : ByteArray) (x3 x4 x5 x6 x7 : Int) : evR (Ev (xj n0 f0 s2 x3 x4 x5 x6 x7)) (Cy n0 f0 s2 x3 x4 x5 x6 x7) (.int .i64 (xA n0 f0 s2)) := da fun hn => bo (j6 hn fun i => rfl)
theorem Fy (n0 : Nat) (f0 : FnV) (s2 : ByteArray) (x3 x4 x5 x6 x7 : Int) : evR (Ev (xj n0 f0 s2 x3 x4 x5 x6 x7)) (Cy n0 f0 s2 x3 x4 x5 x6 x7) (.int .i64 (xA n0 (elV tyC f0) s2)) := zU n0 f0 s2 x3 x4 x5 x6 x7
def vk : aI := mkC [.sl tyC, .fn 120 [] [.pd tyC]] (fun _ => True) fun
 | [.sl n0 f0, .fn _ [] [.pd [.str s2, .int _ x3, .int _ x4, .int _ x5, .int _ x6, .int _ x7]]] => .int .i64 (xA n0 f0 s2)
 | _ => .any
theorem qF : (vP vk).Ok Tryz.prog 149 := mkE qK Tryz.func149 (by kernel_rfl) fun ds hp => rfs (Cs ..) (Fy _ _ _ _ _ _ _ _)
def uK : bc := (99, .con C99) :: (129, .con xQ) :: (148, .con u9) :: (149, .con vk) :: oN
theorem qQ : aX Tryz.prog eqs its uK := .con v6 (.con uk (.con rr (.con qF (qK))))
def m45 (n0 : Nat) (f0 : FnV) : RT Empty := .obc (.obt (.ret (V.bool (sJ n0 (elV tp1 f0)))))
theorem EV (n0 : Nat) (f0 : FnV) : Fit noD (aY JJ uK u0 s45 [V.sl n0 (elV tp1 f0)]) (m45 n0 f0) := ⟨by kernel_rfl, by kernel_rfl⟩
def dl (n0 : Nat) (f0 : FnV) : Bool := sJ n0 (elV tp1 f0)
def R45 (n0 : Nat) (f0 : FnV) : V := .bool (dl n0 f0)
theorem Ik (n0 : Nat) (f0 : FnV) : evR noE (m45 n0 f0) (R45 n0 f0) := ao (evObt (evRet (by unfold R45 dl; rfl)))
def C45 : aI := mkC [.sl tp1] (fun _ => True) fun
 | [.sl n0 f0] => R45 n0 f0
 | _ => .any
theorem xt : (vP C45).Ok Tryz.prog 45 := mkE qQ Tryz.func45 (by kernel_rfl) fun ds hp => rf0 (EV ..) (Ik _ _)
def m90 (n0 : Nat) (f0 : FnV) (s2 : ByteArray) (x3 : Int) (n4 : Nat) (f4 : FnV) (x6 : Int) : RT Empty := .obc (.obt (.ret (V.bool (decide (0 <= wu n0 (elV tyR f0) s2)))))
theorem DY (n0 : Nat) (f0 : FnV) (s2 : ByteArray) (x3 : Int) (n4 : Nat) (f4 : FnV) (x6 : Int) : Fit noD (aY JJ uK u0 s90 [V.sl n0 (elV tyR f0), V.fn 112 [] [V.pd [V.str s2, vi x3, V.sl n4 (elV tp2 f4), vi x6]]]) (m90 n0 f0 s2 x3 n4 f4 x6) := ⟨by kernel_rfl, by kernel_rfl⟩
def ol (n0 : Nat) (f0 : FnV) (s2 : ByteArray) : Bool := decide (0 <= wu n0 (elV tyR f0) s2)
def R90 (n0 : Nat) (f0 : FnV) (s2 : ByteArray) (x3 : Int) (n4 : Nat) (f4 : FnV) (x6 : Int) : V := .bool (ol n0 f0 s2)
theorem Hf (n0 : Nat) (f0 : FnV) (s2 : ByteArray) (x3 : Int) (n4 : Nat) (f4 : FnV) (x6 : Int) : evR noE (m90 n0 f0 s2 x3 n4 f4 x6) (R90 n0 f0 s2 x3 n4 f4 x6) := ao (evObt (evRet (by unfold R90 ol; rfl)))
def C90 : aI := mkC [.sl tyR, .fn 112 [] [.pd tyR]] (fun _ => True) fun
 | [.sl n0 f0, .fn _ [] [.pd [.str s2, .int _ x3, .sl n4 f4, .int _ x6]]] => R90 n0 f0 s2 x3 n4 f4 x6
 | _ => .any
theorem zj : (vP C90).Ok Tryz.prog 90 := mkE qQ Tryz.func90 (by kernel_rfl) fun ds hp => rf0 (DY ..) (Hf _ _ _ _ _ _ _)
def E7 (n0 : Nat) (f0 : FnV) : RT Empty := .obc (.obt (.ret (V.bool (decide (0 <= vW n0 (elV tp4 f0))))))
theorem AZ (n0 : Nat) (f0 : FnV) : Fit noD (aY JJ uK u0 G8 [V.sl n0 (elV tp4 f0), V.fn 118 [] []]) (E7 n0 f0) := ⟨by kernel_rfl, by kernel_rfl⟩
def oS (n0 : Nat) (f0 : FnV) : Bool := decide (0 <= vW n0 (elV tp4 f0))
def Cr (n0 : Nat) (f0 : FnV) : V := .bool (oS n0 f0)
theorem Fc (n0 : Nat) (f0 : FnV) : evR noE (E7 n0 f0) (Cr n0 f0) := ao (evObt (evRet (by unfold Cr oS; rfl)))
def vp : aI := mkC [.sl tp4, .fn 118 [] []] (fun _ => True) fun
 | [.sl n0 f0, .fn _ [] []] => Cr n0 f0
 | _ => .any
theorem p9 : (vP vp).Ok Tryz.prog 119 := mkE qQ Tryz.func119 (by kernel_rfl) fun ds hp => rf0 (AZ ..) (Fc _ _)
def FO (n0 : Nat) (f0 : FnV) (s2 : ByteArray) (x3 x4 x5 x6 x7 : Int) : RT Empty := .obc (.obt (.ret (V.bool (decide (0 <= xA n0 (elV tyC f0) s2)))))
theorem Cf (n0 : Nat) (f0 : FnV) (s2 : ByteArray) (x3 x4 x5 x6 x7 : Int) : Fit noD (aY JJ uK u0 Ie [V.sl n0 (elV tyC f0), V.fn 120 [] [V.pd [V.str s2, vi x3, vi x4, vi x5, vi x6, vi x7]]]) (FO n0 f0 s2 x3 x4 x5 x6 x7) := ⟨by kernel_rfl, by kernel_rfl⟩
def pr (n0 : Nat) (f0 : FnV) (s2 : ByteArray) : Bool := decide (0 <= xA n0 (elV tyC f0) s2)
def CG (n0 : Nat) (f0 : FnV) (s2 : ByteArray) (x3 x4 x5 x6 x7 : Int) : V := .bool (pr n0 f0 s2)
theorem FA (n0 : Nat) (f0 : FnV) (s2 : ByteArray) (x3 x4 x5 x6 x7 : Int) : evR noE (FO n0 f0 s2 x3 x4 x5 x6 x7) (CG n0 f0 s2 x3 x4 x5 x6 x7) := ao (evObt (evRet (by unfold CG pr; rfl)))
def vu : aI := mkC [.sl tyC, .fn 120 [] [.pd tyC]] (fun _ => True) fun
 | [.sl n0 f0, .fn _ [] [.pd [.str s2, .int _ x3, .int _ x4, .int _ x5, .int _ x6, .int _ x7]]] => CG n0 f0 s2 x3 x4 x5 x6 x7
 | _ => .any
theorem qY : (vP vu).Ok Tryz.prog 121 := mkE qQ Tryz.func121 (by kernel_rfl) fun ds hp => rf0 (Cf ..) (FA _ _ _ _ _ _ _ _)
def uT : bc := (45, .con C45) :: (90, .con C90) :: (119, .con vp) :: (121, .con vu) :: uK
theorem re : aX Tryz.prog eqs its uT := .con xt (.con zj (.con p9 (.con qY (qQ))))
def D4 (x0 x1 : Int) : RT Empty := .obt (.obt (.obc (.obt (.ret (V.bool (dl 2 (elV tp1 (aV [vi x0, vi x1] 0 1))))))))
theorem B3 (x0 x1 : Int) : Fit noD (aY JJ uT u0 GG [V.agg [vi x0, vi x1]]) (D4 x0 x1) := ⟨by kernel_rfl, by kernel_rfl⟩
def pf (x0 x1 : Int) : Bool := dl 2 (elV tp1 (aV [vi x0, vi x1] 0 1))
def BE (x0 x1 : Int) : V := .bool (pf x0 x1)
theorem D0 (x0 x1 : Int) : evR noE (D4 x0 x1) (BE x0 x1) := evObt (evObt (ao (evObt (evRet (by unfold BE pf; rfl)))))
def vv : aI := mkC [.agg tp2] (fun _ => True) fun
 | [.agg [.int _ x0, .int _ x1]] => BE x0 x1
 | _ => .any
theorem q9 : (vP vv).Ok Tryz.prog 113 := mkE re Tryz.func113 (by kernel_rfl) fun ds hp => rf0 (B3 ..) (D0 _ _)
def m65 (n0 : Nat) (f0 : FnV) (x2 x3 x4 x5 x6 : Int) : RT Empty := .obc (.obt (.obi (.br (!dl 2 (elV tp1 (aV [vi x2, vi x3] 0 1))) (.ob (!dl 2 (elV tp1 (aV [vi x2, vi x3] 0 1))) (.obc (.obt (.obi (.obi (.obi (.br (!be x4 1 20000) (.ob (!be x4 1 20000) (.ob (!be x4 1 20000) (.obc (.obt (.obi (.br (!be x5 0 (i64.wrap (x6 - 1))) (.ob (!be x5 0 (i64.wrap (x6 - 1))) (.obc (.obt (.br (be x6 1 1000) (.ret (vi 7)) (.ret (vi 0)))))) (.ret (vi 7)))))))) (.ret (vi 7))))))))) (.ret (vi 7)))))
theorem FG (n0 : Nat) (f0 : FnV) (x2 x3 x4 x5 x6 : Int) : Fit noD (aY JJ uT u0 s65 [V.sl n0 (elV tyT f0), V.agg [vi x2, vi x3, vi x4, vi x5, vi x6]]) (m65 n0 f0 x2 x3 x4 x5 x6) := ⟨by kernel_rfl, by kernel_rfl⟩
def jj (x2 x3 x4 x5 x6 : Int) : Int := bif !dl 2 (elV tp1 (aV [vi x2, vi x3] 0 1)) then bif !be x4 1 20000 then bif !be x5 0 (i64.wrap (x6 - 1)) then bif be x6 1 1000 then 7 else 0 else 7 else 7 else 7
def R65 (n0 : Nat) (f0 : FnV) (x2 x3 x4 x5 x6 : Int) : V := .int i64 (jj x2 x3 x4 x5 x6)
theorem Ij (n0 : Nat) (f0 : FnV) (x2 x3 x4 x5 x6 : Int) : evR noE (m65 n0 f0 x2 x3 x4 x5 x6) (R65 n0 f0 x2 x3 x4 x5 x6) := ao (evObt (ak (aL (fun h0 => aD (by first | assumption | (fail)) (ao (evObt (ak (ak (ak (aL (fun h1 => aD (by first | assumption | (fail)) (aD (by first | assumption | (fail)) (ao (evObt (ak (aL (fun h2 => aD (by first | assumption | (fail)) (ao (evObt (aL (fun h3 => evRet (by unfold R65 jj; try rw [h0]; try rw [h1]; try rw [h2]; try rw [h3]; rfl)) (fun h3 => evRet (by unfold R65 jj; try rw [h0]; try rw [h1]; try rw [h2]; try rw [h3]; rfl)))))) (fun h2 => evRet (by unfold R65 jj; try rw [h0]; try rw [h1]; try rw [h2]; rfl)))))))) (fun h1 => evRet (by unfold R65 jj; try rw [h0]; try rw [h1]; rfl))))))))) (fun h0 => evRet (by unfold R65 jj; try rw [h0]; rfl)))))
def C65 : aI := mkC [.sl tyT, .agg tyT] (fun _ => True) fun
 | [.sl n0 f0, .agg [.int _ x2, .int _ x3, .int _ x4, .int _ x5, .int _ x6]] => R65 n0 f0 x2 x3 x4 x5 x6
 | _ => .any
theorem vX : (vP C65).Ok Tryz.prog 65 := mkE re Tryz.func65 (by kernel_rfl) fun ds hp => rf0 (FG ..) (Ij _ _ _ _ _ _ _)
def m67 (n0 : Nat) (f0 : FnV) (x2 x3 x4 x5 : Int) (n6 : Nat) (f6 : FnV) : RT Empty := .obt (.obt (.obt (.obt (.obc (.obt (.br (dl 4 (elV tp1 (aV [vi x2, vi x3, vi x4, vi x5] 0 1))) (.ret (vi 7)) (.br (x2 == x4 && (x3 == x5 && true)) (.ret (vi 2)) (.asm (true = true -> n6 <= 9223372036854775807) (.br (decide (6 < (↑n6 : Int))) (.ret (vi 3)) (.obc (.obt (.br (oS n6 (elV tp4 f6)) (.ret (vi 7)) (.ret (vi 0))))))))))))))
theorem Dg (n0 : Nat) (f0 : FnV) (x2 x3 x4 x5 : Int) (n6 : Nat) (f6 : FnV) : Fit noD (aY JJ uT u0 s67 [V.sl n0 (elV tyF f0), V.agg [vi x2, vi x3, vi x4, vi x5, V.sl n6 (elV tp4 f6)]]) (m67 n0 f0 x2 x3 x4 x5 n6 f6) := ⟨by kernel_rfl, by kernel_rfl⟩
def jk (x2 x3 x4 x5 : Int) (n6 : Nat) (f6 : FnV) : Int := bif dl 4 (elV tp1 (aV [vi x2, vi x3, vi x4, vi x5] 0 1)) then 7 else bif x2 == x4 && (x3 == x5 && true) then 2 else bif decide (6 < (↑n6 : Int)) then 3 else bif oS n6 (elV tp4 f6) then 7 else 0
def R67 (n0 : Nat) (f0 : FnV) (x2 x3 x4 x5 : Int) (n6 : Nat) (f6 : FnV) : V := .int i64 (jk x2 x3 x4 x5 n6 f6)
theorem Ig (n0 : Nat) (f0 : FnV) (x2 x3 x4 x5 : Int) (n6 : Nat) (f6 : FnV) : evR noE (m67 n0 f0 x2 x3 x4 x5 n6 f6) (R67 n0 f0 x2 x3 x4 x5 n6 f6) := evObt (evObt (evObt (evObt (ao (evObt (aL (fun h0 => evRet (by unfold R67 jk; try rw [h0]; rfl)) (fun h0 => aL (fun h1 => evRet (by unfold R67 jk; try rw [h0]; try rw [h1]; rfl)) (fun h1 => cB (fun a2 => aL (fun h2 => evRet (by unfold R67 jk; try rw [h0]; try rw [h1]; try rw [h2]; rfl)) (fun h2 => ao (evObt (aL (fun h3 => evRet (by unfold R67 jk; try rw [h0]; try rw [h1]; try rw [h2]; try rw [h3]; rfl)) (fun h3 => evRet (by unfold R67 jk; try rw [h0]; try rw [h1]; try rw [h2]; try rw [h3]; rfl))))))))))))))
def C67 : aI := mkC [.sl tyF, .agg tyF] (fun _ => True) fun
 | [.sl n0 f0, .agg [.int _ x2, .int _ x3, .int _ x4, .int _ x5, .sl n6 f6]] => R67 n0 f0 x2 x3 x4 x5 n6 f6
 | _ => .any
theorem wG : (vP C67).Ok Tryz.prog 67 := mkE re Tryz.func67 (by kernel_rfl) fun ds hp => rf0 (Dg ..) (Ig _ _ _ _ _ _ _ _)
def m53 (x0 x1 x2 x3 : Int) : RT Empty := .obc (.obt (.obi (.obi (.obi (.obi (.obi (.obi (.obi (.obi (.obi (.obi (.ret (V.bool (bif bif dl 4 (elV tp1 (aV [vi x0, vi x1, vi x2, vi x3] 0 1)) then true else decide (x2 < x0) then true else decide (x3 < x1)))))))))))))))
theorem EI (x0 x1 x2 x3 : Int) : Fit noD (aY JJ uT u0 s53 [V.agg [vi x0, vi x1, vi x2, vi x3]]) (m53 x0 x1 x2 x3) := ⟨by kernel_rfl, by kernel_rfl⟩
def rm (x0 x1 x2 x3 : Int) : Bool := bif bif dl 4 (elV tp1 (aV [vi x0, vi x1, vi x2, vi x3] 0 1)) then true else decide (x2 < x0) then true else decide (x3 < x1)
def R53 (x0 x1 x2 x3 : Int) : V := .bool (rm x0 x1 x2 x3)
theorem HI (x0 x1 x2 x3 : Int) : evR noE (m53 x0 x1 x2 x3) (R53 x0 x1 x2 x3) := ao (evObt (ak (ak (ak (ak (ak (ak (ak (ak (ak (ak (evRet (by unfold R53 rm; rfl)))))))))))))
def C53 : aI := mkC [.agg tp4] (fun _ => True) fun
 | [.agg [.int _ x0, .int _ x1, .int _ x2, .int _ x3]] => R53 x0 x1 x2 x3
 | _ => .any
theorem vN : (vP C53).Ok Tryz.prog 53 := mkE re Tryz.func53 (by kernel_rfl) fun ds hp => rf0 (EI ..) (HI _ _ _ _)
def Hq (s0 : ByteArray) (i : Nat) : Bool := bif !bif decide (97 <= ((s0.data.toList.getD i 0).toNat : Int)) then decide (((s0.data.toList.getD i 0).toNat : Int) <= 122) else false then bif (i : Int) == 0 then true else bif !bif decide (48 <= ((s0.data.toList.getD i 0).toNat : Int)) then decide (((s0.data.toList.getD i 0).toNat : Int) <= 57) else false then ((s0.data.toList.getD i 0).toNat : Int) != 45 else false else false
def D6 (s0 : ByteArray) : Bool := gH s0.size (fun i => !Hq s0 i) && bif decide (0 < (s0.size : Int)) then decide ((s0.size : Int) <= 24) else false
def Hm (l : List V) : Bool := bif bif bif bif bif decide (jv0 l < 0) then true else decide (jv1 l <= jv0 l) then true else decide (1000 < jv1 l) then true else decide (jv2 l < 0) then true else decide (jv3 l <= jv2 l) then true else decide (1000 < jv3 l)
def F72 (x0 x1 x2 x3 : Int) (n4 : Nat) (f4 : FnV) : Int := bif !F51 4 (elV tp1 (aV [V.int .i64 x0, V.int .i64 x1, V.int .i64 x2, V.int .i64 x3] 0 ((1 + 1 + 1 + 1 - 0) / 4))) then 7 else bif x0 == x2 && (x1 == x3 && true) then 2 else bif decide (6 < (n4 : Int)) then 3 else bif exB n4 (fun i => Hm (f4 i)) then 7 else 0
def r9 : bc := (113, .con vv) :: (65, .con C65) :: (67, .con C67) :: (53, .con C53) :: uT
theorem xl : aX Tryz.prog eqs its r9 := .con q9 (.con vX (.con wG (.con vN (re))))
inductive rb where
 | L0 (ia0 : Int)
def AS (n0 : Nat) (f0 : FnV) : rb -> Env × List O × Option Ex
 | .L0 ia0 => ([(8, vi ia0), (7, vi (↑n0 : Int)), (6, V.sl n0 (elV tp2 f0)), (4, vi 0), (0, V.sl n0 (elV tp2 f0)), (1, V.fn 113 [] [])], [], none)
def Ek : rb -> JJ
 | .L0 ia0 => (0, [])
def Az (n0 : Nat) (f0 : FnV) : T (bQ JJ) := aY JJ r9 u0 H6 [V.sl n0 (elV tp2 f0), V.fn 113 [] []]
def tm (n0 : Nat) (f0 : FnV) (cx : List Cx) : Lp JJ := lpT (atT (Az n0 f0) [])
def Dp (n0 : Nat) (f0 : FnV) : JJ -> Lp JJ
 | (0, cx) => tm n0 f0 cx
 | (_, cx) => tm n0 f0 cx
def Gk (n0 : Nat) (f0 : FnV) : LD JJ rb := ⟨Ek, Dp n0 f0, AS n0 f0⟩
def wl (n0 : Nat) (f0 : FnV) : rb -> RT rb
 | .L0 ia0 => .br (decide (ia0 < (↑n0 : Int))) (.ob (decide (0 <= ia0 /\ ia0 < (↑n0 : Int))) (.obc (.obt (.br (pf (jv0 (f0 ia0.toNat)) (jv1 (f0 ia0.toNat))) (.ret (vi ia0)) (.next [] (rb.L0 (i64.wrap (ia0 + 1))) []))))) (.ret (vi (-1)))
def Bk (n0 : Nat) (f0 : FnV) : RT rb := .asm (true = true -> n0 <= 9223372036854775807) (.enter [] (rb.L0 (0)) [])
theorem Cl (n0 : Nat) (f0 : FnV) : iC r9 u0 (Gk n0 f0) (Az n0 f0) (Bk n0 f0) (wl n0 f0) := ⟨⟨by kernel_rfl, by kernel_rfl⟩, fun s => by cases s <;> exact ⟨by kernel_rfl, by kernel_rfl⟩⟩
def vF (n0 : Nat) (f0 : FnV) : Int   := idx n0 fun ii => pf (jv0 (f0 ii)) (jv1 (f0 ii))
theorem zB (n0 : Nat) (f0 : FnV) : evR (Ev (wl n0 f0)) (Bk n0 f0) (.int .i64 (vF n0 f0)) := da fun hn => bo (j6 hn fun i => rfl)
theorem Fp (n0 : Nat) (f0 : FnV) : evR (Ev (wl n0 f0)) (Bk n0 f0) (.int .i64 (vF n0 (elV tp2 f0))) := zB n0 f0
def xH : aI := mkC [.sl tp2, .fn 113 [] []] (fun _ => True) fun
 | [.sl n0 f0, .fn _ [] []] => .int .i64 (vF n0 f0)
 | _ => .any
theorem sD : (vP xH).Ok Tryz.prog 147 := mkE xl Tryz.func147 (by kernel_rfl) fun ds hp => rfs (Cl ..) (Fp _ _)
inductive S64 where
 | L0 (ia0 : Int)
def Eg (n0 : Nat) (f0 : FnV) : S64 -> Env × List O × Option Ex
 | .L0 ia0 => ([(11, vi ia0), (10, vi (↑n0 : Int)), (9, V.sl n0 (elV tyT f0)), (5, vi 0), (4, vi 0), (0, V.sl n0 (elV tyT f0)), (1, V.fn 65 [] [])], [], none)
def Ha : S64 -> JJ
 | .L0 ia0 => (0, [])
def Ge (n0 : Nat) (f0 : FnV) : T (bQ JJ) := aY JJ r9 u0 s64 [V.sl n0 (elV tyT f0), V.fn 65 [] []]
def xV (n0 : Nat) (f0 : FnV) (cx : List Cx) : Lp JJ := lpT (atT (Ge n0 f0) [])
def Gw (n0 : Nat) (f0 : FnV) : JJ -> Lp JJ
 | (0, cx) => xV n0 f0 cx
 | (_, cx) => xV n0 f0 cx
def D64 (n0 : Nat) (f0 : FnV) : LD JJ S64 := ⟨Ha, Gw n0 f0, Eg n0 f0⟩
def Bx (n0 : Nat) (f0 : FnV) : S64 -> RT S64
 | .L0 ia0 => .br (decide (ia0 < (↑n0 : Int))) (.ob (decide (0 <= ia0 /\ ia0 < (↑n0 : Int))) (.ob (decide (0 <= ia0 /\ ia0 <= (↑n0 : Int))) (.obc (.obt (.br (jj (jv0 (f0 ia0.toNat)) (jv1 (f0 ia0.toNat)) (jv2 (f0 ia0.toNat)) (jv3 (f0 ia0.toNat)) (jv4 (f0 ia0.toNat)) != 0) (.ret (V.tup [vi ia0, vi (jj (jv0 (f0 ia0.toNat)) (jv1 (f0 ia0.toNat)) (jv2 (f0 ia0.toNat)) (jv3 (f0 ia0.toNat)) (jv4 (f0 ia0.toNat)))])) (.next [] (S64.L0 (i64.wrap (ia0 + 1))) [])))))) (.ret (V.tup [vi 0, vi 0]))
def m64 (n0 : Nat) (f0 : FnV) : RT S64 := .asm (true = true -> n0 <= 9223372036854775807) (.enter [] (S64.L0 (0)) [])
theorem EL (n0 : Nat) (f0 : FnV) : iC r9 u0 (D64 n0 f0) (Ge n0 f0) (m64 n0 f0) (Bx n0 f0) := ⟨⟨by kernel_rfl, by kernel_rfl⟩, fun s => by cases s <;> exact ⟨by kernel_rfl, by kernel_rfl⟩⟩
def c64 (n0 : Nat) (f0 : FnV) (ii : Nat) : Int := (jj (jv0 (f0 ii)) (jv1 (f0 ii)) (jv2 (f0 ii)) (jv3 (f0 ii)) (jv4 (f0 ii)))
def qc (n0 : Nat) (f0 : FnV) : Int := eT n0 (c64 n0 f0)
def jJ (n0 : Nat) (f0 : FnV) : Int := ef n0 (c64 n0 f0)
theorem BD (n0 : Nat) (f0 : FnV) : evR (Ev (Bx n0 f0)) (m64 n0 f0) (.tup [.int .i64 (qc n0 f0), .int .i64 (jJ n0 f0)]) := da fun hn => bo (jV (Q := fun _ => True) (fun _ x => .obc (.obt x)) (fun i x r h hx => ao (evObt hx)) (fun _ _ => rfl) hn (fun _ _ => trivial) fun i => rfl)
theorem HO (n0 : Nat) (f0 : FnV) : evR (Ev (Bx n0 f0)) (m64 n0 f0) (.tup [.int .i64 (qc n0 (elV tyT f0)), .int .i64 (jJ n0 (elV tyT f0))]) := BD n0 f0
def C64 : aI := mkC [.sl tyT, .fn 65 [] []] (fun _ => True) fun
 | [.sl n0 f0, .fn _ [] []] => .tup [.int .i64 (qc n0 f0), .int .i64 (jJ n0 f0)]
 | _ => .any
theorem yK : (vP C64).Ok Tryz.prog 64 := mkE xl Tryz.func64 (by kernel_rfl) fun ds hp => rfs (EL ..) (HO _ _)
inductive S66 where
 | L0 (ia0 : Int)
def FV (n0 : Nat) (f0 : FnV) : S66 -> Env × List O × Option Ex
 | .L0 ia0 => ([(11, vi ia0), (10, vi (↑n0 : Int)), (9, V.sl n0 (elV tyF f0)), (5, vi 0), (4, vi 0), (0, V.sl n0 (elV tyF f0)), (1, V.fn 67 [] [])], [], none)
def HY : S66 -> JJ
 | .L0 ia0 => (0, [])
def Fv (n0 : Nat) (f0 : FnV) : T (bQ JJ) := aY JJ r9 u0 s66 [V.sl n0 (elV tyF f0), V.fn 67 [] []]
def yx (n0 : Nat) (f0 : FnV) (cx : List Cx) : Lp JJ := lpT (atT (Fv n0 f0) [])
def GO (n0 : Nat) (f0 : FnV) : JJ -> Lp JJ
 | (0, cx) => yx n0 f0 cx
 | (_, cx) => yx n0 f0 cx
def D66 (n0 : Nat) (f0 : FnV) : LD JJ S66 := ⟨HY, GO n0 f0, FV n0 f0⟩
def CL (n0 : Nat) (f0 : FnV) : S66 -> RT S66
 | .L0 ia0 => .br (decide (ia0 < (↑n0 : Int))) (.ob (decide (0 <= ia0 /\ ia0 < (↑n0 : Int))) (.ob (decide (0 <= ia0 /\ ia0 <= (↑n0 : Int))) (.obc (.obt (.br ((jk (jv0 (f0 ia0.toNat)) (jv1 (f0 ia0.toNat)) (jv2 (f0 ia0.toNat)) (jv3 (f0 ia0.toNat)) (cz (hdV (tlV (tlV (tlV (tlV (f0 ia0.toNat))))))) fun i => al tp4 (atV (hdV (tlV (tlV (tlV (tlV (f0 ia0.toNat)))))) i)) != 0) (.ret (V.tup [vi ia0, vi (jk (jv0 (f0 ia0.toNat)) (jv1 (f0 ia0.toNat)) (jv2 (f0 ia0.toNat)) (jv3 (f0 ia0.toNat)) (cz (hdV (tlV (tlV (tlV (tlV (f0 ia0.toNat))))))) fun i => al tp4 (atV (hdV (tlV (tlV (tlV (tlV (f0 ia0.toNat)))))) i))])) (.next [] (S66.L0 (i64.wrap (ia0 + 1))) [])))))) (.ret (V.tup [vi 0, vi 0]))
def m66 (n0 : Nat) (f0 : FnV) : RT S66 := .asm (true = true -> n0 <= 9223372036854775807) (.enter [] (S66.L0 (0)) [])
theorem Fd (n0 : Nat) (f0 : FnV) : iC r9 u0 (D66 n0 f0) (Fv n0 f0) (m66 n0 f0) (CL n0 f0) := ⟨⟨by kernel_rfl, by kernel_rfl⟩, fun s => by cases s <;> exact ⟨by kernel_rfl, by kernel_rfl⟩⟩
def c66 (n0 : Nat) (f0 : FnV) (ii : Nat) : Int := (jk (jv0 (f0 ii)) (jv1 (f0 ii)) (jv2 (f0 ii)) (jv3 (f0 ii)) (cz (hdV (tlV (tlV (tlV (tlV (f0 ii))))))) fun i => al tp4 (atV (hdV (tlV (tlV (tlV (tlV (f0 ii)))))) i))
def pX (n0 : Nat) (f0 : FnV) : Int := eT n0 (c66 n0 f0)
def jH (n0 : Nat) (f0 : FnV) : Int := ef n0 (c66 n0 f0)
theorem Cu (n0 : Nat) (f0 : FnV) : evR (Ev (CL n0 f0)) (m66 n0 f0) (.tup [.int .i64 (pX n0 f0), .int .i64 (jH n0 f0)]) := da fun hn => bo (jV (Q := fun _ => True) (fun _ x => .obc (.obt x)) (fun i x r h hx => ao (evObt hx)) (fun _ _ => rfl) hn (fun _ _ => trivial) fun i => rfl)
theorem Gp (n0 : Nat) (f0 : FnV) : evR (Ev (CL n0 f0)) (m66 n0 f0) (.tup [.int .i64 (pX n0 (elV tyF f0)), .int .i64 (jH n0 (elV tyF f0))]) := Cu n0 f0
def C66 : aI := mkC [.sl tyF, .fn 67 [] []] (fun _ => True) fun
 | [.sl n0 f0, .fn _ [] []] => .tup [.int .i64 (pX n0 f0), .int .i64 (jH n0 f0)]
 | _ => .any
theorem yL : (vP C66).Ok Tryz.prog 66 := mkE xl Tryz.func66 (by kernel_rfl) fun ds hp => rfs (Fd ..) (Gp _ _)
end Go.Dx
namespace Go.Proofs
open Go.Shelf
def Tryz.lays160_ren : Go.Shelf.Ren := ⟨fun | 160 => 146 | 232 => 165 | 231 => 164 | 227 => 166 | 234 => 168 | 233 => 167 | 236 => 170 | 235 => 169 | 228 => 185 | 271 => 188 | 151 => 187 | 197 => 186 | 120 => 195 | 152 => 194 | 260 => 193 | 137 => 197 | 119 => 198 | 224 => 199 | 225 => 200 | 217 => 201 | 266 => 202 | n => n, fun | 9 => 9 | 4 => 4 | 3 => 3 | 5 => 5 | 117 => 228 | 116 => 227 | 0 => 0 | 124 => 231 | 21 => 21 | 105 => 245 | 46 => 188 | 119 => 254 | 139 => 257 | 138 => 256 | n => n, fun | 3 => 0 | 4 => 1 | n => n⟩
theorem Tryz.lays160 : Go.Proofs.Lays.n160 Tryz.prog Tryz.lays160_ren := {
 mixed := by kernel_rfl
 f119 := Tryz.func198.trans (congrArg some (by kernel_rfl))
 f120 := Tryz.func195.trans (congrArg some (by kernel_rfl))
 f137 := Tryz.func197.trans (congrArg some (by kernel_rfl))
 f151 := Tryz.func187.trans (congrArg some (by kernel_rfl))
 f152 := Tryz.func194.trans (congrArg some (by kernel_rfl))
 f160 := Tryz.func146.trans (congrArg some (by kernel_rfl))
 f197 := Tryz.func186.trans (congrArg some (by kernel_rfl))
 f217 := Tryz.func201.trans (congrArg some (by kernel_rfl))
 f224 := Tryz.func199.trans (congrArg some (by kernel_rfl))
 f225 := Tryz.func200.trans (congrArg some (by kernel_rfl))
 f227 := Tryz.func166.trans (congrArg some (by kernel_rfl))
 f228 := Tryz.func185.trans (congrArg some (by kernel_rfl))
 f231 := Tryz.func164.trans (congrArg some (by kernel_rfl))
 f232 := Tryz.func165.trans (congrArg some (by kernel_rfl))
 f233 := Tryz.func167.trans (congrArg some (by kernel_rfl))
 f234 := Tryz.func168.trans (congrArg some (by kernel_rfl))
 f235 := Tryz.func169.trans (congrArg some (by kernel_rfl))
 f236 := Tryz.func170.trans (congrArg some (by kernel_rfl))
 f260 := Tryz.func193.trans (congrArg some (by kernel_rfl))
 f266 := Tryz.func202.trans (congrArg some (by kernel_rfl))
 f271 := Tryz.func188.trans (congrArg some (by kernel_rfl))
 t0 := Tryz.underlying0
 a0 := Tryz.isAgg0
 z0 := Tryz.sizeOf0
 v0 := Tryz.zeroValue0
 t3 := Tryz.underlying3
 a3 := Tryz.isAgg3
 z3 := Tryz.sizeOf3
 v3 := Tryz.zeroValue3
 t4 := Tryz.underlying4
 a4 := Tryz.isAgg4
 z4 := Tryz.sizeOf4
 v4 := Tryz.zeroValue4
 t5 := Tryz.underlying5
 a5 := Tryz.isAgg5
 z5 := Tryz.sizeOf5
 v5 := Tryz.zeroValue5
 t9 := Tryz.underlying9
 a9 := Tryz.isAgg9
 z9 := Tryz.sizeOf9
 v9 := Tryz.zeroValue9
 t21 := Tryz.underlying21
 a21 := Tryz.isAgg21
 z21 := Tryz.sizeOf21
 v21 := Tryz.zeroValue21
 t46 := Tryz.underlying188
 a46 := Tryz.isAgg188
 z46 := Tryz.sizeOf188
 v46 := Tryz.zeroValue188
 t105 := Tryz.underlying245
 a105 := Tryz.isAgg245
 z105 := Tryz.sizeOf245
 v105 := Tryz.zeroValue245
 t116 := Tryz.underlying227
 a116 := Tryz.isAgg227
 z116 := Tryz.sizeOf227
 t117 := Tryz.underlying228
 a117 := Tryz.isAgg228
 z117 := Tryz.sizeOf228
 v117 := Tryz.zeroValue228
 t119 := Tryz.underlying254
 a119 := Tryz.isAgg254
 z119 := Tryz.sizeOf254
 t124 := Tryz.underlying231
 a124 := Tryz.isAgg231
 z124 := Tryz.sizeOf231
 v124 := Tryz.zeroValue231
 t138 := Tryz.underlying256
 a138 := Tryz.isAgg256
 z138 := Tryz.sizeOf256
 v138 := Tryz.zeroValue256
 t139 := Tryz.underlying257
 a139 := Tryz.isAgg257
 z139 := Tryz.sizeOf257
 v139 := Tryz.zeroValue257
 g3 := by kernel_rfl
 g4 := by kernel_rfl }
end Go.Proofs
namespace Go.Dx
open Go.IntKind (i64 u64 u8)
open Go.Sx Go.Proofs Go.Shelf Go.RowKit
def yJ : ByteArray := ⟨#[97, 98, 99, 100, 101, 102, 103, 104, 105, 106, 107, 108, 109, 110, 111, 112, 113, 114, 115, 116, 117, 118, 119, 120, 121, 122, 48, 49, 50, 51, 52, 53, 54, 55, 56, 57, 45]⟩
def vt (s c : ByteArray) : ByteArray := ⟨(Lib.trimS s.data.toList c.data.toList).toArray⟩
def vz : aI := mkC [.str, .str] (fun
 | [.str s, .str c] => s.size <= 9223372036854775807 /\ c = yJ
 | _ => False) fun
 | [.str s, .str c] => .str (vt s c)
 | _ => .any
theorem rB (s : ByteArray) (w : World) (hs : s.size <= 9223372036854775807) : Calls Tryz.prog 146 #[.string s, .string yJ] w fun e w' => e = .returned (.string (vt s yJ)) /\ Below w.heap.size w w' :=
 Any.strings_Trim_laid Tryz.lays160 (by kernel_rfl) s yJ w hs (by decide) (ascii_of_all (by decide))
theorem ar.below {B : ba} {m : ah} {lh : List ac} {w w' : World} (h : ar B m lh w) (hb : Below w.heap.size w w') : ar B m lh w' := by
 obtain ⟨h1, h2, h3, h4, h5⟩ := hb
 have hsz : B.w0.heap.size <= w'.heap.size := Nat.le_trans h.size h4
 refine ⟨h1.trans h.os, h2.trans h.tape, h3.trans h.output, hsz, fun b hb => (h5 b (Nat.lt_of_lt_of_le hb h.size)).trans (h.old b hb), Nat.le_trans h.fsize h4, fun b hb ho => (h5 b (Nat.lt_of_lt_of_le hb h.fsize)).trans (h.kept b hb ho), fun k cs ty hk => ?_, h.inj, h.dom, h.dead, fun k b hk => Nat.lt_of_lt_of_le (h.rng k b hk) h4⟩
 obtain ⟨b, vs, g1, g2, g3, g4⟩ := h.loc k cs ty hk
 exact ⟨b, vs, g1, g2, (h5 b (h.rng k b g1)).trans g3, g4⟩
theorem tg : (vP vz).Ok Tryz.prog 146 := by
 refine ⟨fun B m lh w args vs K hrel hargs hsp => ?_, fun _ _ _ _ _ hk ⟨ds, d, p, r, h1, h2, h3, h4, h5⟩ => ⟨ds, d, p, r, h1, h2, h3, h4, hk _ _ h5⟩, fun _ _ _ _ ⟨_, _, _, _, _, _, _, _, h⟩ => h⟩
 obtain ⟨ds, d, p, r, h1, h2, ⟨h30, h3⟩, h4, h5⟩ := hsp
 simp only [vz, mkC, Option.some.injEq, Prod.mk.injEq] at h2
 obtain ⟨rfl, rfl, rfl⟩ := h2
 have hty := (gN [.str, .str] ds [] [] rfl h30).1
 simp only [aA, bn] at hty
 obtain ⟨e1, e2, e3, e4, e5⟩ := hty
 rw [e5] at e3
 rw [e3, e2, e4] at e1
 generalize sv (hdV ds) = s at e1
 generalize sv (hdV (tlV ds)) = c at e1
 subst e1
 simp only [kA, unq] at h3 h4 h5
 obtain ⟨hs, rfl⟩ := h3
 simp only [vrs, vr] at h1
 obtain ⟨_, _, rfl, rfl, _, _, rfl, rfl, rfl⟩ := h1
 simp only [ae, vrel] at hargs
 obtain ⟨_, _, rfl, rfl, _, _, rfl, rfl, rfl⟩ := hargs
 refine ⟨⟨_, Tryz.func146, by kernel_rfl, by kernel_rfl⟩, (rB s w hs).mono fun e w' ⟨he, hb⟩ => ?_⟩
 exact ⟨_, _, m, lh, he, by simp only [toA, vrel], Ext.refl _ _, ar.below hrel hb, h5⟩
theorem tp (s : ByteArray) (h : (!s.toList == (⟨#[]⟩ : ByteArray).toList) = true) : (0 : Int) < (s.size : Int) := by
 have e : (⟨#[]⟩ : ByteArray).toList = [] := by decide +kernel
 by_cases hz : s.size = 0
 ·have : s = ⟨#[]⟩ := by
   cases s with | mk d => 
   have : d = #[] := Array.eq_empty_of_size_eq_zero hz
   rw [this]
  rw [this, e] at h; cases h
 ·omega
end Go.Dx
namespace Go.Dx
open Go.IntKind (i64 u64 u8)
open Go.Sx Go.Proofs
def Ah : bc := [(147, .con xH), (64, .con C64), (66, .con C66), (113, .con vv), (65, .con C65), (67, .con C67), (53, .con C53), (45, .con C45), (90, .con C90), (119, .con vp), (121, .con vu), (99, .con C99), (129, .con xQ), (148, .con u9), (149, .con vk), (112, .con uF), (118, .con uV), (120, .con uA), (133, .con vx), (103, .con uD), (100, .con vl), (134, .con uL), (135, .con u6), (78, .con C78), (54, .con C54), (48, .con C48), (102, .con vh), (81, .con C81), (84, .con C84), (85, .con C85), (127, .con uy), (101, .con va), (86, .con C86), (162, .con uu), (146, .con vz)]
theorem wV : aX Tryz.prog eqs its Ah := .con sD (.con yK (.con yL (.con q9 (.con vX (.con wG (.con vN (.con xt (.con zj (.con p9 (.con qY (.con v6 (.con uk (.con rr (.con qF (.con qn (.con pI (.con qx (.con pC (.con pD (.con pU (.con qJ (.con qO (.con wQ (.con wp (.con wa (.con pN (.con wj (.con xZ (.con wX (.con pW (.con pS (.con yf (.con qL (.con tg (.nil)))))))))))))))))))))))))))))))))))
def DS (n0 : Nat) (f0 : FnV) : RT Empty := .obc (.obt (.ret (V.bool (decide (0 <= vF n0 (elV tp2 f0))))))
theorem CY (n0 : Nat) (f0 : FnV) : Fit noD (aY JJ Ah u0 Gt [V.sl n0 (elV tp2 f0), V.fn 113 [] []]) (DS n0 f0) := ⟨by kernel_rfl, by kernel_rfl⟩
def ge (n0 : Nat) (f0 : FnV) : Bool := decide (0 <= vF n0 (elV tp2 f0))
def BL (n0 : Nat) (f0 : FnV) : V := .bool (ge n0 f0)
theorem F4 (n0 : Nat) (f0 : FnV) : evR noE (DS n0 f0) (BL n0 f0) := ao (evObt (evRet (by unfold BL ge; rfl)))
def xn : aI := mkC [.sl tp2, .fn 113 [] []] (fun _ => True) fun
 | [.sl n0 f0, .fn _ [] []] => BL n0 f0
 | _ => .any
theorem sM : (vP xn).Ok Tryz.prog 115 := mkE wV Tryz.func115 (by kernel_rfl) fun ds hp => rf0 (CY ..) (F4 _ _)
def EW (s0 : ByteArray) : RT Empty := .obp (s0.size <= (9223372036854775807 : Nat) /\ ByteArray.mk (Array.mk [(97 : UInt8), (98 : UInt8), (99 : UInt8), (100 : UInt8), (101 : UInt8), (102 : UInt8), (103 : UInt8), (104 : UInt8), (105 : UInt8), (106 : UInt8), (107 : UInt8), (108 : UInt8), (109 : UInt8), (110 : UInt8), (111 : UInt8), (112 : UInt8), (113 : UInt8), (114 : UInt8), (115 : UInt8), (116 : UInt8), (117 : UInt8), (118 : UInt8), (119 : UInt8), (120 : UInt8), (121 : UInt8), (122 : UInt8), (48 : UInt8), (49 : UInt8), (50 : UInt8), (51 : UInt8), (52 : UInt8), (53 : UInt8), (54 : UInt8), (55 : UInt8), (56 : UInt8), (57 : UInt8), (45 : UInt8)]) = ByteArray.mk (Array.mk [(97 : UInt8), (98 : UInt8), (99 : UInt8), (100 : UInt8), (101 : UInt8), (102 : UInt8), (103 : UInt8), (104 : UInt8), (105 : UInt8), (106 : UInt8), (107 : UInt8), (108 : UInt8), (109 : UInt8), (110 : UInt8), (111 : UInt8), (112 : UInt8), (113 : UInt8), (114 : UInt8), (115 : UInt8), (116 : UInt8), (117 : UInt8), (118 : UInt8), (119 : UInt8), (120 : UInt8), (121 : UInt8), (122 : UInt8), (48 : UInt8), (49 : UInt8), (50 : UInt8), (51 : UInt8), (52 : UInt8), (53 : UInt8), (54 : UInt8), (55 : UInt8), (56 : UInt8), (57 : UInt8), (45 : UInt8)])) (.obt (.obi (.obi (.obi (.obi (.obi (.obi (.obj (bif bif !s0.toList == (ByteArray.mk (Array.mk [])).toList then decide ((↑s0.size : Int) <= 24) else false then (vt s0 (ByteArray.mk (Array.mk [97, 98, 99, 100, 101, 102, 103, 104, 105, 106, 107, 108, 109, 110, 111, 112, 113, 114, 115, 116, 117, 118, 119, 120, 121, 122, 48, 49, 50, 51, 52, 53, 54, 55, 56, 57, 45]))).toList == (ByteArray.mk (Array.mk [])).toList else false) (decide ((0 : Int) <= 0 /\ 0 < (↑s0.size : Int))) (.obi (.obi (.obi (.obj (bif bif bif !s0.toList == (ByteArray.mk (Array.mk [])).toList then decide ((↑s0.size : Int) <= 24) else false then (vt s0 (ByteArray.mk (Array.mk [97, 98, 99, 100, 101, 102, 103, 104, 105, 106, 107, 108, 109, 110, 111, 112, 113, 114, 115, 116, 117, 118, 119, 120, 121, 122, 48, 49, 50, 51, 52, 53, 54, 55, 56, 57, 45]))).toList == (ByteArray.mk (Array.mk [])).toList else false then decide (97 <= (↑(s0.data.1.getD 0 0).toNat : Int)) else false) (decide ((0 : Int) <= 0 /\ 0 < (↑s0.size : Int))) (.obi (.obi (.ret (V.bool (bif bif bif bif !s0.toList == (ByteArray.mk (Array.mk [])).toList then decide ((↑s0.size : Int) <= 24) else false then (vt s0 (ByteArray.mk (Array.mk [97, 98, 99, 100, 101, 102, 103, 104, 105, 106, 107, 108, 109, 110, 111, 112, 113, 114, 115, 116, 117, 118, 119, 120, 121, 122, 48, 49, 50, 51, 52, 53, 54, 55, 56, 57, 45]))).toList == (ByteArray.mk (Array.mk [])).toList else false then decide (97 <= (↑(s0.data.1.getD 0 0).toNat : Int)) else false then decide ((↑(s0.data.1.getD 0 0).toNat : Int) <= 122) else false)))))))))))))))))
theorem Co (s0 : ByteArray) : Fit noD (aY JJ Ah u0 Hc [V.str s0]) (EW s0) := ⟨by kernel_rfl, by kernel_rfl⟩
def j8 (s0 : ByteArray) : Bool := bif bif bif bif !s0.toList == (ByteArray.mk (Array.mk [])).toList then decide ((↑s0.size : Int) <= 24) else false then (vt s0 (ByteArray.mk (Array.mk [97, 98, 99, 100, 101, 102, 103, 104, 105, 106, 107, 108, 109, 110, 111, 112, 113, 114, 115, 116, 117, 118, 119, 120, 121, 122, 48, 49, 50, 51, 52, 53, 54, 55, 56, 57, 45]))).toList == (ByteArray.mk (Array.mk [])).toList else false then decide (97 <= (↑(s0.data.1.getD 0 0).toNat : Int)) else false then decide ((↑(s0.data.1.getD 0 0).toNat : Int) <= 122) else false
def AR (s0 : ByteArray) : V := .bool (j8 s0)
theorem C8 (s0 : ByteArray) (hp : s0.size <= 9223372036854775807) : evR noE (EW s0) (AR s0) := evObp (by first | assumption | (exact ⟨hp, rfl⟩)) (evObt (ak (ak (ak (ak (ak (ak (Av (by first | assumption | (intro h; refine dqt ⟨Int.le_refl 0, tp s0 ?_⟩; cases hb : (!s0.toList == (⟨#[]⟩ : ByteArray).toList) with | true => rfl | false => (rw [hb] at h; simp at h))) (ak (ak (ak (Av (by first | assumption | (intro h; refine dqt ⟨Int.le_refl 0, tp s0 ?_⟩; cases hb : (!s0.toList == (⟨#[]⟩ : ByteArray).toList) with | true => rfl | false => (rw [hb] at h; simp at h))) (ak (ak (evRet (by unfold AR j8; rfl))))))))))))))))
def yz : aI := mkC [.str] (fun
 | [.str s0] => s0.size <= 9223372036854775807
 | _ => False) fun
 | [.str s0] => AR s0
 | _ => .any
theorem tE : (vP yz).Ok Tryz.prog 114 := mkE wV Tryz.func114 (by kernel_rfl) fun ds hp => rf0 (Co ..) (C8 _ hp)
def G2 (x y h dx dy : Int) : Int := bif bif bif bif !F51 2 (elV tp1 (aV [V.int .i64 x, V.int .i64 y] 0 ((1 + 1 - 0) / 2))) then true else !lV h 1 200 then true else !lV dx (-1000) 1000 then true else !lV dy (-1000) 1000 then 7 else bif bif dx == 0 then dy == 0 else false then 2 else 0
def F73 (n6 : Nat) (f6 : FnV) (x8 : Int) : Int := bif !D6 (sv (hdV (f6 x8.toNat))) then 6 else bif exB x8.toNat (fun k => (sv (hdV (f6 k))).toList == (sv (hdV (f6 x8.toNat))).toList) then 5 else G2 (jv1 (f6 x8.toNat)) (jv2 (f6 x8.toNat)) (jv3 (f6 x8.toNat)) (jv4 (f6 x8.toNat)) (jv5 (f6 x8.toNat))
def jy : bc := (117, .inl zb u0) :: (116, .inl zq u0) :: (115, .con xn) :: (114, .con yz) :: Ah
theorem sj : aX Tryz.prog eqs its jy := .inl Tryz.func117 (by kernel_rfl) (by kernel_rfl) (by kernel_rfl) (.inl Tryz.func116 (by kernel_rfl) (by kernel_rfl) (by kernel_rfl) (.con sM (.con tE (wV))))
inductive S63 where
 | L0 (ia0 : Int) (fa1 : Nat -> List V)
 | L1 (ib0 : Int) (fb1 : Nat -> List V)
 | L2 (ic0 : Int) (fc1 : Nat -> List V)
 | L3 (id0 : Int) (fd1 : Nat -> List V)
 | L4 (ie0 : Int) (ne1 ne2 : Nat) (ie3 ie4 ie5 : Int) (ne6 : Nat) (ie7 ie8 ie9 ie10 : Int) (fe11 : Nat -> List V)
 | L5 (if0 : Int) (nf1 nf2 : Nat) (if3 if4 if5 : Int) (nf6 : Nat) (if7 if8 if9 if10 : Int) (ff11 : Nat -> List V)
 | L6 (ig0 : Int) (ng1 ng2 : Nat) (ig3 ig4 ig5 : Int) (ng6 : Nat) (ig7 ig8 ig9 ig10 : Int) (fg11 : Nat -> List V)
 | L7 (ih0 : Int) (nh1 nh2 : Nat) (ih3 ih4 ih5 : Int) (nh6 : Nat) (ih7 ih8 ih9 ih10 : Int) (fh11 : Nat -> List V)
def rh (n0 : Nat) (f0 : FnV) (s2 : ByteArray) (x3 : Int) (n4 : Nat) (f4 : FnV) (x6 : Int) : S63 -> Env × List O × Option Ex
 | .L0 ia0 fa1 => ([(3, vi ia0), (8, V.kb false), (7, vi (↑n4 : Int)), (6, V.gs 2 n4), (2, V.ns), (0, V.gs 2 n4)], [O.cells [V.str s2, vi x3, V.sl n4 (elV tp2 f4), vi x6] 54, O.hid, O.gl 2 n4 (elV tp2 fa1) 72], none)
 | .L1 ib0 fb1 => ([(3, vi ib0), (8, V.kb false), (7, vi (↑n4 : Int)), (6, V.gs 2 n4), (2, V.ns), (0, V.gs 2 n4)], [O.cells [V.str s2, vi x3, V.sl n4 (elV tp2 f4), vi x6] 54, O.hid, O.gl 2 n4 (elV tp2 fb1) 72], none)
 | .L2 ic0 fc1 => ([(3, vi ic0), (8, V.kb false), (7, vi (↑n4 : Int)), (6, V.gs 2 n4), (2, V.ns), (0, V.gs 2 n4)], [O.cells [V.str s2, vi x3, V.sl n4 (elV tp2 f4), vi x6] 54, O.hid, O.gl 2 n4 (elV tp2 fc1) 72], none)
 | .L3 id0 fd1 => ([(3, vi id0), (8, V.kb false), (7, vi (↑n4 : Int)), (6, V.gs 2 n4), (2, V.ns), (0, V.gs 2 n4)], [O.cells [V.str s2, vi x3, V.sl n4 (elV tp2 f4), vi x6] 54, O.hid, O.gl 2 n4 (elV tp2 fd1) 72], none)
 | .L4 ie0 ne1 ne2 ie3 ie4 ie5 ne6 ie7 ie8 ie9 ie10 fe11 => ([(5, vi ie0), (4, V.go 2 ne1 ne2), (28, V.go 2 ne1 ne2), (27, vi ie3), (26, V.gs 2 n4), (25, V.kb true), (24, V.agg [vi ie4, vi ie5]), (23, V.pe 2 ne6 0), (22, vi ie7), (21, vi ie3), (20, V.gs 2 n4), (19, V.agg [vi ie8, vi ie9]), (18, V.pe 2 ne1 0), (17, vi ie3), (16, V.gs 2 n4), (13, V.kb true), (12, vi (↑n4 : Int)), (11, V.gs 2 n4), (10, vi ie3), (3, vi ie10), (8, V.kb false), (7, vi (↑n4 : Int)), (6, V.gs 2 n4), (2, V.ns), (0, V.gs 2 n4)], [O.cells [V.str s2, vi x3, V.sl n4 (elV tp2 f4), vi x6] 54, O.hid, O.gl 2 n4 (elV tp2 fe11) 72], none)
 | .L5 if0 nf1 nf2 if3 if4 if5 nf6 if7 if8 if9 if10 ff11 => ([(5, vi if0), (4, V.go 2 nf1 nf2), (28, V.go 2 nf1 nf2), (27, vi if3), (26, V.gs 2 n4), (25, V.kb true), (24, V.agg [vi if4, vi if5]), (23, V.pe 2 nf6 0), (22, vi if7), (21, vi if3), (20, V.gs 2 n4), (19, V.agg [vi if8, vi if9]), (18, V.pe 2 nf1 0), (17, vi if3), (16, V.gs 2 n4), (13, V.kb true), (12, vi (↑n4 : Int)), (11, V.gs 2 n4), (10, vi if3), (3, vi if10), (8, V.kb false), (7, vi (↑n4 : Int)), (6, V.gs 2 n4), (2, V.ns), (0, V.gs 2 n4)], [O.cells [V.str s2, vi x3, V.sl n4 (elV tp2 f4), vi x6] 54, O.hid, O.gl 2 n4 (elV tp2 ff11) 72], none)
 | .L6 ig0 ng1 ng2 ig3 ig4 ig5 ng6 ig7 ig8 ig9 ig10 fg11 => ([(5, vi ig0), (4, V.go 2 ng1 ng2), (28, V.go 2 ng1 ng2), (27, vi ig3), (26, V.gs 2 n4), (25, V.kb true), (24, V.agg [vi ig4, vi ig5]), (23, V.pe 2 ng6 0), (22, vi ig7), (21, vi ig3), (20, V.gs 2 n4), (19, V.agg [vi ig8, vi ig9]), (18, V.pe 2 ng1 0), (17, vi ig3), (16, V.gs 2 n4), (13, V.kb true), (12, vi (↑n4 : Int)), (11, V.gs 2 n4), (10, vi ig3), (3, vi ig10), (8, V.kb false), (7, vi (↑n4 : Int)), (6, V.gs 2 n4), (2, V.ns), (0, V.gs 2 n4)], [O.cells [V.str s2, vi x3, V.sl n4 (elV tp2 f4), vi x6] 54, O.hid, O.gl 2 n4 (elV tp2 fg11) 72], none)
 | .L7 ih0 nh1 nh2 ih3 ih4 ih5 nh6 ih7 ih8 ih9 ih10 fh11 => ([(5, vi ih0), (4, V.go 2 nh1 nh2), (28, V.go 2 nh1 nh2), (27, vi ih3), (26, V.gs 2 n4), (25, V.kb true), (24, V.agg [vi ih4, vi ih5]), (23, V.pe 2 nh6 0), (22, vi ih7), (21, vi ih3), (20, V.gs 2 n4), (19, V.agg [vi ih8, vi ih9]), (18, V.pe 2 nh1 0), (17, vi ih3), (16, V.gs 2 n4), (13, V.kb true), (12, vi (↑n4 : Int)), (11, V.gs 2 n4), (10, vi ih3), (3, vi ih10), (8, V.kb false), (7, vi (↑n4 : Int)), (6, V.gs 2 n4), (2, V.ns), (0, V.gs 2 n4)], [O.cells [V.str s2, vi x3, V.sl n4 (elV tp2 f4), vi x6] 54, O.hid, O.gl 2 n4 (elV tp2 fh11) 72], none)
def GT : S63 -> JJ
 | .L0 ia0 fa1 => (0, [])
 | .L1 ib0 fb1 => (1, [])
 | .L2 ic0 fc1 => (2, [])
 | .L3 id0 fd1 => (3, [])
 | .L4 ie0 ne1 ne2 ie3 ie4 ie5 ne6 ie7 ie8 ie9 ie10 fe11 => (4, [])
 | .L5 if0 nf1 nf2 if3 if4 if5 nf6 if7 if8 if9 if10 ff11 => (5, [])
 | .L6 ig0 ng1 ng2 ig3 ig4 ig5 ng6 ig7 ig8 ig9 ig10 fg11 => (6, [])
 | .L7 ih0 nh1 nh2 ih3 ih4 ih5 nh6 ih7 ih8 ih9 ih10 fh11 => (7, [])
def vD (n0 : Nat) (f0 : FnV) (s2 : ByteArray) (x3 : Int) (n4 : Nat) (f4 : FnV) (x6 : Int) : T (bQ JJ) := aY JJ jy u0 s63 [V.sl n0 (elV tyR f0), V.agg [V.str s2, vi x3, V.sl n4 (elV tp2 f4), vi x6]]
def rN (n0 : Nat) (f0 : FnV) (s2 : ByteArray) (x3 : Int) (n4 : Nat) (f4 : FnV) (x6 : Int) (cx : List Cx) : Lp JJ := lpT (atT (vD n0 f0 s2 x3 n4 f4 x6) [false, false, false, false, false, true, false, true, true, false, true, false])
def wv (n0 : Nat) (f0 : FnV) (s2 : ByteArray) (x3 : Int) (n4 : Nat) (f4 : FnV) (x6 : Int) (cx : List Cx) : Lp JJ := lpT (atT (vD n0 f0 s2 x3 n4 f4 x6) [false, false, false, false, false, true, false, true, true, false, false, false])
def wt (n0 : Nat) (f0 : FnV) (s2 : ByteArray) (x3 : Int) (n4 : Nat) (f4 : FnV) (x6 : Int) (cx : List Cx) : Lp JJ := lpT (atT (vD n0 f0 s2 x3 n4 f4 x6) [false, false, false, false, false, true, false, true, false, false, false])
def xz (n0 : Nat) (f0 : FnV) (s2 : ByteArray) (x3 : Int) (n4 : Nat) (f4 : FnV) (x6 : Int) (cx : List Cx) : Lp JJ := lpT (atT (vD n0 f0 s2 x3 n4 f4 x6) [false, false, false, false, false, true, false, false, false, false])
def B9 (n0 : Nat) (f0 : FnV) (s2 : ByteArray) (x3 : Int) (n4 : Nat) (f4 : FnV) (x6 : Int) (cx : List Cx) : Lp JJ := lpT (atT (rdP jy u0 (0, []) (rN n0 f0 s2 x3 n4 f4 x6 []) (rh n0 f0 s2 x3 n4 f4 x6 (.L0 (0 : Int) (fun _ => [])))) [true, true])
def Br (n0 : Nat) (f0 : FnV) (s2 : ByteArray) (x3 : Int) (n4 : Nat) (f4 : FnV) (x6 : Int) (cx : List Cx) : Lp JJ := lpT (atT (rdP jy u0 (1, []) (wv n0 f0 s2 x3 n4 f4 x6 []) (rh n0 f0 s2 x3 n4 f4 x6 (.L1 (0 : Int) (fun _ => [])))) [true, true])
def B7 (n0 : Nat) (f0 : FnV) (s2 : ByteArray) (x3 : Int) (n4 : Nat) (f4 : FnV) (x6 : Int) (cx : List Cx) : Lp JJ := lpT (atT (rdP jy u0 (2, []) (wt n0 f0 s2 x3 n4 f4 x6 []) (rh n0 f0 s2 x3 n4 f4 x6 (.L2 (0 : Int) (fun _ => [])))) [true, true])
def Bs (n0 : Nat) (f0 : FnV) (s2 : ByteArray) (x3 : Int) (n4 : Nat) (f4 : FnV) (x6 : Int) (cx : List Cx) : Lp JJ := lpT (atT (rdP jy u0 (3, []) (xz n0 f0 s2 x3 n4 f4 x6 []) (rh n0 f0 s2 x3 n4 f4 x6 (.L3 (0 : Int) (fun _ => [])))) [true, true])
def Gu (n0 : Nat) (f0 : FnV) (s2 : ByteArray) (x3 : Int) (n4 : Nat) (f4 : FnV) (x6 : Int) : JJ -> Lp JJ
 | (0, cx) => rN n0 f0 s2 x3 n4 f4 x6 cx
 | (1, cx) => wv n0 f0 s2 x3 n4 f4 x6 cx
 | (2, cx) => wt n0 f0 s2 x3 n4 f4 x6 cx
 | (3, cx) => xz n0 f0 s2 x3 n4 f4 x6 cx
 | (4, cx) => B9 n0 f0 s2 x3 n4 f4 x6 cx
 | (5, cx) => Br n0 f0 s2 x3 n4 f4 x6 cx
 | (6, cx) => B7 n0 f0 s2 x3 n4 f4 x6 cx
 | (7, cx) => Bs n0 f0 s2 x3 n4 f4 x6 cx
 | (_, cx) => rN n0 f0 s2 x3 n4 f4 x6 cx
def D63 (n0 : Nat) (f0 : FnV) (s2 : ByteArray) (x3 : Int) (n4 : Nat) (f4 : FnV) (x6 : Int) : LD JJ S63 := ⟨GT, Gu n0 f0 s2 x3 n4 f4 x6, rh n0 f0 s2 x3 n4 f4 x6⟩
def ja (n0 : Nat) (f0 : FnV) (s2 : ByteArray) (x3 : Int) (n4 : Nat) (f4 : FnV) (x6 : Int) : S63 -> RT S63
 | .L0 ia0 fa1 => .br (decide (ia0 < (↑n4 : Int))) (.ob (decide (0 <= ia0 /\ ia0 < (↑n4 : Int) /\ n4 <= n4)) (.ob (decide (ia0.toNat < n4)) (.ob (decide (0 <= i64.wrap (ia0 - 1) /\ i64.wrap (ia0 - 1) < (↑n4 : Int) /\ n4 <= n4)) (.ob (decide ((i64.wrap (ia0 - 1)).toNat < n4)) (.br (jv0 (fa1 ia0.toNat) == jv0 (fa1 (i64.wrap (ia0 - 1)).toNat) && (jv1 (fa1 ia0.toNat) == jv1 (fa1 (i64.wrap (ia0 - 1)).toNat) && true)) (.ob (decide (0 <= ia0 /\ ia0 <= (↑n4 : Int))) (.enter (iR 0 3 []) (S63.L4 (1) (ia0.toNat) (n4 - ia0.toNat) (ia0) (jv0 (fa1 (i64.wrap (ia0 - 1)).toNat)) (jv1 (fa1 (i64.wrap (ia0 - 1)).toNat)) ((i64.wrap (ia0 - 1)).toNat) (i64.wrap (ia0 - 1)) (jv0 (fa1 ia0.toNat)) (jv1 (fa1 ia0.toNat)) (ia0) (elV tp2 fa1)) [⟨2, tp2, n4, elV tp2 fa1, bB rfl _ _⟩])) (.next (iR 0 3 []) (S63.L0 (i64.wrap (ia0 + 1)) (elV tp2 fa1)) [⟨2, tp2, n4, elV tp2 fa1, bB rfl _ _⟩])))))) (.asm (true = true -> n4 <= 9223372036854775807) (.br (decide ((↑n4 : Int) < (↑n4 : Int))) (.ret (vi 2)) (.obi (.obi (.asm ((x3 == 3) = true -> n4 <= 9223372036854775807) (.obi (.obi (.br (bif x3 == 3 then decide (2 < (↑n4 : Int)) else false) (.ret (vi 2)) (.ret (vi 0))))))))))
 | .L1 ib0 fb1 => .br (decide (ib0 < (↑n4 : Int))) (.ob (decide (0 <= ib0 /\ ib0 < (↑n4 : Int) /\ n4 <= n4)) (.ob (decide (ib0.toNat < n4)) (.ob (decide (0 <= i64.wrap (ib0 - 1) /\ i64.wrap (ib0 - 1) < (↑n4 : Int) /\ n4 <= n4)) (.ob (decide ((i64.wrap (ib0 - 1)).toNat < n4)) (.br (jv0 (fb1 ib0.toNat) == jv0 (fb1 (i64.wrap (ib0 - 1)).toNat) && (jv1 (fb1 ib0.toNat) == jv1 (fb1 (i64.wrap (ib0 - 1)).toNat) && true)) (.ob (decide (0 <= ib0 /\ ib0 <= (↑n4 : Int))) (.enter (iR 0 3 []) (S63.L5 (1) (ib0.toNat) (n4 - ib0.toNat) (ib0) (jv0 (fb1 (i64.wrap (ib0 - 1)).toNat)) (jv1 (fb1 (i64.wrap (ib0 - 1)).toNat)) ((i64.wrap (ib0 - 1)).toNat) (i64.wrap (ib0 - 1)) (jv0 (fb1 ib0.toNat)) (jv1 (fb1 ib0.toNat)) (ib0) (elV tp2 fb1)) [⟨2, tp2, n4, elV tp2 fb1, bB rfl _ _⟩])) (.next (iR 0 3 []) (S63.L1 (i64.wrap (ib0 + 1)) (elV tp2 fb1)) [⟨2, tp2, n4, elV tp2 fb1, bB rfl _ _⟩])))))) (.br (decide ((↑n4 : Int) < (↑n4 : Int))) (.ret (vi 2)) (.obi (.obi (.asm ((x3 == 3) = true -> n4 <= 9223372036854775807) (.obi (.obi (.br (bif x3 == 3 then decide (2 < (↑n4 : Int)) else false) (.ret (vi 2)) (.ret (vi 0)))))))))
 | .L2 ic0 fc1 => .br (decide (ic0 < (↑n4 : Int))) (.ob (decide (0 <= ic0 /\ ic0 < (↑n4 : Int) /\ n4 <= n4)) (.ob (decide (ic0.toNat < n4)) (.ob (decide (0 <= i64.wrap (ic0 - 1) /\ i64.wrap (ic0 - 1) < (↑n4 : Int) /\ n4 <= n4)) (.ob (decide ((i64.wrap (ic0 - 1)).toNat < n4)) (.br (jv0 (fc1 ic0.toNat) == jv0 (fc1 (i64.wrap (ic0 - 1)).toNat) && (jv1 (fc1 ic0.toNat) == jv1 (fc1 (i64.wrap (ic0 - 1)).toNat) && true)) (.ob (decide (0 <= ic0 /\ ic0 <= (↑n4 : Int))) (.enter (iR 0 3 []) (S63.L6 (1) (ic0.toNat) (n4 - ic0.toNat) (ic0) (jv0 (fc1 (i64.wrap (ic0 - 1)).toNat)) (jv1 (fc1 (i64.wrap (ic0 - 1)).toNat)) ((i64.wrap (ic0 - 1)).toNat) (i64.wrap (ic0 - 1)) (jv0 (fc1 ic0.toNat)) (jv1 (fc1 ic0.toNat)) (ic0) (elV tp2 fc1)) [⟨2, tp2, n4, elV tp2 fc1, bB rfl _ _⟩])) (.next (iR 0 3 []) (S63.L2 (i64.wrap (ic0 + 1)) (elV tp2 fc1)) [⟨2, tp2, n4, elV tp2 fc1, bB rfl _ _⟩])))))) (.br (decide ((↑n4 : Int) < (↑n4 : Int))) (.ret (vi 2)) (.obi (.obi (.asm ((x3 == 3) = true -> n4 <= 9223372036854775807) (.obi (.obi (.br (bif x3 == 3 then decide (2 < (↑n4 : Int)) else false) (.ret (vi 2)) (.ret (vi 0)))))))))
 | .L3 id0 fd1 => .br (decide (id0 < (↑n4 : Int))) (.ob (decide (0 <= id0 /\ id0 < (↑n4 : Int) /\ n4 <= n4)) (.ob (decide (id0.toNat < n4)) (.ob (decide (0 <= i64.wrap (id0 - 1) /\ i64.wrap (id0 - 1) < (↑n4 : Int) /\ n4 <= n4)) (.ob (decide ((i64.wrap (id0 - 1)).toNat < n4)) (.br (jv0 (fd1 id0.toNat) == jv0 (fd1 (i64.wrap (id0 - 1)).toNat) && (jv1 (fd1 id0.toNat) == jv1 (fd1 (i64.wrap (id0 - 1)).toNat) && true)) (.ob (decide (0 <= id0 /\ id0 <= (↑n4 : Int))) (.enter (iR 0 3 []) (S63.L7 (1) (id0.toNat) (n4 - id0.toNat) (id0) (jv0 (fd1 (i64.wrap (id0 - 1)).toNat)) (jv1 (fd1 (i64.wrap (id0 - 1)).toNat)) ((i64.wrap (id0 - 1)).toNat) (i64.wrap (id0 - 1)) (jv0 (fd1 id0.toNat)) (jv1 (fd1 id0.toNat)) (id0) (elV tp2 fd1)) [⟨2, tp2, n4, elV tp2 fd1, bB rfl _ _⟩])) (.next (iR 0 3 []) (S63.L3 (i64.wrap (id0 + 1)) (elV tp2 fd1)) [⟨2, tp2, n4, elV tp2 fd1, bB rfl _ _⟩])))))) (.br (decide ((↑n4 : Int) < (↑n4 : Int))) (.ret (vi 2)) (.obi (.obi (.asm ((x3 == 3) = true -> n4 <= 9223372036854775807) (.obi (.obi (.br (bif x3 == 3 then decide (2 < (↑n4 : Int)) else false) (.ret (vi 2)) (.ret (vi 0)))))))))
 | .L4 ie0 ne1 ne2 ie3 ie4 ie5 ne6 ie7 ie8 ie9 ie10 fe11 => .br (decide (ie0 < (↑ne2 : Int))) (.ob (decide (0 <= ie0 /\ ie0 < (↑ne2 : Int) /\ ne1 + ne2 <= n4)) (.ob (decide (ne1 + ie0.toNat < n4)) (.ob (decide (0 <= i64.wrap (ie0 - 1) /\ i64.wrap (ie0 - 1) < (↑ne2 : Int) /\ ne1 + ne2 <= n4)) (.ob (decide (ne1 + (i64.wrap (ie0 - 1)).toNat < n4)) (.br (!(jv0 (fe11 (ne1 + ie0.toNat)) == jv0 (fe11 (ne1 + (i64.wrap (ie0 - 1)).toNat)) && (jv1 (fe11 (ne1 + ie0.toNat)) == jv1 (fe11 (ne1 + (i64.wrap (ie0 - 1)).toNat)) && true))) (.ob (decide (0 <= ie0 /\ ie0 < (↑ne2 : Int) /\ ne1 + ne2 <= n4)) (.ob (decide (ne1 + ie0.toNat < n4)) (.ob (decide (0 <= ie10 /\ ie10 < (↑n4 : Int) /\ n4 <= n4)) (.ob (decide (ie10.toNat < n4)) (.next (iR 0 3 []) (S63.L4 (i64.wrap (ie0 + 1)) (ne1) (ne2) (ie3) (ie4) (ie5) (ne6) (ie7) (ie8) (ie9) (i64.wrap (ie10 + 1)) (fun i' => bif i'.beq ie10.toNat then [vi (jv0 (fe11 (ne1 + ie0.toNat))), vi (jv1 (fe11 (ne1 + ie0.toNat)))] else elV tp2 fe11 i')) [⟨2, tp2, n4, fun i' => bif i'.beq ie10.toNat then [vi (jv0 (fe11 (ne1 + ie0.toNat))), vi (jv1 (fe11 (ne1 + ie0.toNat)))] else elV tp2 fe11 i', ph rfl (bB rfl _ _) rfl⟩]))))) (.next (iR 0 3 []) (S63.L4 (i64.wrap (ie0 + 1)) (ne1) (ne2) (ie3) (ie4) (ie5) (ne6) (ie7) (ie8) (ie9) (ie10) (elV tp2 fe11)) [⟨2, tp2, n4, elV tp2 fe11, bB rfl _ _⟩])))))) (.ob (decide (0 <= ie10 /\ ie10 <= (↑n4 : Int))) (.ob (decide (0 < n4 - ie10.toNat /\ ie10.toNat + (n4 - ie10.toNat) <= n4)) (.ob (decide (0 <= ie10 /\ ie10 <= (↑n4 : Int))) (.asm (true = true -> n4 <= 9223372036854775807) (.br (decide ((↑ie10.toNat : Int) < (↑n4 : Int))) (.ret (vi 2)) (.obi (.obi (.asm ((x3 == 3) = true -> n4 <= 9223372036854775807) (.obi (.obi (.br (bif x3 == 3 then decide (2 < (↑n4 : Int)) else false) (.ret (vi 2)) (.ret (vi 0)))))))))))))
 | .L5 if0 nf1 nf2 if3 if4 if5 nf6 if7 if8 if9 if10 ff11 => .br (decide (if0 < (↑nf2 : Int))) (.ob (decide (0 <= if0 /\ if0 < (↑nf2 : Int) /\ nf1 + nf2 <= n4)) (.ob (decide (nf1 + if0.toNat < n4)) (.ob (decide (0 <= i64.wrap (if0 - 1) /\ i64.wrap (if0 - 1) < (↑nf2 : Int) /\ nf1 + nf2 <= n4)) (.ob (decide (nf1 + (i64.wrap (if0 - 1)).toNat < n4)) (.br (!(jv0 (ff11 (nf1 + if0.toNat)) == jv0 (ff11 (nf1 + (i64.wrap (if0 - 1)).toNat)) && (jv1 (ff11 (nf1 + if0.toNat)) == jv1 (ff11 (nf1 + (i64.wrap (if0 - 1)).toNat)) && true))) (.ob (decide (0 <= if0 /\ if0 < (↑nf2 : Int) /\ nf1 + nf2 <= n4)) (.ob (decide (nf1 + if0.toNat < n4)) (.ob (decide (0 <= if10 /\ if10 < (↑n4 : Int) /\ n4 <= n4)) (.ob (decide (if10.toNat < n4)) (.next (iR 0 3 []) (S63.L5 (i64.wrap (if0 + 1)) (nf1) (nf2) (if3) (if4) (if5) (nf6) (if7) (if8) (if9) (i64.wrap (if10 + 1)) (fun i' => bif i'.beq if10.toNat then [vi (jv0 (ff11 (nf1 + if0.toNat))), vi (jv1 (ff11 (nf1 + if0.toNat)))] else elV tp2 ff11 i')) [⟨2, tp2, n4, fun i' => bif i'.beq if10.toNat then [vi (jv0 (ff11 (nf1 + if0.toNat))), vi (jv1 (ff11 (nf1 + if0.toNat)))] else elV tp2 ff11 i', ph rfl (bB rfl _ _) rfl⟩]))))) (.next (iR 0 3 []) (S63.L5 (i64.wrap (if0 + 1)) (nf1) (nf2) (if3) (if4) (if5) (nf6) (if7) (if8) (if9) (if10) (elV tp2 ff11)) [⟨2, tp2, n4, elV tp2 ff11, bB rfl _ _⟩])))))) (.ob (decide (0 <= if10 /\ if10 <= (↑n4 : Int))) (.ob (decide (0 < n4 - if10.toNat /\ if10.toNat + (n4 - if10.toNat) <= n4)) (.ob (decide (0 <= if10 /\ if10 <= (↑n4 : Int))) (.br (decide ((↑if10.toNat : Int) < (↑n4 : Int))) (.ret (vi 2)) (.obi (.obi (.asm ((x3 == 3) = true -> n4 <= 9223372036854775807) (.obi (.obi (.br (bif x3 == 3 then decide (2 < (↑n4 : Int)) else false) (.ret (vi 2)) (.ret (vi 0))))))))))))
 | .L6 ig0 ng1 ng2 ig3 ig4 ig5 ng6 ig7 ig8 ig9 ig10 fg11 => .br (decide (ig0 < (↑ng2 : Int))) (.ob (decide (0 <= ig0 /\ ig0 < (↑ng2 : Int) /\ ng1 + ng2 <= n4)) (.ob (decide (ng1 + ig0.toNat < n4)) (.ob (decide (0 <= i64.wrap (ig0 - 1) /\ i64.wrap (ig0 - 1) < (↑ng2 : Int) /\ ng1 + ng2 <= n4)) (.ob (decide (ng1 + (i64.wrap (ig0 - 1)).toNat < n4)) (.br (!(jv0 (fg11 (ng1 + ig0.toNat)) == jv0 (fg11 (ng1 + (i64.wrap (ig0 - 1)).toNat)) && (jv1 (fg11 (ng1 + ig0.toNat)) == jv1 (fg11 (ng1 + (i64.wrap (ig0 - 1)).toNat)) && true))) (.ob (decide (0 <= ig0 /\ ig0 < (↑ng2 : Int) /\ ng1 + ng2 <= n4)) (.ob (decide (ng1 + ig0.toNat < n4)) (.ob (decide (0 <= ig10 /\ ig10 < (↑n4 : Int) /\ n4 <= n4)) (.ob (decide (ig10.toNat < n4)) (.next (iR 0 3 []) (S63.L6 (i64.wrap (ig0 + 1)) (ng1) (ng2) (ig3) (ig4) (ig5) (ng6) (ig7) (ig8) (ig9) (i64.wrap (ig10 + 1)) (fun i' => bif i'.beq ig10.toNat then [vi (jv0 (fg11 (ng1 + ig0.toNat))), vi (jv1 (fg11 (ng1 + ig0.toNat)))] else elV tp2 fg11 i')) [⟨2, tp2, n4, fun i' => bif i'.beq ig10.toNat then [vi (jv0 (fg11 (ng1 + ig0.toNat))), vi (jv1 (fg11 (ng1 + ig0.toNat)))] else elV tp2 fg11 i', ph rfl (bB rfl _ _) rfl⟩]))))) (.next (iR 0 3 []) (S63.L6 (i64.wrap (ig0 + 1)) (ng1) (ng2) (ig3) (ig4) (ig5) (ng6) (ig7) (ig8) (ig9) (ig10) (elV tp2 fg11)) [⟨2, tp2, n4, elV tp2 fg11, bB rfl _ _⟩])))))) (.ob (decide (0 <= ig10 /\ ig10 <= (↑n4 : Int))) (.ob (decide (0 < n4 - ig10.toNat /\ ig10.toNat + (n4 - ig10.toNat) <= n4)) (.ob (decide (0 <= ig10 /\ ig10 <= (↑n4 : Int))) (.br (decide ((↑ig10.toNat : Int) < (↑n4 : Int))) (.ret (vi 2)) (.obi (.obi (.asm ((x3 == 3) = true -> n4 <= 9223372036854775807) (.obi (.obi (.br (bif x3 == 3 then decide (2 < (↑n4 : Int)) else false) (.ret (vi 2)) (.ret (vi 0))))))))))))
 | .L7 ih0 nh1 nh2 ih3 ih4 ih5 nh6 ih7 ih8 ih9 ih10 fh11 => .br (decide (ih0 < (↑nh2 : Int))) (.ob (decide (0 <= ih0 /\ ih0 < (↑nh2 : Int) /\ nh1 + nh2 <= n4)) (.ob (decide (nh1 + ih0.toNat < n4)) (.ob (decide (0 <= i64.wrap (ih0 - 1) /\ i64.wrap (ih0 - 1) < (↑nh2 : Int) /\ nh1 + nh2 <= n4)) (.ob (decide (nh1 + (i64.wrap (ih0 - 1)).toNat < n4)) (.br (!(jv0 (fh11 (nh1 + ih0.toNat)) == jv0 (fh11 (nh1 + (i64.wrap (ih0 - 1)).toNat)) && (jv1 (fh11 (nh1 + ih0.toNat)) == jv1 (fh11 (nh1 + (i64.wrap (ih0 - 1)).toNat)) && true))) (.ob (decide (0 <= ih0 /\ ih0 < (↑nh2 : Int) /\ nh1 + nh2 <= n4)) (.ob (decide (nh1 + ih0.toNat < n4)) (.ob (decide (0 <= ih10 /\ ih10 < (↑n4 : Int) /\ n4 <= n4)) (.ob (decide (ih10.toNat < n4)) (.next (iR 0 3 []) (S63.L7 (i64.wrap (ih0 + 1)) (nh1) (nh2) (ih3) (ih4) (ih5) (nh6) (ih7) (ih8) (ih9) (i64.wrap (ih10 + 1)) (fun i' => bif i'.beq ih10.toNat then [vi (jv0 (fh11 (nh1 + ih0.toNat))), vi (jv1 (fh11 (nh1 + ih0.toNat)))] else elV tp2 fh11 i')) [⟨2, tp2, n4, fun i' => bif i'.beq ih10.toNat then [vi (jv0 (fh11 (nh1 + ih0.toNat))), vi (jv1 (fh11 (nh1 + ih0.toNat)))] else elV tp2 fh11 i', ph rfl (bB rfl _ _) rfl⟩]))))) (.next (iR 0 3 []) (S63.L7 (i64.wrap (ih0 + 1)) (nh1) (nh2) (ih3) (ih4) (ih5) (nh6) (ih7) (ih8) (ih9) (ih10) (elV tp2 fh11)) [⟨2, tp2, n4, elV tp2 fh11, bB rfl _ _⟩])))))) (.ob (decide (0 <= ih10 /\ ih10 <= (↑n4 : Int))) (.ob (decide (0 < n4 - ih10.toNat /\ ih10.toNat + (n4 - ih10.toNat) <= n4)) (.ob (decide (0 <= ih10 /\ ih10 <= (↑n4 : Int))) (.br (decide ((↑ih10.toNat : Int) < (↑n4 : Int))) (.ret (vi 2)) (.obi (.obi (.asm ((x3 == 3) = true -> n4 <= 9223372036854775807) (.obi (.obi (.br (bif x3 == 3 then decide (2 < (↑n4 : Int)) else false) (.ret (vi 2)) (.ret (vi 0))))))))))))
def m63 (n0 : Nat) (f0 : FnV) (s2 : ByteArray) (x3 : Int) (n4 : Nat) (f4 : FnV) (x6 : Int) : RT S63 := .obp (s2.size <= (9223372036854775807 : Nat)) (.obt (.br (!j8 s2) (.ret (vi 6)) (.obc (.obt (.br (ol n0 (elV tyR f0) s2) (.ret (vi 5)) (.obc (.obt (.br (be x3 0 3) (.ret (vi 2)) (.asm (true = true -> n4 <= 9223372036854775807) (.br (decide ((↑n4 : Int) < 2)) (.ret (vi 4)) (.asm (true = true -> n4 <= 9223372036854775807) (.br (decide (8 < (↑n4 : Int))) (.ret (vi 3)) (.obc (.obt (.obi (.br (!ge n4 (elV tp2 f4)) (.ob (!ge n4 (elV tp2 f4)) (.obc (.obt (.br (be x6 100 30000) (.ret (vi 7)) (.und (.und (.und (.asm (n4 = 0) (.und (.brt (.asm (true = true -> n4 <= 9223372036854775807) (.br (decide (0 < (↑n4 : Int))) (.ret (vi 2)) (.obi (.obi (.asm ((x3 == 3) = true -> n4 <= 9223372036854775807) (.obi (.obi (.br (bif x3 == 3 then decide (2 < (↑n4 : Int)) else false) (.ret (vi 2)) (.ret (vi 0))))))))))) (.asm (true = true -> n4 <= 9223372036854775807) (.brt (.br (decide (0 < (↑n4 : Int))) (.ret (vi 2)) (.obi (.obi (.asm ((x3 == 3) = true -> n4 <= 9223372036854775807) (.obi (.obi (.br (bif x3 == 3 then decide (2 < (↑n4 : Int)) else false) (.ret (vi 2)) (.ret (vi 0))))))))))))) (.obv (gH n4 fun i => okE 2 (elV tp2 f4 i)) (oI rfl _ _) (.ob (decide (n4 * 16 <= 140737488355328) && !Nat.beq 16 0) (.und (.br (decide ((↑n4 : Int) < 2)) (.asm (true = true -> n4 <= 9223372036854775807) (.br (decide ((↑n4 : Int) < (↑n4 : Int))) (.ret (vi 2)) (.obi (.obi (.asm ((x3 == 3) = true -> n4 <= 9223372036854775807) (.obi (.obi (.br (bif x3 == 3 then decide (2 < (↑n4 : Int)) else false) (.ret (vi 2)) (.ret (vi 0)))))))))) (.enter (iR 0 3 []) (S63.L0 (1) (elV tp2 f4)) [⟨2, tp2, n4, elV tp2 f4, bB rfl _ _⟩])) (.asm (true = true -> n4 <= 9223372036854775807) (.br (decide ((↑n4 : Int) < 2)) (.br (decide ((↑n4 : Int) < (↑n4 : Int))) (.ret (vi 2)) (.obi (.obi (.asm ((x3 == 3) = true -> n4 <= 9223372036854775807) (.obi (.obi (.br (bif x3 == 3 then decide (2 < (↑n4 : Int)) else false) (.ret (vi 2)) (.ret (vi 0))))))))) (.enter (iR 0 3 []) (S63.L1 (1) (elV tp2 f4)) [⟨2, tp2, n4, elV tp2 f4, bB rfl _ _⟩]))))))) (.asm (true = true -> n4 <= 9223372036854775807) (.und (.asm (n4 = 0) (.brt (.br (decide (0 < (↑n4 : Int))) (.ret (vi 2)) (.obi (.obi (.asm ((x3 == 3) = true -> n4 <= 9223372036854775807) (.obi (.obi (.br (bif x3 == 3 then decide (2 < (↑n4 : Int)) else false) (.ret (vi 2)) (.ret (vi 0))))))))))) (.obv (gH n4 fun i => okE 2 (elV tp2 f4 i)) (oI rfl _ _) (.ob (decide (n4 * 16 <= 140737488355328) && !Nat.beq 16 0) (.br (decide ((↑n4 : Int) < 2)) (.br (decide ((↑n4 : Int) < (↑n4 : Int))) (.ret (vi 2)) (.obi (.obi (.asm ((x3 == 3) = true -> n4 <= 9223372036854775807) (.obi (.obi (.br (bif x3 == 3 then decide (2 < (↑n4 : Int)) else false) (.ret (vi 2)) (.ret (vi 0))))))))) (.enter (iR 0 3 []) (S63.L2 (1) (elV tp2 f4)) [⟨2, tp2, n4, elV tp2 f4, bB rfl _ _⟩]))))))) (.asm (true = true -> n4 <= 9223372036854775807) (.und (.asm (n4 = 0) (.brt (.br (decide (0 < (↑n4 : Int))) (.ret (vi 2)) (.obi (.obi (.asm ((x3 == 3) = true -> n4 <= 9223372036854775807) (.obi (.obi (.br (bif x3 == 3 then decide (2 < (↑n4 : Int)) else false) (.ret (vi 2)) (.ret (vi 0))))))))))) (.obv (gH n4 fun i => okE 2 (elV tp2 f4 i)) (oI rfl _ _) (.ob (decide (n4 * 16 <= 140737488355328) && !Nat.beq 16 0) (.br (decide ((↑n4 : Int) < 2)) (.br (decide ((↑n4 : Int) < (↑n4 : Int))) (.ret (vi 2)) (.obi (.obi (.asm ((x3 == 3) = true -> n4 <= 9223372036854775807) (.obi (.obi (.br (bif x3 == 3 then decide (2 < (↑n4 : Int)) else false) (.ret (vi 2)) (.ret (vi 0))))))))) (.enter (iR 0 3 []) (S63.L3 (1) (elV tp2 f4)) [⟨2, tp2, n4, elV tp2 f4, bB rfl _ _⟩]))))))))))) (.ret (vi 7))))))))))))))))))
theorem DZ (n0 : Nat) (f0 : FnV) (s2 : ByteArray) (x3 : Int) (n4 : Nat) (f4 : FnV) (x6 : Int) : iC jy u0 (D63 n0 f0 s2 x3 n4 f4 x6) (vD n0 f0 s2 x3 n4 f4 x6) (m63 n0 f0 s2 x3 n4 f4 x6) (ja n0 f0 s2 x3 n4 f4 x6) := ⟨⟨by kernel_rfl, by kernel_rfl⟩, fun s => by cases s <;> exact ⟨by kernel_rfl, by kernel_rfl⟩⟩
def eqP (f : Nat -> List V) (i j : Nat) : Bool := jv0 (f i) == jv0 (f j) && (jv1 (f i) == jv1 (f j) && true)
def gG (n : Nat) (f : Nat -> List V) : Bool := exB n fun i => decide (0 < i) && eqP f i (i - 1)
def ed (x3 : Int) (n4 : Nat) : Int := bif bif x3 == 3 then decide (2 < (n4 : Int)) else false then 2 else 0
def F63 (n0 : Nat) (f0 : FnV) (s2 : ByteArray) (x3 : Int) (n4 : Nat) (f4 : FnV) (x6 : Int) : Int := bif !j8 s2 then 6 else bif ol n0 f0 s2 then 5 else bif be x3 0 3 then 2 else bif decide ((n4 : Int) < 2) then 4 else bif decide (8 < (n4 : Int)) then 3 else bif !!ge n4 f4 then 7 else bif be x6 100 30000 then 7 else bif gG n4 f4 then 2 else ed x3 n4
theorem iy {S : Type} {Nx : S -> V -> Prop} {x3 : Int} {n4 : Nat} {q : Prop} : evR Nx (.obi (.obi (.asm q (.obi (.obi (.br (bif x3 == 3 then decide (2 < (n4 : Int)) else false) (.ret (.int .i64 2)) (.ret (.int .i64 0)))))))) (.int .i64 (ed x3 n4)) := by
 refine ak (ak (cB fun _ => ak (ak (aL (fun h => evRet ?_) (fun h => evRet ?_))))) <;> (unfold ed; rw [h]; rfl)
theorem DH (n0 : Nat) (f0 : FnV) (s2 : ByteArray) (x3 : Int) (n4 : Nat) (f4 : FnV) (x6 : Int) (h8 : n4 <= 8) (k0 : Nat) (hk : 1 <= k0) (hk' : k0 < n4) (t1 t2 t3 : Int) (t4 : Nat) (t5 t6 t7 : Int) : ∀ k2 : Nat, k2 <= n4 - k0 -> 1 <= k2 -> ∀ (k : Nat) (f : Nat -> List V), k + 1 <= k0 + k2 -> Ev (ja n0 f0 s2 x3 n4 f4 x6) (.L4 k2 k0 (n4 - k0) t1 t2 t3 t4 t5 t6 t7 k f) (.int .i64 2) := by
 refine dH fun k2 hk2 ih h1 k f hkk => Ev.of rfl ?_
 have w1 : i64.wrap ((k2 : Int) - 1) = ((k2 - 1 : Nat) : Int) := by rw [bW (by omega) (by omega)]; omega
 have w2 : i64.wrap ((k2 : Int) + 1) = ((k2 + 1 : Nat) : Int) := by rw [bW (by omega) (by omega)]; omega
 have w3 : i64.wrap ((k : Int) + 1) = ((k + 1 : Nat) : Int) := by rw [bW (by omega) (by omega)]; omega
 refine aL (fun h => ?_) (fun h => ?_)
 ·have hlt : k2 < n4 - k0 := by have := of_decide_eq_true h; omega
  refine aD (dqt (by omega)) (aD (dqt (by omega)) (aD (dqt (by rw [w1]; omega)) (aD (dqt (by rw [w1]; omega)) (aL (fun _ => ?_) (fun _ => ?_)))))
  ·refine aD (dqt (by omega)) (aD (dqt (by omega)) (aD (dqt (by omega)) (aD (dqt (by omega)) (cv ?_))))
   rw [w2, w3]
   exact ih hlt (by omega) (k + 1) _ (by omega)
  ·refine cv ?_
   rw [w2]
   exact ih hlt (by omega) k _ (by omega)
 ·have hge : ¬ k2 < n4 - k0 := by have := of_decide_eq_false h; omega
  refine aD (dqt (by omega)) (aD (dqt (by omega)) (aD (dqt (by omega)) ?_))
  try refine cB fun _ => ?_
  exact mH (dqt (by omega)) (evRet rfl)
theorem C6 (n0 : Nat) (f0 : FnV) (s2 : ByteArray) (x3 : Int) (n4 : Nat) (f4 : FnV) (x6 : Int) (h8 : n4 <= 8) (h2 : 2 <= n4) : ∀ i : Nat, i <= n4 -> 1 <= i -> (∀ j, j < i -> (decide (0 < j) && eqP f4 j (j - 1)) = false) -> ∀ f : Nat -> List V, (∀ i j, eqP f i j = eqP f4 i j) -> Ev (ja n0 f0 s2 x3 n4 f4 x6) (.L0 i f) (.int .i64 (bif gG n4 f4 then 2 else ed x3 n4)) := by
 refine dH fun i hi ih h1 hj f hf => Ev.of rfl ?_
 have w1 : i64.wrap ((i : Int) - 1) = ((i - 1 : Nat) : Int) := by rw [bW (by omega) (by omega)]; omega
 have w2 : i64.wrap ((i : Int) + 1) = ((i + 1 : Nat) : Int) := by rw [bW (by omega) (by omega)]; omega
 refine aL (fun h => ?_) (fun h => ?_)
 ·have hlt : i < n4 := by have := of_decide_eq_true h; omega
  refine aD (dqt (by omega)) (aD (dqt (by omega)) (aD (dqt (by rw [w1]; omega)) (aD (dqt (by rw [w1]; omega)) (aL (fun hb => ?_) (fun hb => ?_)))))
  ·have hb' : eqP f4 i (i - 1) = true := by
    rw [← hf]; rw [w1] at hb; simpa only [Int.toNat_natCast, eqP] using hb
   rw [show gG n4 f4 = true from eK i hlt (by rw [hb']; simp; omega), cond_true]
   refine aD (dqt (by omega)) (bo ?_)
   have := DH n0 f0 s2 x3 n4 f4 x6 h8 i h1 hlt
   simp only [Int.toNat_natCast]
   exact this _ _ _ _ _ _ _ 1 (by omega) (by omega) i _ (by omega)
  ·have hb' : eqP f4 i (i - 1) = false := by
    rw [← hf]; rw [w1] at hb; simpa only [Int.toNat_natCast, eqP] using hb
   refine cv ?_
   rw [w2]
   refine ih hlt (by omega) (fun j h3 => ?_) _ (fun a b => hf a b)
   by_cases e : j = i
   ·subst e; rw [hb', Bool.and_false]
   ·exact hj j (by omega)
 ·have : i = n4 := by have := of_decide_eq_false h; omega
  subst this
  rw [show gG i f4 = false from eE hj, cond_false]
  try refine cB fun _ => ?_
  exact kq iy
theorem Bb (n0 : Nat) (f0 : FnV) (s2 : ByteArray) (x3 : Int) (n4 : Nat) (f4 : FnV) (x6 : Int) (h8 : n4 <= 8) (h2 : 2 <= n4) (f : Nat -> List V) (hf : ∀ i j, eqP f i j = eqP f4 i j) : Ev (ja n0 f0 s2 x3 n4 f4 x6) (.L0 1 f) (.int .i64 (bif gG n4 f4 then 2 else ed x3 n4)) := C6 n0 f0 s2 x3 n4 f4 x6 h8 h2 1 (by omega) (Nat.le_refl _) (fun j hj => by
 have : j = 0 := by omega
 subst this; rfl) f hf
theorem DA (n0 : Nat) (f0 : FnV) (s2 : ByteArray) (x3 : Int) (n4 : Nat) (f4 : FnV) (x6 : Int) (h8 : n4 <= 8) (k0 : Nat) (hk : 1 <= k0) (hk' : k0 < n4) (t1 t2 t3 : Int) (t4 : Nat) (t5 t6 t7 : Int) : ∀ k2 : Nat, k2 <= n4 - k0 -> 1 <= k2 -> ∀ (k : Nat) (f : Nat -> List V), k + 1 <= k0 + k2 -> Ev (ja n0 f0 s2 x3 n4 f4 x6) (.L5 k2 k0 (n4 - k0) t1 t2 t3 t4 t5 t6 t7 k f) (.int .i64 2) := by
 refine dH fun k2 hk2 ih h1 k f hkk => Ev.of rfl ?_
 have w1 : i64.wrap ((k2 : Int) - 1) = ((k2 - 1 : Nat) : Int) := by rw [bW (by omega) (by omega)]; omega
 have w2 : i64.wrap ((k2 : Int) + 1) = ((k2 + 1 : Nat) : Int) := by rw [bW (by omega) (by omega)]; omega
 have w3 : i64.wrap ((k : Int) + 1) = ((k + 1 : Nat) : Int) := by rw [bW (by omega) (by omega)]; omega
 refine aL (fun h => ?_) (fun h => ?_)
 ·have hlt : k2 < n4 - k0 := by have := of_decide_eq_true h; omega
  refine aD (dqt (by omega)) (aD (dqt (by omega)) (aD (dqt (by rw [w1]; omega)) (aD (dqt (by rw [w1]; omega)) (aL (fun _ => ?_) (fun _ => ?_)))))
  ·refine aD (dqt (by omega)) (aD (dqt (by omega)) (aD (dqt (by omega)) (aD (dqt (by omega)) (cv ?_))))
   rw [w2, w3]
   exact ih hlt (by omega) (k + 1) _ (by omega)
  ·refine cv ?_
   rw [w2]
   exact ih hlt (by omega) k _ (by omega)
 ·have hge : ¬ k2 < n4 - k0 := by have := of_decide_eq_false h; omega
  refine aD (dqt (by omega)) (aD (dqt (by omega)) (aD (dqt (by omega)) ?_))
  try refine cB fun _ => ?_
  exact mH (dqt (by omega)) (evRet rfl)
theorem EE (n0 : Nat) (f0 : FnV) (s2 : ByteArray) (x3 : Int) (n4 : Nat) (f4 : FnV) (x6 : Int) (h8 : n4 <= 8) (h2 : 2 <= n4) : ∀ i : Nat, i <= n4 -> 1 <= i -> (∀ j, j < i -> (decide (0 < j) && eqP f4 j (j - 1)) = false) -> ∀ f : Nat -> List V, (∀ i j, eqP f i j = eqP f4 i j) -> Ev (ja n0 f0 s2 x3 n4 f4 x6) (.L1 i f) (.int .i64 (bif gG n4 f4 then 2 else ed x3 n4)) := by
 refine dH fun i hi ih h1 hj f hf => Ev.of rfl ?_
 have w1 : i64.wrap ((i : Int) - 1) = ((i - 1 : Nat) : Int) := by rw [bW (by omega) (by omega)]; omega
 have w2 : i64.wrap ((i : Int) + 1) = ((i + 1 : Nat) : Int) := by rw [bW (by omega) (by omega)]; omega
 refine aL (fun h => ?_) (fun h => ?_)
 ·have hlt : i < n4 := by have := of_decide_eq_true h; omega
  refine aD (dqt (by omega)) (aD (dqt (by omega)) (aD (dqt (by rw [w1]; omega)) (aD (dqt (by rw [w1]; omega)) (aL (fun hb => ?_) (fun hb => ?_)))))
  ·have hb' : eqP f4 i (i - 1) = true := by
    rw [← hf]; rw [w1] at hb; simpa only [Int.toNat_natCast, eqP] using hb
   rw [show gG n4 f4 = true from eK i hlt (by rw [hb']; simp; omega), cond_true]
   refine aD (dqt (by omega)) (bo ?_)
   have := DA n0 f0 s2 x3 n4 f4 x6 h8 i h1 hlt
   simp only [Int.toNat_natCast]
   exact this _ _ _ _ _ _ _ 1 (by omega) (by omega) i _ (by omega)
  ·have hb' : eqP f4 i (i - 1) = false := by
    rw [← hf]; rw [w1] at hb; simpa only [Int.toNat_natCast, eqP] using hb
   refine cv ?_
   rw [w2]
   refine ih hlt (by omega) (fun j h3 => ?_) _ (fun a b => hf a b)
   by_cases e : j = i
   ·subst e; rw [hb', Bool.and_false]
   ·exact hj j (by omega)
 ·have : i = n4 := by have := of_decide_eq_false h; omega
  subst this
  rw [show gG i f4 = false from eE hj, cond_false]
  try refine cB fun _ => ?_
  exact kq iy
theorem Cc (n0 : Nat) (f0 : FnV) (s2 : ByteArray) (x3 : Int) (n4 : Nat) (f4 : FnV) (x6 : Int) (h8 : n4 <= 8) (h2 : 2 <= n4) (f : Nat -> List V) (hf : ∀ i j, eqP f i j = eqP f4 i j) : Ev (ja n0 f0 s2 x3 n4 f4 x6) (.L1 1 f) (.int .i64 (bif gG n4 f4 then 2 else ed x3 n4)) := EE n0 f0 s2 x3 n4 f4 x6 h8 h2 1 (by omega) (Nat.le_refl _) (fun j hj => by
 have : j = 0 := by omega
 subst this; rfl) f hf
theorem DC (n0 : Nat) (f0 : FnV) (s2 : ByteArray) (x3 : Int) (n4 : Nat) (f4 : FnV) (x6 : Int) (h8 : n4 <= 8) (k0 : Nat) (hk : 1 <= k0) (hk' : k0 < n4) (t1 t2 t3 : Int) (t4 : Nat) (t5 t6 t7 : Int) : ∀ k2 : Nat, k2 <= n4 - k0 -> 1 <= k2 -> ∀ (k : Nat) (f : Nat -> List V), k + 1 <= k0 + k2 -> Ev (ja n0 f0 s2 x3 n4 f4 x6) (.L6 k2 k0 (n4 - k0) t1 t2 t3 t4 t5 t6 t7 k f) (.int .i64 2) := by
 refine dH fun k2 hk2 ih h1 k f hkk => Ev.of rfl ?_
 have w1 : i64.wrap ((k2 : Int) - 1) = ((k2 - 1 : Nat) : Int) := by rw [bW (by omega) (by omega)]; omega
 have w2 : i64.wrap ((k2 : Int) + 1) = ((k2 + 1 : Nat) : Int) := by rw [bW (by omega) (by omega)]; omega
 have w3 : i64.wrap ((k : Int) + 1) = ((k + 1 : Nat) : Int) := by rw [bW (by omega) (by omega)]; omega
 refine aL (fun h => ?_) (fun h => ?_)
 ·have hlt : k2 < n4 - k0 := by have := of_decide_eq_true h; omega
  refine aD (dqt (by omega)) (aD (dqt (by omega)) (aD (dqt (by rw [w1]; omega)) (aD (dqt (by rw [w1]; omega)) (aL (fun _ => ?_) (fun _ => ?_)))))
  ·refine aD (dqt (by omega)) (aD (dqt (by omega)) (aD (dqt (by omega)) (aD (dqt (by omega)) (cv ?_))))
   rw [w2, w3]
   exact ih hlt (by omega) (k + 1) _ (by omega)
  ·refine cv ?_
   rw [w2]
   exact ih hlt (by omega) k _ (by omega)
 ·have hge : ¬ k2 < n4 - k0 := by have := of_decide_eq_false h; omega
  refine aD (dqt (by omega)) (aD (dqt (by omega)) (aD (dqt (by omega)) ?_))
  try refine cB fun _ => ?_
  exact mH (dqt (by omega)) (evRet rfl)
theorem EY (n0 : Nat) (f0 : FnV) (s2 : ByteArray) (x3 : Int) (n4 : Nat) (f4 : FnV) (x6 : Int) (h8 : n4 <= 8) (h2 : 2 <= n4) : ∀ i : Nat, i <= n4 -> 1 <= i -> (∀ j, j < i -> (decide (0 < j) && eqP f4 j (j - 1)) = false) -> ∀ f : Nat -> List V, (∀ i j, eqP f i j = eqP f4 i j) -> Ev (ja n0 f0 s2 x3 n4 f4 x6) (.L2 i f) (.int .i64 (bif gG n4 f4 then 2 else ed x3 n4)) := by
 refine dH fun i hi ih h1 hj f hf => Ev.of rfl ?_
 have w1 : i64.wrap ((i : Int) - 1) = ((i - 1 : Nat) : Int) := by rw [bW (by omega) (by omega)]; omega
 have w2 : i64.wrap ((i : Int) + 1) = ((i + 1 : Nat) : Int) := by rw [bW (by omega) (by omega)]; omega
 refine aL (fun h => ?_) (fun h => ?_)
 ·have hlt : i < n4 := by have := of_decide_eq_true h; omega
  refine aD (dqt (by omega)) (aD (dqt (by omega)) (aD (dqt (by rw [w1]; omega)) (aD (dqt (by rw [w1]; omega)) (aL (fun hb => ?_) (fun hb => ?_)))))
  ·have hb' : eqP f4 i (i - 1) = true := by
    rw [← hf]; rw [w1] at hb; simpa only [Int.toNat_natCast, eqP] using hb
   rw [show gG n4 f4 = true from eK i hlt (by rw [hb']; simp; omega), cond_true]
   refine aD (dqt (by omega)) (bo ?_)
   have := DC n0 f0 s2 x3 n4 f4 x6 h8 i h1 hlt
   simp only [Int.toNat_natCast]
   exact this _ _ _ _ _ _ _ 1 (by omega) (by omega) i _ (by omega)
  ·have hb' : eqP f4 i (i - 1) = false := by
    rw [← hf]; rw [w1] at hb; simpa only [Int.toNat_natCast, eqP] using hb
   refine cv ?_
   rw [w2]
   refine ih hlt (by omega) (fun j h3 => ?_) _ (fun a b => hf a b)
   by_cases e : j = i
   ·subst e; rw [hb', Bool.and_false]
   ·exact hj j (by omega)
 ·have : i = n4 := by have := of_decide_eq_false h; omega
  subst this
  rw [show gG i f4 = false from eE hj, cond_false]
  try refine cB fun _ => ?_
  exact kq iy
theorem Cd (n0 : Nat) (f0 : FnV) (s2 : ByteArray) (x3 : Int) (n4 : Nat) (f4 : FnV) (x6 : Int) (h8 : n4 <= 8) (h2 : 2 <= n4) (f : Nat -> List V) (hf : ∀ i j, eqP f i j = eqP f4 i j) : Ev (ja n0 f0 s2 x3 n4 f4 x6) (.L2 1 f) (.int .i64 (bif gG n4 f4 then 2 else ed x3 n4)) := EY n0 f0 s2 x3 n4 f4 x6 h8 h2 1 (by omega) (Nat.le_refl _) (fun j hj => by
 have : j = 0 := by omega
 subst this; rfl) f hf
theorem DW (n0 : Nat) (f0 : FnV) (s2 : ByteArray) (x3 : Int) (n4 : Nat) (f4 : FnV) (x6 : Int) (h8 : n4 <= 8) (k0 : Nat) (hk : 1 <= k0) (hk' : k0 < n4) (t1 t2 t3 : Int) (t4 : Nat) (t5 t6 t7 : Int) : ∀ k2 : Nat, k2 <= n4 - k0 -> 1 <= k2 -> ∀ (k : Nat) (f : Nat -> List V), k + 1 <= k0 + k2 -> Ev (ja n0 f0 s2 x3 n4 f4 x6) (.L7 k2 k0 (n4 - k0) t1 t2 t3 t4 t5 t6 t7 k f) (.int .i64 2) := by
 refine dH fun k2 hk2 ih h1 k f hkk => Ev.of rfl ?_
 have w1 : i64.wrap ((k2 : Int) - 1) = ((k2 - 1 : Nat) : Int) := by rw [bW (by omega) (by omega)]; omega
 have w2 : i64.wrap ((k2 : Int) + 1) = ((k2 + 1 : Nat) : Int) := by rw [bW (by omega) (by omega)]; omega
 have w3 : i64.wrap ((k : Int) + 1) = ((k + 1 : Nat) : Int) := by rw [bW (by omega) (by omega)]; omega
 refine aL (fun h => ?_) (fun h => ?_)
 ·have hlt : k2 < n4 - k0 := by have := of_decide_eq_true h; omega
  refine aD (dqt (by omega)) (aD (dqt (by omega)) (aD (dqt (by rw [w1]; omega)) (aD (dqt (by rw [w1]; omega)) (aL (fun _ => ?_) (fun _ => ?_)))))
  ·refine aD (dqt (by omega)) (aD (dqt (by omega)) (aD (dqt (by omega)) (aD (dqt (by omega)) (cv ?_))))
   rw [w2, w3]
   exact ih hlt (by omega) (k + 1) _ (by omega)
  ·refine cv ?_
   rw [w2]
   exact ih hlt (by omega) k _ (by omega)
 ·have hge : ¬ k2 < n4 - k0 := by have := of_decide_eq_false h; omega
  refine aD (dqt (by omega)) (aD (dqt (by omega)) (aD (dqt (by omega)) ?_))
  try refine cB fun _ => ?_
  exact mH (dqt (by omega)) (evRet rfl)
theorem Dj (n0 : Nat) (f0 : FnV) (s2 : ByteArray) (x3 : Int) (n4 : Nat) (f4 : FnV) (x6 : Int) (h8 : n4 <= 8) (h2 : 2 <= n4) : ∀ i : Nat, i <= n4 -> 1 <= i -> (∀ j, j < i -> (decide (0 < j) && eqP f4 j (j - 1)) = false) -> ∀ f : Nat -> List V, (∀ i j, eqP f i j = eqP f4 i j) -> Ev (ja n0 f0 s2 x3 n4 f4 x6) (.L3 i f) (.int .i64 (bif gG n4 f4 then 2 else ed x3 n4)) := by
 refine dH fun i hi ih h1 hj f hf => Ev.of rfl ?_
 have w1 : i64.wrap ((i : Int) - 1) = ((i - 1 : Nat) : Int) := by rw [bW (by omega) (by omega)]; omega
 have w2 : i64.wrap ((i : Int) + 1) = ((i + 1 : Nat) : Int) := by rw [bW (by omega) (by omega)]; omega
 refine aL (fun h => ?_) (fun h => ?_)
 ·have hlt : i < n4 := by have := of_decide_eq_true h; omega
  refine aD (dqt (by omega)) (aD (dqt (by omega)) (aD (dqt (by rw [w1]; omega)) (aD (dqt (by rw [w1]; omega)) (aL (fun hb => ?_) (fun hb => ?_)))))
  ·have hb' : eqP f4 i (i - 1) = true := by
    rw [← hf]; rw [w1] at hb; simpa only [Int.toNat_natCast, eqP] using hb
   rw [show gG n4 f4 = true from eK i hlt (by rw [hb']; simp; omega), cond_true]
   refine aD (dqt (by omega)) (bo ?_)
   have := DW n0 f0 s2 x3 n4 f4 x6 h8 i h1 hlt
   simp only [Int.toNat_natCast]
   exact this _ _ _ _ _ _ _ 1 (by omega) (by omega) i _ (by omega)
  ·have hb' : eqP f4 i (i - 1) = false := by
    rw [← hf]; rw [w1] at hb; simpa only [Int.toNat_natCast, eqP] using hb
   refine cv ?_
   rw [w2]
   refine ih hlt (by omega) (fun j h3 => ?_) _ (fun a b => hf a b)
   by_cases e : j = i
   ·subst e; rw [hb', Bool.and_false]
   ·exact hj j (by omega)
 ·have : i = n4 := by have := of_decide_eq_false h; omega
  subst this
  rw [show gG i f4 = false from eE hj, cond_false]
  try refine cB fun _ => ?_
  exact kq iy
theorem Cq (n0 : Nat) (f0 : FnV) (s2 : ByteArray) (x3 : Int) (n4 : Nat) (f4 : FnV) (x6 : Int) (h8 : n4 <= 8) (h2 : 2 <= n4) (f : Nat -> List V) (hf : ∀ i j, eqP f i j = eqP f4 i j) : Ev (ja n0 f0 s2 x3 n4 f4 x6) (.L3 1 f) (.int .i64 (bif gG n4 f4 then 2 else ed x3 n4)) := Dj n0 f0 s2 x3 n4 f4 x6 h8 h2 1 (by omega) (Nat.le_refl _) (fun j hj => by
 have : j = 0 := by omega
 subst this; rfl) f hf
theorem CO (n0 : Nat) (f0 : FnV) (s2 : ByteArray) (x3 : Int) (n4 : Nat) (f4 : FnV) (x6 : Int) (hp : s2.size <= 9223372036854775807) : evR (Ev (ja n0 f0 s2 x3 n4 f4 x6)) (m63 n0 f0 s2 x3 n4 f4 x6) (.int .i64 (F63 n0 f0 s2 x3 n4 f4 x6)) := by
 unfold F63
 refine evObp hp (evObt ?_)
 refine aL (fun h => evRet (by rw [h]; rfl)) (fun h => ?_)
 rw [h, cond_false]
 refine ao (evObt (aL (fun h => evRet (by rw [show ol n0 f0 s2 = true from h]; rfl)) (fun h => ?_)))
 rw [show ol n0 f0 s2 = false from h, cond_false]
 refine ao (evObt (aL (fun h => evRet (by rw [h]; rfl)) (fun h => ?_)))
 rw [h, cond_false]
 refine da fun hn => aL (fun h => evRet (by rw [h]; rfl)) (fun h2 => ?_)
 rw [h2, cond_false]
 refine da fun hn => aL (fun h => evRet (by rw [h]; rfl)) (fun h8 => ?_)
 rw [h8, cond_false]
 have h2 : 2 <= n4 := by have := of_decide_eq_false h2; omega
 have h8 : n4 <= 8 := by have := of_decide_eq_false h8; omega
 have e2 : decide ((n4 : Int) < 2) = false := dqf (by omega)
 refine ao (evObt (ak (aL (fun h => ?_) (fun h => evRet (by rw [show (!!ge n4 f4) = true from by rw [show (!ge n4 f4) = false from h]; rfl]; rfl)))))
 rw [show (!!ge n4 f4) = false from by rw [show (!ge n4 f4) = true from h]; rfl, cond_false]
 refine aD h (ao (evObt (aL (fun h => evRet (by rw [h]; rfl)) (fun h => ?_))))
 rw [h, cond_false]
 have h16 : (decide (n4 * 16 <= 140737488355328) && !Nat.beq 16 0) = true := by rw [dqt (show n4 * 16 <= 140737488355328 by omega)]; rfl
 have hne : n4 = 0 -> False := by omega
 have hi : ∀ i j, eqP (elV tp2 f4) i j = eqP f4 i j := fun _ _ => rfl
 repeat' (first
  | exact cB (fun h0 => (hne h0).elim)
  | exact bo (Bb _ _ _ _ _ _ _ h8 h2 _ hi)
  | exact bo (Cc _ _ _ _ _ _ _ h8 h2 _ hi)
  | exact bo (Cd _ _ _ _ _ _ _ h8 h2 _ hi)
  | exact bo (Cq _ _ _ _ _ _ _ h8 h2 _ hi)
  | refine Em ?_ ?_
  | refine cB (fun _ => ?_)
  | refine DV ?_
  | refine aD h16 ?_
  | refine pY e2 ?_
  | refine pY rfl ?_
  | refine mH rfl ?_)
theorem GF (n0 : Nat) (f0 : FnV) (s2 : ByteArray) (x3 : Int) (n4 : Nat) (f4 : FnV) (x6 : Int) (hp : s2.size <= 9223372036854775807) : evR (Ev (ja n0 f0 s2 x3 n4 f4 x6)) (m63 n0 f0 s2 x3 n4 f4 x6) (.int .i64 (F63 n0 (elV tyR f0) s2 x3 n4 (elV tp2 f4) x6)) := CO n0 f0 s2 x3 n4 f4 x6 hp
def C63 : aI := mkC [.sl tyR, .agg tyR] (fun
 | [.sl n0 f0, .agg [.str s2, .int _ x3, .sl n4 f4, .int _ x6]] => s2.size <= 9223372036854775807
 | _ => False) fun
 | [.sl n0 f0, .agg [.str s2, .int _ x3, .sl n4 f4, .int _ x6]] => .int .i64 (F63 n0 f0 s2 x3 n4 f4 x6)
 | _ => .any
theorem zW : (vP C63).Ok Tryz.prog 63 := mkE sj Tryz.func63 (by kernel_rfl) fun ds hp => rfs (DZ ..) (GF _ _ _ _ _ _ _ hp)
def m69 (n0 : Nat) (f0 : FnV) (s2 : ByteArray) (x3 x4 x5 x6 x7 : Int) : RT Empty := .obp (s2.size <= (9223372036854775807 : Nat)) (.obt (.br (!j8 s2) (.ret (vi 6)) (.obc (.obt (.br (pr n0 (elV tyC f0) s2) (.ret (vi 5)) (.obc (.obt (.obi (.br (!dl 2 (elV tp1 (aV [vi x3, vi x4] 0 1))) (.ob (!dl 2 (elV tp1 (aV [vi x3, vi x4] 0 1))) (.obc (.obt (.obi (.br (!be x5 1 200) (.ob (!be x5 1 200) (.obc (.obt (.obi (.br (!be x6 (-1000) 1000) (.ob (!be x6 (-1000) 1000) (.obc (.obt (.br (be x7 (-1000) 1000) (.ret (vi 7)) (.obi (.obi (.obi (.br (bif x6 == 0 then x7 == 0 else false) (.ret (vi 2)) (.ret (vi 0)))))))))) (.ret (vi 7))))))) (.ret (vi 7))))))) (.ret (vi 7)))))))))))
theorem EK (n0 : Nat) (f0 : FnV) (s2 : ByteArray) (x3 x4 x5 x6 x7 : Int) : Fit noD (aY JJ jy u0 s69 [V.sl n0 (elV tyC f0), V.agg [V.str s2, vi x3, vi x4, vi x5, vi x6, vi x7]]) (m69 n0 f0 s2 x3 x4 x5 x6 x7) := ⟨by kernel_rfl, by kernel_rfl⟩
def gA (n0 : Nat) (f0 : FnV) (s2 : ByteArray) (x3 x4 x5 x6 x7 : Int) : Int := bif !j8 s2 then 6 else bif pr n0 (elV tyC f0) s2 then 5 else bif !dl 2 (elV tp1 (aV [vi x3, vi x4] 0 1)) then bif !be x5 1 200 then bif !be x6 (-1000) 1000 then bif be x7 (-1000) 1000 then 7 else bif bif x6 == 0 then x7 == 0 else false then 2 else 0 else 7 else 7 else 7
def R69 (n0 : Nat) (f0 : FnV) (s2 : ByteArray) (x3 x4 x5 x6 x7 : Int) : V := .int i64 (gA n0 f0 s2 x3 x4 x5 x6 x7)
theorem HP (n0 : Nat) (f0 : FnV) (s2 : ByteArray) (x3 x4 x5 x6 x7 : Int) (hp : s2.size <= 9223372036854775807) : evR noE (m69 n0 f0 s2 x3 x4 x5 x6 x7) (R69 n0 f0 s2 x3 x4 x5 x6 x7) := evObp (by first | assumption | (exact hp)) (evObt (aL (fun h0 => evRet (by unfold R69 gA; try rw [h0]; rfl)) (fun h0 => ao (evObt (aL (fun h1 => evRet (by unfold R69 gA; try rw [h0]; try rw [h1]; rfl)) (fun h1 => ao (evObt (ak (aL (fun h2 => aD (by first | assumption | (fail)) (ao (evObt (ak (aL (fun h3 => aD (by first | assumption | (fail)) (ao (evObt (ak (aL (fun h4 => aD (by first | assumption | (fail)) (ao (evObt (aL (fun h5 => evRet (by unfold R69 gA; try rw [h0]; try rw [h1]; try rw [h2]; try rw [h3]; try rw [h4]; try rw [h5]; rfl)) (fun h5 => ak (ak (ak (aL (fun h6 => evRet (by unfold R69 gA; try rw [h0]; try rw [h1]; try rw [h2]; try rw [h3]; try rw [h4]; try rw [h5]; try rw [h6]; rfl)) (fun h6 => evRet (by unfold R69 gA; try rw [h0]; try rw [h1]; try rw [h2]; try rw [h3]; try rw [h4]; try rw [h5]; try rw [h6]; rfl)))))))))) (fun h4 => evRet (by unfold R69 gA; try rw [h0]; try rw [h1]; try rw [h2]; try rw [h3]; try rw [h4]; rfl))))))) (fun h3 => evRet (by unfold R69 gA; try rw [h0]; try rw [h1]; try rw [h2]; try rw [h3]; rfl))))))) (fun h2 => evRet (by unfold R69 gA; try rw [h0]; try rw [h1]; try rw [h2]; rfl)))))))))))
def C69 : aI := mkC [.sl tyC, .agg tyC] (fun
 | [.sl n0 f0, .agg [.str s2, .int _ x3, .int _ x4, .int _ x5, .int _ x6, .int _ x7]] => s2.size <= 9223372036854775807
 | _ => False) fun
 | [.sl n0 f0, .agg [.str s2, .int _ x3, .int _ x4, .int _ x5, .int _ x6, .int _ x7]] => R69 n0 f0 s2 x3 x4 x5 x6 x7
 | _ => .any
theorem zp : (vP C69).Ok Tryz.prog 69 := mkE sj Tryz.func69 (by kernel_rfl) fun ds hp => rf0 (EK ..) (HP _ _ _ _ _ _ _ _ hp)
noncomputable section
def oA : bc := (63, .con C63) :: (69, .con C69) :: jy
theorem sr : aX Tryz.prog eqs its oA := .con zW (.con zp (sj))
def Ez (x y : Int) : Bool := F51 2 (elV tp1 (aV [V.int .i64 x, V.int .i64 y] 0 ((1 + 1 - 0) / 2)))
def ES (k : Int) (n : Nat) (f : Nat -> List V) (h : Int) : Int := bif !lV k 0 3 then 2 else bif decide ((n : Int) < 2) then 4 else bif decide (8 < (n : Int)) then 3 else bif exB n (fun i => !Ez (jv0 (f i)) (jv1 (f i))) then 7 else bif !lV h 100 30000 then 7 else bif gG n f then 2 else ed k n
def F70 (n0 : Nat) (f0 : FnV) (x8 : Int) : Int := bif !D6 (sv (hdV (f0 x8.toNat))) then 6 else bif exB x8.toNat (fun k => (sv (hdV (f0 k))).toList == (sv (hdV (f0 x8.toNat))).toList) then 5 else ES (jv1 (f0 x8.toNat)) (cz (hdV (tlV (tlV (f0 x8.toNat))))) (atV (hdV (tlV (tlV (f0 x8.toNat))))) (jv3 (f0 x8.toNat))
inductive S62 where
 | L0 (ia0 : Int)
def Dd (n0 : Nat) (f0 : FnV) : S62 -> Env × List O × Option Ex
 | .L0 ia0 => ([(11, vi ia0), (10, vi (↑n0 : Int)), (9, V.sl n0 (elV tyR f0)), (5, vi 0), (4, vi 0), (0, V.sl n0 (elV tyR f0)), (1, V.fn 63 [] [])], [], none)
def HM : S62 -> JJ
 | .L0 ia0 => (0, [])
def Eb (n0 : Nat) (f0 : FnV) : T (bQ JJ) := aY JJ oA u0 s62 [V.sl n0 (elV tyR f0), V.fn 63 [] []]
def vV (n0 : Nat) (f0 : FnV) (cx : List Cx) : Lp JJ := lpT (atT (Eb n0 f0) [])
def Hu (n0 : Nat) (f0 : FnV) : JJ -> Lp JJ
 | (0, cx) => vV n0 f0 cx
 | (_, cx) => vV n0 f0 cx
def D62 (n0 : Nat) (f0 : FnV) : LD JJ S62 := ⟨HM, Hu n0 f0, Dd n0 f0⟩
def A1 (n0 : Nat) (f0 : FnV) : S62 -> RT S62
 | .L0 ia0 => .br (decide (ia0 < (↑n0 : Int))) (.ob (decide (0 <= ia0 /\ ia0 < (↑n0 : Int))) (.ob (decide (0 <= ia0 /\ ia0 <= (↑n0 : Int))) (.obp ((sv (hdV (f0 ia0.toNat))).size <= (9223372036854775807 : Nat)) (.obt (.br (F63 (ia0.toNat - 0) (fun i => elV tyR f0 (0 + i)) (sv (hdV (f0 ia0.toNat))) (jv1 (f0 ia0.toNat)) (cz (hdV (tlV (tlV (f0 ia0.toNat))))) (fun i => al tp2 (atV (hdV (tlV (tlV (f0 ia0.toNat)))) i)) (jv3 (f0 ia0.toNat)) != 0) (.ret (V.tup [vi ia0, vi (F63 (ia0.toNat - 0) (fun i => elV tyR f0 (0 + i)) (sv (hdV (f0 ia0.toNat))) (jv1 (f0 ia0.toNat)) (cz (hdV (tlV (tlV (f0 ia0.toNat))))) (fun i => al tp2 (atV (hdV (tlV (tlV (f0 ia0.toNat)))) i)) (jv3 (f0 ia0.toNat)))])) (.next [] (S62.L0 (i64.wrap (ia0 + 1))) [])))))) (.ret (V.tup [vi 0, vi 0]))
def m62 (n0 : Nat) (f0 : FnV) : RT S62 := .asm (true = true -> n0 <= 9223372036854775807) (.enter [] (S62.L0 (0)) [])
theorem Ed (n0 : Nat) (f0 : FnV) : iC oA u0 (D62 n0 f0) (Eb n0 f0) (m62 n0 f0) (A1 n0 f0) := ⟨⟨by kernel_rfl, by kernel_rfl⟩, fun s => by cases s <;> exact ⟨by kernel_rfl, by kernel_rfl⟩⟩
def c62 (n0 : Nat) (f0 : FnV) (ii : Nat) : Int := (F63 (ii - 0) (fun i => elV tyR f0 (0 + i)) (sv (hdV (f0 ii))) (jv1 (f0 ii)) (cz (hdV (tlV (tlV (f0 ii))))) (fun i => al tp2 (atV (hdV (tlV (tlV (f0 ii)))) i)) (jv3 (f0 ii)))
def rj (n0 : Nat) (f0 : FnV) : Int := eT n0 (c62 n0 f0)
def jR (n0 : Nat) (f0 : FnV) : Int := ef n0 (c62 n0 f0)
theorem BW (n0 : Nat) (f0 : FnV) (hp : cG n0 f0) : evR (Ev (A1 n0 f0)) (m62 n0 f0) (.tup [.int .i64 (rj n0 f0), .int .i64 (jR n0 f0)]) := da fun hn => bo (jV (Q := fun i => (sv (hdV (f0 i))).size <= 9223372036854775807) (fun i x => .obp ((sv (hdV (f0 i))).size <= 9223372036854775807) (.obt x)) (fun i x r h hx => evObp h (evObt hx)) (fun _ _ => rfl) hn hp fun i => rfl)
theorem HJ (n0 : Nat) (f0 : FnV) (hp : cG n0 (elV tyR f0)) : evR (Ev (A1 n0 f0)) (m62 n0 f0) (.tup [.int .i64 (rj n0 (elV tyR f0)), .int .i64 (jR n0 (elV tyR f0))]) := BW n0 f0 hp
def C62 : aI := mkC [.sl tyR, .fn 63 [] []] (fun
 | [.sl n0 f0, .fn _ [] []] => cG n0 f0
 | _ => False) fun
 | [.sl n0 f0, .fn _ [] []] => .tup [.int .i64 (rj n0 f0), .int .i64 (jR n0 f0)]
 | _ => .any
theorem zO : (vP C62).Ok Tryz.prog 62 := mkE sr Tryz.func62 (by kernel_rfl) fun ds hp => rfs (Ed ..) (HJ _ _ hp)
inductive S68 where
 | L0 (ia0 : Int)
def EB (n0 : Nat) (f0 : FnV) : S68 -> Env × List O × Option Ex
 | .L0 ia0 => ([(11, vi ia0), (10, vi (↑n0 : Int)), (9, V.sl n0 (elV tyC f0)), (5, vi 0), (4, vi 0), (0, V.sl n0 (elV tyC f0)), (1, V.fn 69 [] [])], [], none)
def Hp : S68 -> JJ
 | .L0 ia0 => (0, [])
def D7 (n0 : Nat) (f0 : FnV) : T (bQ JJ) := aY JJ oA u0 s68 [V.sl n0 (elV tyC f0), V.fn 69 [] []]
def yw (n0 : Nat) (f0 : FnV) (cx : List Cx) : Lp JJ := lpT (atT (D7 n0 f0) [])
def HL (n0 : Nat) (f0 : FnV) : JJ -> Lp JJ
 | (0, cx) => yw n0 f0 cx
 | (_, cx) => yw n0 f0 cx
def D68 (n0 : Nat) (f0 : FnV) : LD JJ S68 := ⟨Hp, HL n0 f0, EB n0 f0⟩
def Cn (n0 : Nat) (f0 : FnV) : S68 -> RT S68
 | .L0 ia0 => .br (decide (ia0 < (↑n0 : Int))) (.ob (decide (0 <= ia0 /\ ia0 < (↑n0 : Int))) (.ob (decide (0 <= ia0 /\ ia0 <= (↑n0 : Int))) (.obp ((sv (hdV (f0 ia0.toNat))).size <= (9223372036854775807 : Nat)) (.obt (.br (gA (ia0.toNat - 0) (fun i => elV tyC f0 (0 + i)) (sv (hdV (f0 ia0.toNat))) (jv1 (f0 ia0.toNat)) (jv2 (f0 ia0.toNat)) (jv3 (f0 ia0.toNat)) (jv4 (f0 ia0.toNat)) (jv5 (f0 ia0.toNat)) != 0) (.ret (V.tup [vi ia0, vi (gA (ia0.toNat - 0) (fun i => elV tyC f0 (0 + i)) (sv (hdV (f0 ia0.toNat))) (jv1 (f0 ia0.toNat)) (jv2 (f0 ia0.toNat)) (jv3 (f0 ia0.toNat)) (jv4 (f0 ia0.toNat)) (jv5 (f0 ia0.toNat)))])) (.next [] (S68.L0 (i64.wrap (ia0 + 1))) [])))))) (.ret (V.tup [vi 0, vi 0]))
def m68 (n0 : Nat) (f0 : FnV) : RT S68 := .asm (true = true -> n0 <= 9223372036854775807) (.enter [] (S68.L0 (0)) [])
theorem DM (n0 : Nat) (f0 : FnV) : iC oA u0 (D68 n0 f0) (D7 n0 f0) (m68 n0 f0) (Cn n0 f0) := ⟨⟨by kernel_rfl, by kernel_rfl⟩, fun s => by cases s <;> exact ⟨by kernel_rfl, by kernel_rfl⟩⟩
def c68 (n0 : Nat) (f0 : FnV) (ii : Nat) : Int := (gA (ii - 0) (fun i => elV tyC f0 (0 + i)) (sv (hdV (f0 ii))) (jv1 (f0 ii)) (jv2 (f0 ii)) (jv3 (f0 ii)) (jv4 (f0 ii)) (jv5 (f0 ii)))
def p7 (n0 : Nat) (f0 : FnV) : Int := eT n0 (c68 n0 f0)
def jt (n0 : Nat) (f0 : FnV) : Int := ef n0 (c68 n0 f0)
theorem Cm (n0 : Nat) (f0 : FnV) (hp : cG n0 f0) : evR (Ev (Cn n0 f0)) (m68 n0 f0) (.tup [.int .i64 (p7 n0 f0), .int .i64 (jt n0 f0)]) := da fun hn => bo (jV (Q := fun i => (sv (hdV (f0 i))).size <= 9223372036854775807) (fun i x => .obp ((sv (hdV (f0 i))).size <= 9223372036854775807) (.obt x)) (fun i x r h hx => evObp h (evObt hx)) (fun _ _ => rfl) hn hp fun i => rfl)
theorem GN (n0 : Nat) (f0 : FnV) (hp : cG n0 (elV tyC f0)) : evR (Ev (Cn n0 f0)) (m68 n0 f0) (.tup [.int .i64 (p7 n0 (elV tyC f0)), .int .i64 (jt n0 (elV tyC f0))]) := Cm n0 f0 hp
def C68 : aI := mkC [.sl tyC, .fn 69 [] []] (fun
 | [.sl n0 f0, .fn _ [] []] => cG n0 f0
 | _ => False) fun
 | [.sl n0 f0, .fn _ [] []] => .tup [.int .i64 (p7 n0 f0), .int .i64 (jt n0 f0)]
 | _ => .any
theorem zQ : (vP C68).Ok Tryz.prog 68 := mkE sr Tryz.func68 (by kernel_rfl) fun ds hp => rfs (DM ..) (GN _ _ hp)
end
noncomputable section
def yy : bc := (62, .con C62) :: (68, .con C68) :: oA
theorem we : aX Tryz.prog eqs its yy := .con zO (.con zQ (sr))
def Dn (x y a z w : Int) : Int := bif !!Ez x y then (bif (bif bif bif !lV a 1 20000 then true else decide (z < 0) then true else decide (w <= z) then true else decide (1000 < w)) then 7 else 0) else 7
def r24 (n : Nat) (c : Nat -> Int) (k : Int) (z : Int × Int × Int) : Int × Int × Int := bif ef n c != 0 then (k, eT n c, ef n c) else z
def cR (n0 : Nat) (f0 : FnV) (i : Nat) : Int := F70 n0 (elV tyR f0) (i : Int)
def cT (f2 : FnV) (i : Nat) : Int := Dn (jv0 (f2 i)) (jv1 (f2 i)) (jv2 (f2 i)) (jv3 (f2 i)) (jv4 (f2 i))
def cF (f4 : FnV) (i : Nat) : Int := F72 (jv0 (f4 i)) (jv1 (f4 i)) (jv2 (f4 i)) (jv3 (f4 i)) (cz (hdV (tlV (tlV (tlV (tlV (f4 i))))))) fun j => al tp4 (atV (hdV (tlV (tlV (tlV (tlV (f4 i)))))) j)
def cC (n6 : Nat) (f6 : FnV) (i : Nat) : Int := F73 n6 (elV tyC f6) (i : Int)
def z3 (n6 : Nat) (f6 : FnV) : Int × Int × Int := r24 n6 (cC n6 f6) 4 (0, 0, 0)
def z2 (n4 : Nat) (f4 : FnV) (n6 : Nat) (f6 : FnV) : Int × Int × Int := r24 n4 (cF f4) 3 (z3 n6 f6)
def z1 (n2 : Nat) (f2 : FnV) (n4 : Nat) (f4 : FnV) (n6 : Nat) (f6 : FnV) : Int × Int × Int := r24 n2 (cT f2) 2 (z2 n4 f4 n6 f6)
def Gi (n0 : Nat) (f0 : FnV) (n2 : Nat) (f2 : FnV) (n4 : Nat) (f4 : FnV) (n6 : Nat) (f6 : FnV) : Bool := bif bif bif decide (8 < (n0 : Int)) then true else decide (12 < (n2 : Int)) then true else decide (8 < (n4 : Int)) then true else decide (24 < (n6 : Int))
def F24 (n0 : Nat) (f0 : FnV) (n2 : Nat) (f2 : FnV) (n4 : Nat) (f4 : FnV) (n6 : Nat) (f6 : FnV) : Int × Int × Int := bif Gi n0 f0 n2 f2 n4 f4 n6 f6 then (0, 0, 3) else r24 n0 (cR n0 f0) 1 (z1 n2 f2 n4 f4 n6 f6)
def DF (n0 : Nat) (f0 : FnV) (n2 : Nat) (f2 : FnV) (n4 : Nat) (f4 : FnV) (n6 : Nat) (f6 : FnV) : Int := (F24 n0 f0 n2 f2 n4 f4 n6 f6).2.2
def m23 (n0 : Nat) (f0 : FnV) (n2 : Nat) (f2 : FnV) (n4 : Nat) (f4 : FnV) (n6 : Nat) (f6 : FnV) : RT Empty := .asm (true = true -> n0 <= 9223372036854775807) (.obi (.obi (.asm ((!decide (8 < (↑n0 : Int))) = true -> n2 <= 9223372036854775807) (.obi (.obi (.obi (.obi (.asm ((!bif decide (8 < (↑n0 : Int)) then true else decide (12 < (↑n2 : Int))) = true -> n4 <= 9223372036854775807) (.obi (.obi (.obi (.obi (.asm ((!bif bif decide (8 < (↑n0 : Int)) then true else decide (12 < (↑n2 : Int)) then true else decide (8 < (↑n4 : Int))) = true -> n6 <= 9223372036854775807) (.obi (.obi (.br (bif bif bif decide (8 < (↑n0 : Int)) then true else decide (12 < (↑n2 : Int)) then true else decide (8 < (↑n4 : Int)) then true else decide (24 < (↑n6 : Int))) (.ret (V.tup [vi 0, vi 0, vi 3])) (.obp (∀ (i : Nat), i < n0 -> (sv (hdV (f0 i))).size <= (9223372036854775807 : Nat)) (.obt (.br (jR n0 (elV tyR f0) != 0) (.ret (V.tup [vi 1, vi (rj n0 (elV tyR f0)), vi (jR n0 (elV tyR f0))])) (.obc (.obt (.br (jJ n2 (elV tyT f2) != 0) (.ret (V.tup [vi 2, vi (qc n2 (elV tyT f2)), vi (jJ n2 (elV tyT f2))])) (.obc (.obt (.br (jH n4 (elV tyF f4) != 0) (.ret (V.tup [vi 3, vi (pX n4 (elV tyF f4)), vi (jH n4 (elV tyF f4))])) (.obp (∀ (i : Nat), i < n6 -> (sv (hdV (f6 i))).size <= (9223372036854775807 : Nat)) (.obt (.br (jt n6 (elV tyC f6) != 0) (.ret (V.tup [vi 4, vi (p7 n6 (elV tyC f6)), vi (jt n6 (elV tyC f6))])) (.ret (V.tup [vi 0, vi 0, vi 0]))))))))))))))))))))))))))))))
theorem Dl (n0 : Nat) (f0 : FnV) (n2 : Nat) (f2 : FnV) (n4 : Nat) (f4 : FnV) (n6 : Nat) (f6 : FnV) : Fit noD (aY JJ yy u0 s23 [scV n0 f0 n2 f2 n4 f4 n6 f6]) (m23 n0 f0 n2 f2 n4 f4 n6 f6) := ⟨by kernel_rfl, by kernel_rfl⟩
def gJ (n0 : Nat) (f0 : FnV) (n2 : Nat) (f2 : FnV) (n4 : Nat) (f4 : FnV) (n6 : Nat) (f6 : FnV) : Int := bif bif bif bif decide (8 < (↑n0 : Int)) then true else decide (12 < (↑n2 : Int)) then true else decide (8 < (↑n4 : Int)) then true else decide (24 < (↑n6 : Int)) then 0 else bif jR n0 (elV tyR f0) != 0 then 1 else bif jJ n2 (elV tyT f2) != 0 then 2 else bif jH n4 (elV tyF f4) != 0 then 3 else bif jt n6 (elV tyC f6) != 0 then 4 else 0
def gY (n0 : Nat) (f0 : FnV) (n2 : Nat) (f2 : FnV) (n4 : Nat) (f4 : FnV) (n6 : Nat) (f6 : FnV) : Int := bif bif bif bif decide (8 < (↑n0 : Int)) then true else decide (12 < (↑n2 : Int)) then true else decide (8 < (↑n4 : Int)) then true else decide (24 < (↑n6 : Int)) then 0 else bif jR n0 (elV tyR f0) != 0 then rj n0 (elV tyR f0) else bif jJ n2 (elV tyT f2) != 0 then qc n2 (elV tyT f2) else bif jH n4 (elV tyF f4) != 0 then pX n4 (elV tyF f4) else bif jt n6 (elV tyC f6) != 0 then p7 n6 (elV tyC f6) else 0
def gw (n0 : Nat) (f0 : FnV) (n2 : Nat) (f2 : FnV) (n4 : Nat) (f4 : FnV) (n6 : Nat) (f6 : FnV) : Int := bif bif bif bif decide (8 < (↑n0 : Int)) then true else decide (12 < (↑n2 : Int)) then true else decide (8 < (↑n4 : Int)) then true else decide (24 < (↑n6 : Int)) then 3 else bif jR n0 (elV tyR f0) != 0 then jR n0 (elV tyR f0) else bif jJ n2 (elV tyT f2) != 0 then jJ n2 (elV tyT f2) else bif jH n4 (elV tyF f4) != 0 then jH n4 (elV tyF f4) else bif jt n6 (elV tyC f6) != 0 then jt n6 (elV tyC f6) else 0
def R23 (n0 : Nat) (f0 : FnV) (n2 : Nat) (f2 : FnV) (n4 : Nat) (f4 : FnV) (n6 : Nat) (f6 : FnV) : V := .tup [.int i64 (gJ n0 f0 n2 f2 n4 f4 n6 f6), .int i64 (gY n0 f0 n2 f2 n4 f4 n6 f6), .int i64 (gw n0 f0 n2 f2 n4 f4 n6 f6)]
theorem Hg (n0 : Nat) (f0 : FnV) (n2 : Nat) (f2 : FnV) (n4 : Nat) (f4 : FnV) (n6 : Nat) (f6 : FnV) (hp : cG n0 f0 /\ cG n6 f6) : evR noE (m23 n0 f0 n2 f2 n4 f4 n6 f6) (R23 n0 f0 n2 f2 n4 f4 n6 f6) := cB (fun a0 => ak (ak (cB (fun a0 => ak (ak (ak (ak (cB (fun a0 => ak (ak (ak (ak (cB (fun a0 => ak (ak (aL (fun h0 => evRet (by unfold R23 gJ gY gw; try rw [h0]; rfl)) (fun h0 => evObp (by first | assumption | ((first | exact hp.1 | exact hp.2))) (evObt (aL (fun h1 => evRet (by unfold R23 gJ gY gw; try rw [h0]; try rw [h1]; rfl)) (fun h1 => ao (evObt (aL (fun h2 => evRet (by unfold R23 gJ gY gw; try rw [h0]; try rw [h1]; try rw [h2]; rfl)) (fun h2 => ao (evObt (aL (fun h3 => evRet (by unfold R23 gJ gY gw; try rw [h0]; try rw [h1]; try rw [h2]; try rw [h3]; rfl)) (fun h3 => evObp (by first | assumption | ((first | exact hp.1 | exact hp.2))) (evObt (aL (fun h4 => evRet (by unfold R23 gJ gY gw; try rw [h0]; try rw [h1]; try rw [h2]; try rw [h3]; try rw [h4]; rfl)) (fun h4 => evRet (by unfold R23 gJ gY gw; try rw [h0]; try rw [h1]; try rw [h2]; try rw [h3]; try rw [h4]; rfl))))))))))))))))))))))))))))))
def C23 : aI := mkC [.agg [.sl tyR, .sl tyT, .sl tyF, .sl tyC]] (fun
 | [.agg [.sl n0 f0, .sl n2 f2, .sl n4 f4, .sl n6 f6]] => cG n0 f0 /\ cG n6 f6
 | _ => False) fun
 | [.agg [.sl n0 f0, .sl n2 f2, .sl n4 f4, .sl n6 f6]] => R23 n0 f0 n2 f2 n4 f4 n6 f6
 | _ => .any
theorem zP : (vP C23).Ok Tryz.prog 23 := mkE we Tryz.func23 (by kernel_rfl) fun ds hp => rf0 (Dl ..) (Hg _ _ _ _ _ _ _ _ hp)
end
noncomputable section
def tu : bc := (23, .con C23) :: yy
theorem xL : aX Tryz.prog eqs its tu := .con zP (we)
inductive S44 where
 | L0 (ia0 ia1 : Int)
def Ef (n0 : Nat) (f0 : FnV) (n2 : Nat) (f2 : FnV) (n4 : Nat) (f4 : FnV) (n6 : Nat) (f6 : FnV) (n8 : Nat) (f8 : FnV) : S44 -> Env × List O × Option Ex
 | .L0 ia0 ia1 => ([(8, vi ia0), (7, vi ia1), (6, vi (gY n0 (elV tyR f0) n2 (elV tyT f2) n4 (elV tyF f4) n6 (elV tyC f6))), (5, vi (gJ n0 (elV tyR f0) n2 (elV tyT f2) n4 (elV tyF f4) n6 (elV tyC f6))), (14, vi (gw n0 (elV tyR f0) n2 (elV tyT f2) n4 (elV tyF f4) n6 (elV tyC f6))), (13, vi (gY n0 (elV tyR f0) n2 (elV tyT f2) n4 (elV tyF f4) n6 (elV tyC f6))), (12, vi (gJ n0 (elV tyR f0) n2 (elV tyT f2) n4 (elV tyF f4) n6 (elV tyC f6))), (9, V.tup [vi (gJ n0 (elV tyR f0) n2 (elV tyT f2) n4 (elV tyF f4) n6 (elV tyC f6)), vi (gY n0 (elV tyR f0) n2 (elV tyT f2) n4 (elV tyF f4) n6 (elV tyC f6)), vi (gw n0 (elV tyR f0) n2 (elV tyT f2) n4 (elV tyF f4) n6 (elV tyC f6))]), (11, V.tup [vi (gJ n0 (elV tyR f0) n2 (elV tyT f2) n4 (elV tyF f4) n6 (elV tyC f6)), vi (gY n0 (elV tyR f0) n2 (elV tyT f2) n4 (elV tyF f4) n6 (elV tyC f6)), vi (gw n0 (elV tyR f0) n2 (elV tyT f2) n4 (elV tyF f4) n6 (elV tyC f6))]), (10, scV n0 f0 n2 f2 n4 f4 n6 f6), (4, vi 0), (2, V.pl 0 0), (0, scV n0 f0 n2 f2 n4 f4 n6 f6), (1, V.sl n8 (elV tp1 f8))], [O.cells [V.sl n0 (elV tyR f0), V.sl n2 (elV tyT f2), V.sl n4 (elV tyF f4), V.sl n6 (elV tyC f6)] 27], none)
def Ht : S44 -> JJ
 | .L0 ia0 ia1 => (0, [])
def Eh (n0 : Nat) (f0 : FnV) (n2 : Nat) (f2 : FnV) (n4 : Nat) (f4 : FnV) (n6 : Nat) (f6 : FnV) (n8 : Nat) (f8 : FnV) : T (bQ JJ) := aY JJ tu u0 s44 [scV n0 f0 n2 f2 n4 f4 n6 f6, V.sl n8 (elV tp1 f8)]
def yv (n0 : Nat) (f0 : FnV) (n2 : Nat) (f2 : FnV) (n4 : Nat) (f4 : FnV) (n6 : Nat) (f6 : FnV) (n8 : Nat) (f8 : FnV) (cx : List Cx) : Lp JJ := lpT (atT (Eh n0 f0 n2 f2 n4 f4 n6 f6 n8 f8) [])
def GV (n0 : Nat) (f0 : FnV) (n2 : Nat) (f2 : FnV) (n4 : Nat) (f4 : FnV) (n6 : Nat) (f6 : FnV) (n8 : Nat) (f8 : FnV) : JJ -> Lp JJ
 | (0, cx) => yv n0 f0 n2 f2 n4 f4 n6 f6 n8 f8 cx
 | (_, cx) => yv n0 f0 n2 f2 n4 f4 n6 f6 n8 f8 cx
def D44 (n0 : Nat) (f0 : FnV) (n2 : Nat) (f2 : FnV) (n4 : Nat) (f4 : FnV) (n6 : Nat) (f6 : FnV) (n8 : Nat) (f8 : FnV) : LD JJ S44 := ⟨Ht, GV n0 f0 n2 f2 n4 f4 n6 f6 n8 f8, Ef n0 f0 n2 f2 n4 f4 n6 f6 n8 f8⟩
def uS (n0 : Nat) (f0 : FnV) (n2 : Nat) (f2 : FnV) (n4 : Nat) (f4 : FnV) (n6 : Nat) (f6 : FnV) (n8 : Nat) (f8 : FnV) : S44 -> RT S44
 | .L0 ia0 ia1 => .asm (true = true -> n8 <= 9223372036854775807) (.obi (.obi (.br (bif decide (ia0 < (↑n8 : Int)) then ia1 == 0 else false) (.ob (decide (0 <= ia0 /\ ia0 < (↑n8 : Int))) (.ob (decide (0 <= i64.wrap (ia0 + 1) /\ i64.wrap (ia0 + 1) < (↑n8 : Int))) (.obc (.obt (.br (be (jv0 (f8 ia0.toNat)) 0 (i64.wrap (jv0 (f8 (i64.wrap (ia0 + 1)).toNat) - 1))) (.next [some (some 0)] (S44.L0 (i64.wrap (ia0 + 2)) (4)) []) (.next [some (some 0)] (S44.L0 (i64.wrap (ia0 + 2)) (ia1)) [])))))) (.ret (vi ia1)))))
def m44 (n0 : Nat) (f0 : FnV) (n2 : Nat) (f2 : FnV) (n4 : Nat) (f4 : FnV) (n6 : Nat) (f6 : FnV) (n8 : Nat) (f8 : FnV) : RT S44 := .obp ((∀ (i : Nat), i < n0 -> (sv (hdV (f0 i))).size <= (9223372036854775807 : Nat)) /\ ∀ (i : Nat), i < n6 -> (sv (hdV (f6 i))).size <= (9223372036854775807 : Nat)) (.obt (.enter [some (some 0)] (S44.L0 (0) (gw n0 (elV tyR f0) n2 (elV tyT f2) n4 (elV tyF f4) n6 (elV tyC f6))) []))
theorem F1 (n0 : Nat) (f0 : FnV) (n2 : Nat) (f2 : FnV) (n4 : Nat) (f4 : FnV) (n6 : Nat) (f6 : FnV) (n8 : Nat) (f8 : FnV) : iC tu u0 (D44 n0 f0 n2 f2 n4 f4 n6 f6 n8 f8) (Eh n0 f0 n2 f2 n4 f4 n6 f6 n8 f8) (m44 n0 f0 n2 f2 n4 f4 n6 f6 n8 f8) (uS n0 f0 n2 f2 n4 f4 n6 f6 n8 f8) := ⟨⟨by kernel_rfl, by kernel_rfl⟩, fun s => by cases s <;> exact ⟨by kernel_rfl, by kernel_rfl⟩⟩
def pk (f8 : FnV) (k : Nat) : Bool := be (jv0 (f8 (2 * k))) 0 (i64.wrap (jv0 (f8 (2 * k + 1)) - 1))
def xx (n8 : Nat) (f8 : FnV) (e : Int) : Int := bif e == 0 then (bif exB (n8 / 2) (pk f8) then 4 else 0) else e
def F44 (n0 : Nat) (f0 : FnV) (n2 : Nat) (f2 : FnV) (n4 : Nat) (f4 : FnV) (n6 : Nat) (f6 : FnV) (n8 : Nat) (f8 : FnV) : Int := xx n8 f8 (gw n0 (elV tyR f0) n2 (elV tyT f2) n4 (elV tyF f4) n6 (elV tyC f6))
theorem AD (n0 : Nat) (f0 : FnV) (n2 : Nat) (f2 : FnV) (n4 : Nat) (f4 : FnV) (n6 : Nat) (f6 : FnV) (n8 : Nat) (f8 : FnV) (i e : Int) (he : (e == 0) = false) : Ev (uS n0 f0 n2 f2 n4 f4 n6 f6 n8 f8) (.L0 i e) (.int .i64 e) := Ev.of rfl (cB fun _ => ak (ak (pY (by rw [he]; cases decide (i < (n8 : Int)) <;> rfl) (evRet rfl))))
theorem Dw (n0 : Nat) (f0 : FnV) (n2 : Nat) (f2 : FnV) (n4 : Nat) (f4 : FnV) (n6 : Nat) (f6 : FnV) (n8 : Nat) (f8 : FnV) (hm : n8 % 2 = 0) (hn : n8 <= 100) : ∀ k : Nat, k <= n8 / 2 -> (∀ j, j < k -> pk f8 j = false) -> Ev (uS n0 f0 n2 f2 n4 f4 n6 f6 n8 f8) (.L0 ((2 * k : Nat) : Int) 0) (.int .i64 (bif exB (n8 / 2) (pk f8) then 4 else 0)) := by
 refine dH fun k hk ih hj => Ev.of rfl (cB fun _ => ak (ak (aL (fun h => ?_) (fun h => ?_))))
 ·have hlt : 2 * k < n8 := by
   by_cases hh : ((2 * k : Nat) : Int) < (n8 : Int)
   ·omega
   ·rw [dqf hh] at h; cases h
  have w1 : i64.wrap (((2 * k : Nat) : Int) + 1) = ((2 * k + 1 : Nat) : Int) := by rw [bW (by omega) (by omega)]; omega
  have w2 : i64.wrap (((2 * k : Nat) : Int) + 2) = ((2 * (k + 1) : Nat) : Int) := by rw [bW (by omega) (by omega)]; omega
  refine aD (dqt (by omega)) (aD (dqt (by rw [w1]; omega)) (ao (evObt (aL (fun hb => cv ?_) (fun hb => cv ?_)))))
  ·rw [w1] at hb
   simp only [Int.toNat_natCast] at hb
   rw [eK (p := pk f8) k (by omega) hb, cond_true]
   exact AD n0 f0 n2 f2 n4 f4 n6 f6 n8 f8 _ 4 rfl
  ·rw [w1] at hb
   simp only [Int.toNat_natCast] at hb
   rw [w2]
   refine ih (by omega) (fun j h3 => ?_)
   by_cases e : j = k
   ·subst e; exact hb
   ·exact hj j (by omega)
 ·have e : k = n8 / 2 := by
   by_cases hh : ((2 * k : Nat) : Int) < (n8 : Int)
   ·rw [dqt hh] at h; cases h
   ·omega
  rw [show exB (n8 / 2) (pk f8) = false from eE fun j h => hj j (by omega)]
  exact evRet rfl
theorem Ee (n0 : Nat) (f0 : FnV) (n2 : Nat) (f2 : FnV) (n4 : Nat) (f4 : FnV) (n6 : Nat) (f6 : FnV) (n8 : Nat) (f8 : FnV) (hm : n8 % 2 = 0) (hn : n8 <= 100) (e : Int) : Ev (uS n0 f0 n2 f2 n4 f4 n6 f6 n8 f8) (.L0 0 e) (.int .i64 (xx n8 f8 e)) := by
 unfold xx
 cases he : e == 0 with
 | false => exact AD n0 f0 n2 f2 n4 f4 n6 f6 n8 f8 0 e he
 | true =>
   have : e = 0 := eq_of_beq he
   subst this
   exact Dw n0 f0 n2 f2 n4 f4 n6 f6 n8 f8 hm hn 0 (by omega) (fun j h => by omega)
theorem A9 (n0 : Nat) (f0 : FnV) (n2 : Nat) (f2 : FnV) (n4 : Nat) (f4 : FnV) (n6 : Nat) (f6 : FnV) (n8 : Nat) (f8 : FnV) (hp : (cG n0 f0 /\ cG n6 f6) /\ n8 % 2 = 0 /\ n8 <= 100) : evR (Ev (uS n0 f0 n2 f2 n4 f4 n6 f6 n8 f8)) (m44 n0 f0 n2 f2 n4 f4 n6 f6 n8 f8) (.int .i64 (F44 n0 f0 n2 f2 n4 f4 n6 f6 n8 f8)) := evObp hp.1 (evObt (bo (Ee n0 f0 n2 f2 n4 f4 n6 f6 n8 f8 hp.2.1 hp.2.2 _)))
theorem H5 (n0 : Nat) (f0 : FnV) (n2 : Nat) (f2 : FnV) (n4 : Nat) (f4 : FnV) (n6 : Nat) (f6 : FnV) (n8 : Nat) (f8 : FnV) (hp : (cG n0 (elV tyR f0) /\ cG n6 (elV tyC f6)) /\ n8 % 2 = 0 /\ n8 <= 100) : evR (Ev (uS n0 f0 n2 f2 n4 f4 n6 f6 n8 f8)) (m44 n0 f0 n2 f2 n4 f4 n6 f6 n8 f8) (.int .i64 (F44 n0 (elV tyR f0) n2 (elV tyT f2) n4 (elV tyF f4) n6 (elV tyC f6) n8 (elV tp1 f8))) := A9 n0 f0 n2 f2 n4 f4 n6 f6 n8 f8 hp
def C44 : aI := mkC [.agg [.sl tyR, .sl tyT, .sl tyF, .sl tyC], .sl tp1] (fun
 | [.agg [.sl n0 f0, .sl n2 f2, .sl n4 f4, .sl n6 f6], .sl n8 f8] => (cG n0 f0 /\ cG n6 f6) /\ n8 % 2 = 0 /\ n8 <= 100
 | _ => False) fun
 | [.agg [.sl n0 f0, .sl n2 f2, .sl n4 f4, .sl n6 f6], .sl n8 f8] => .int .i64 (F44 n0 f0 n2 f2 n4 f4 n6 f6 n8 f8)
 | _ => .any
theorem zh : (vP C44).Ok Tryz.prog 44 := mkE xL Tryz.func44 (by kernel_rfl) fun ds hp => rfs (F1 ..) (H5 _ _ _ _ _ _ _ _ _ _ hp)
def rf (n0 : Nat) (f0 : FnV) (n2 : Nat) (f2 : FnV) (n4 : Nat) (f4 : FnV) (n6 : Nat) (f6 : FnV) : Int := DF n0 (elV tyR f0) n2 (elV tyT f2) n4 (elV tyF f4) n6 (elV tyC f6)
end
noncomputable section
def wy : bc := (44, .con C44) :: tu
theorem wc : aX Tryz.prog eqs its wy := .con zh (xL)
def ud (n0 : Nat) (f0 : FnV) (n2 : Nat) (f2 : FnV) (n4 : Nat) (f4 : FnV) (n6 : Nat) (f6 : FnV) (x8 x9 : Int) : Int := bif bif rf n0 (elV tyR f0) n2 (elV tyT f2) n4 (elV tyF f4) n6 (elV tyC f6) == 0 then bif decide (x8 < 0) then true else decide (x9 <= x8) else false then 4 else rf n0 (elV tyR f0) n2 (elV tyT f2) n4 (elV tyF f4) n6 (elV tyC f6)
def m80 (x0 x1 x2 x3 x4 x5 : Int) : RT Empty := .obp ((1000 : Int) = (0 : Int) -> False) (.obt (.obp ((1000 : Int) = (0 : Int) -> False) (.obt (.ret (V.tup [vi (mZ (min (i64.wrap (i64.wrap (1000 * x0) + i64.wrap (i64.wrap (x1 - x0) * x2))) (i64.wrap (i64.wrap (1000 * x0) + i64.wrap (i64.wrap (x1 - x0) * x3)))) 1000), vi (i64.wrap (0 - mZ (i64.wrap (0 - max (i64.wrap (i64.wrap (1000 * x0) + i64.wrap (i64.wrap (x1 - x0) * x2))) (i64.wrap (i64.wrap (1000 * x0) + i64.wrap (i64.wrap (x1 - x0) * x3))))) 1000))])))))
theorem DE (x0 x1 x2 x3 x4 x5 : Int) : Fit noD (aY JJ wy u0 s80 [vi x0, vi x1, V.pd [vi x2, vi x3, vi x4, vi x5]]) (m80 x0 x1 x2 x3 x4 x5) := ⟨by kernel_rfl, by kernel_rfl⟩
def F80_0 (x0 x1 x2 x3 : Int) : Int := mZ (min (i64.wrap (i64.wrap (1000 * x0) + i64.wrap (i64.wrap (x1 - x0) * x2))) (i64.wrap (i64.wrap (1000 * x0) + i64.wrap (i64.wrap (x1 - x0) * x3)))) 1000
def F80_1 (x0 x1 x2 x3 : Int) : Int := i64.wrap (0 - mZ (i64.wrap (0 - max (i64.wrap (i64.wrap (1000 * x0) + i64.wrap (i64.wrap (x1 - x0) * x2))) (i64.wrap (i64.wrap (1000 * x0) + i64.wrap (i64.wrap (x1 - x0) * x3))))) 1000)
def R80 (x0 x1 x2 x3 x4 x5 : Int) : V := .tup [.int i64 (F80_0 x0 x1 x2 x3), .int i64 (F80_1 x0 x1 x2 x3)]
theorem GP (x0 x1 x2 x3 x4 x5 : Int) : evR noE (m80 x0 x1 x2 x3 x4 x5) (R80 x0 x1 x2 x3 x4 x5) := evObp (by first | assumption | ((intro h; cases h))) (evObt (evObp (by first | assumption | ((intro h; cases h))) (evObt (evRet (by unfold R80 F80_0 F80_1; rfl)))))
def C80 : aI := mkC [.int .i64, .int .i64, .pd tp4] (fun _ => True) fun
 | [.int _ x0, .int _ x1, .pd [.int _ x2, .int _ x3, .int _ x4, .int _ x5]] => R80 x0 x1 x2 x3 x4 x5
 | _ => .any
theorem zL : (vP C80).Ok Tryz.prog 80 := mkE wc Tryz.func80 (by kernel_rfl) fun ds hp => rf0 (DE ..) (GP _ _ _ _ _ _)
end
end Go.Dx
namespace Go.Dx
open Go.IntKind (i64 u64 u8)
open Go.Sx
noncomputable section
theorem o5 {i : Int} {m : Nat} {f8 : Nat -> List V} {k : Nat} (hm : m <= 9223372036854775807) (h1 : jv0 (f8 (2 * k)) = i) (h2 : jv0 (f8 (2 * k + 1)) = (m : Int)) (h : pk f8 k = false) : 0 <= i /\ i < m := by
 unfold pk be at h
 rw [h1, h2, bW (by omega) (by omega)] at h
 cases hb : decide (i < 0) with
 | true => rw [hb] at h; cases h
 | false =>
   rw [hb, cond_false] at h
   have a := of_decide_eq_false hb
   have b := of_decide_eq_false h
   omega
theorem oM {n8 : Nat} {f8 : Nat -> List V} {e : Int} (h : xx n8 f8 e = 0) : e = 0 /\ ∀ k, k < n8 / 2 -> pk f8 k = false := by
 unfold xx at h
 cases he : e == 0 with
 | false =>
   rw [he, cond_false] at h
   subst h; cases he
 | true =>
   rw [he, cond_true] at h
   refine ⟨eq_of_beq he, fun k hk => ?_⟩
   cases ho : pk f8 k with
   | false => rfl
   | true => rw [eK k hk ho] at h; cases h
section
variable {n0 : Nat} {f0 : Nat -> List V} {n2 : Nat} {f2 : Nat -> List V} {n4 : Nat} {f4 : Nat -> List V} {n6 : Nat} {f6 : Nat -> List V} {i j : Int} {m l : Nat}
theorem bj (hm : m <= 9223372036854775807) (h : F44 n0 f0 n2 f2 n4 f4 n6 f6 2 (elV tp1 (aV [vi i, vi m] 0 1)) = 0) : 0 <= i /\ i < m :=
 o5 (k := 0) hm rfl rfl ((oM h).2 0 (by omega))
theorem cq (hm : m <= 9223372036854775807) (hl : l <= 9223372036854775807) (h : F44 n0 f0 n2 f2 n4 f4 n6 f6 4 (elV tp1 (aV [vi i, vi m, vi j, vi l] 0 1)) = 0) : (0 <= i /\ i < m) /\ (0 <= j /\ j < l) :=
 ⟨o5 (k := 0) hm rfl rfl ((oM h).2 0 (by omega)), o5 (k := 1) hl rfl rfl ((oM h).2 1 (by omega))⟩
theorem k50 (h : ud n0 f0 n2 f2 n4 f4 n6 f6 i j = 0) : 0 <= i /\ i < j := by
 unfold ud at h
 generalize rf _ _ _ _ _ _ _ _ = e at h
 cases he : e == 0 with
 | false => rw [he] at h; simp only [cond_false] at h; subst h; cases he
 | true =>
   rw [he, cond_true] at h
   cases hb : decide (i < 0) with
   | true => rw [hb] at h; cases h
   | false =>
     rw [hb, cond_false] at h
     cases hc : decide (j <= i) with
     | true => rw [hc] at h; cases h
     | false => have := of_decide_eq_false hb; have := of_decide_eq_false hc; omega
end
end
end Go.Dx
namespace Go.Dx
open Go.IntKind (i64 u64 u8)
open Go.Sx Go.Proofs
noncomputable section
def te : bc := (80, .con C80) :: wy
theorem ry : aX Tryz.prog eqs its te := .con zL (wc)
attribute [local irreducible] F44 ud rf
def m30 (n0 : Nat) (f0 : FnV) (n2 : Nat) (f2 : FnV) (n4 : Nat) (f4 : FnV) (n6 : Nat) (f6 : FnV) (x8 x9 : Int) : RT Empty := .asm (true = true -> n4 <= 9223372036854775807) (.asm (true = true -> n6 <= 9223372036854775807) (.obp (((∀ (i : Nat), i < n0 -> (sv (hdV (f0 i))).size <= (9223372036854775807 : Nat)) /\ ∀ (i : Nat), i < n6 -> (sv (hdV (f6 i))).size <= (9223372036854775807 : Nat)) /\ (0 : Nat) = (0 : Nat) /\ (4 : Nat) <= (100 : Nat)) (.obt (.br (F44 n0 (elV tyR f0) n2 (elV tyT f2) n4 (elV tyF f4) n6 (elV tyC f6) 4 (elV tp1 (aV [vi x9, vi (↑n4 : Int), vi x8, vi (↑n6 : Int)] 0 1)) != 0) (.ret (V.tup [V.kb false, vi (F44 n0 (elV tyR f0) n2 (elV tyT f2) n4 (elV tyF f4) n6 (elV tyC f6) 4 (elV tp1 (aV [vi x9, vi (↑n4 : Int), vi x8, vi (↑n6 : Int)] 0 1)))])) (.ob (decide (0 <= x9 /\ x9 < (↑n4 : Int))) (.ob (decide (0 <= x8 /\ x8 < (↑n6 : Int))) (.obt (.obt (.obt (.obt (.obc (.obt (.ret (V.tup [V.bool (decide (0 < dh (jv0 (f4 x9.toNat)) (jv1 (f4 x9.toNat)) (jv2 (f4 x9.toNat)) (jv3 (f4 x9.toNat)) (jv1 (f6 x8.toNat)) (jv2 (f6 x8.toNat)))), vi 0]))))))))))))))
theorem FK (n0 : Nat) (f0 : FnV) (n2 : Nat) (f2 : FnV) (n4 : Nat) (f4 : FnV) (n6 : Nat) (f6 : FnV) (x8 x9 : Int) : Fit noD (aY JJ te u0 s30 [scV n0 f0 n2 f2 n4 f4 n6 f6, vi x8, vi x9]) (m30 n0 f0 n2 f2 n4 f4 n6 f6 x8 x9) := ⟨by kernel_rfl, by kernel_rfl⟩
def v8 (n0 : Nat) (f0 : FnV) (n2 : Nat) (f2 : FnV) (n4 : Nat) (f4 : FnV) (n6 : Nat) (f6 : FnV) (x8 x9 : Int) : Bool := bif F44 n0 (elV tyR f0) n2 (elV tyT f2) n4 (elV tyF f4) n6 (elV tyC f6) 4 (elV tp1 (aV [vi x9, vi (↑n4 : Int), vi x8, vi (↑n6 : Int)] 0 1)) != 0 then false else decide (0 < dh (jv0 (f4 x9.toNat)) (jv1 (f4 x9.toNat)) (jv2 (f4 x9.toNat)) (jv3 (f4 x9.toNat)) (jv1 (f6 x8.toNat)) (jv2 (f6 x8.toNat)))
def vA (n0 : Nat) (f0 : FnV) (n2 : Nat) (f2 : FnV) (n4 : Nat) (f4 : FnV) (n6 : Nat) (f6 : FnV) (x8 x9 : Int) : Int := bif F44 n0 (elV tyR f0) n2 (elV tyT f2) n4 (elV tyF f4) n6 (elV tyC f6) 4 (elV tp1 (aV [vi x9, vi (↑n4 : Int), vi x8, vi (↑n6 : Int)] 0 1)) != 0 then F44 n0 (elV tyR f0) n2 (elV tyT f2) n4 (elV tyF f4) n6 (elV tyC f6) 4 (elV tp1 (aV [vi x9, vi (↑n4 : Int), vi x8, vi (↑n6 : Int)] 0 1)) else 0
def R30 (n0 : Nat) (f0 : FnV) (n2 : Nat) (f2 : FnV) (n4 : Nat) (f4 : FnV) (n6 : Nat) (f6 : FnV) (x8 x9 : Int) : V := .tup [.bool (v8 n0 f0 n2 f2 n4 f4 n6 f6 x8 x9), .int i64 (vA n0 f0 n2 f2 n4 f4 n6 f6 x8 x9)]
theorem G5 (n0 : Nat) (f0 : FnV) (n2 : Nat) (f2 : FnV) (n4 : Nat) (f4 : FnV) (n6 : Nat) (f6 : FnV) (x8 x9 : Int) (hp : cG n0 f0 /\ cG n6 f6) : evR noE (m30 n0 f0 n2 f2 n4 f4 n6 f6 x8 x9) (R30 n0 f0 n2 f2 n4 f4 n6 f6 x8 x9) := cB (fun a0 => cB (fun a0 => evObp (by first | assumption | ((first | exact hp | exact ⟨hp, rfl, by decide⟩))) (evObt (aL (fun h0 => evRet (by unfold R30 v8 vA; try rw [h0]; rfl)) (fun h0 => aD (by first | assumption | ((simp_all [cond_eq_ite] <;> first | omega | exact (cq (by assumption) (by assumption) h0).1 | exact (cq (by assumption) (by assumption) h0).2 | exact bj (by assumption) h0 | exact bj (by assumption) h1 | exact k50 h0 | exact k50 h1 | exact k50 hc.1 | exact bj (by assumption) hc))) (aD (by first | assumption | ((simp_all [cond_eq_ite] <;> first | omega | exact (cq (by assumption) (by assumption) h0).1 | exact (cq (by assumption) (by assumption) h0).2 | exact bj (by assumption) h0 | exact bj (by assumption) h1 | exact k50 h0 | exact k50 h1 | exact k50 hc.1 | exact bj (by assumption) hc))) (evObt (evObt (evObt (evObt (ao (evObt (evRet (by unfold R30 v8 vA; try rw [h0]; rfl))))))))))))))
def C30 : aI := mkC [.agg [.sl tyR, .sl tyT, .sl tyF, .sl tyC], .int .i64, .int .i64] (fun
 | [.agg [.sl n0 f0, .sl n2 f2, .sl n4 f4, .sl n6 f6], .int _ x8, .int _ x9] => cG n0 f0 /\ cG n6 f6
 | _ => False) fun
 | [.agg [.sl n0 f0, .sl n2 f2, .sl n4 f4, .sl n6 f6], .int _ x8, .int _ x9] => R30 n0 f0 n2 f2 n4 f4 n6 f6 x8 x9
 | _ => .any
theorem z8 : (vP C30).Ok Tryz.prog 30 := mkE ry Tryz.func30 (by kernel_rfl) fun ds hp => rf0 (FK ..) (G5 _ _ _ _ _ _ _ _ _ _ hp)
def m32 (n0 : Nat) (f0 : FnV) (n2 : Nat) (f2 : FnV) (n4 : Nat) (f4 : FnV) (n6 : Nat) (f6 : FnV) (x8 x9 : Int) : RT Empty := .asm (true = true -> n4 <= 9223372036854775807) (.obp (((∀ (i : Nat), i < n0 -> (sv (hdV (f0 i))).size <= (9223372036854775807 : Nat)) /\ ∀ (i : Nat), i < n6 -> (sv (hdV (f6 i))).size <= (9223372036854775807 : Nat)) /\ (0 : Nat) = (0 : Nat) /\ (2 : Nat) <= (100 : Nat)) (.obt (.br (F44 n0 (elV tyR f0) n2 (elV tyT f2) n4 (elV tyF f4) n6 (elV tyC f6) 2 (elV tp1 (aV [vi x8, vi (↑n4 : Int)] 0 1)) == 0) (.ob (decide (0 <= x8 /\ x8 < (↑n4 : Int))) (.asm (true = true -> cz (hdV (tlV (tlV (tlV (tlV (f4 x8.toNat)))))) <= 9223372036854775807) (.obp (((∀ (i : Nat), i < n0 -> (sv (hdV (f0 i))).size <= (9223372036854775807 : Nat)) /\ ∀ (i : Nat), i < n6 -> (sv (hdV (f6 i))).size <= (9223372036854775807 : Nat)) /\ (0 : Nat) = (0 : Nat) /\ (2 : Nat) <= (100 : Nat)) (.obt (.br (F44 n0 (elV tyR f0) n2 (elV tyT f2) n4 (elV tyF f4) n6 (elV tyC f6) 2 (elV tp1 (aV [vi x9, vi (↑(cz (hdV (tlV (tlV (tlV (tlV (f4 x8.toNat))))))) : Int)] 0 1)) != 0) (.ret (V.tup [V.agg [vi 0, vi 0, vi 0, vi 0, vi 0, vi 0], vi (F44 n0 (elV tyR f0) n2 (elV tyT f2) n4 (elV tyF f4) n6 (elV tyC f6) 2 (elV tp1 (aV [vi x9, vi (↑(cz (hdV (tlV (tlV (tlV (tlV (f4 x8.toNat))))))) : Int)] 0 1)))])) (.ob (decide (0 <= x8 /\ x8 < (↑n4 : Int))) (.ob (decide (0 <= x9 /\ x9 < (↑(cz (hdV (tlV (tlV (tlV (tlV (f4 x8.toNat))))))) : Int))) (.obt (.obt (.obc (.obt (.obt (.obt (.obc (.obt (.ret (V.tup [V.agg [vi (F80_0 (jv0 (f4 x8.toNat)) (jv2 (f4 x8.toNat)) (jv0 (atV (hdV (tlV (tlV (tlV (tlV (f4 x8.toNat)))))) x9.toNat)) (jv1 (atV (hdV (tlV (tlV (tlV (tlV (f4 x8.toNat)))))) x9.toNat))), vi (F80_0 (jv1 (f4 x8.toNat)) (jv3 (f4 x8.toNat)) (jv0 (atV (hdV (tlV (tlV (tlV (tlV (f4 x8.toNat)))))) x9.toNat)) (jv1 (atV (hdV (tlV (tlV (tlV (tlV (f4 x8.toNat)))))) x9.toNat))), vi (F80_1 (jv0 (f4 x8.toNat)) (jv2 (f4 x8.toNat)) (jv0 (atV (hdV (tlV (tlV (tlV (tlV (f4 x8.toNat)))))) x9.toNat)) (jv1 (atV (hdV (tlV (tlV (tlV (tlV (f4 x8.toNat)))))) x9.toNat))), vi (F80_1 (jv1 (f4 x8.toNat)) (jv3 (f4 x8.toNat)) (jv0 (atV (hdV (tlV (tlV (tlV (tlV (f4 x8.toNat)))))) x9.toNat)) (jv1 (atV (hdV (tlV (tlV (tlV (tlV (f4 x8.toNat)))))) x9.toNat))), vi (jv2 (atV (hdV (tlV (tlV (tlV (tlV (f4 x8.toNat)))))) x9.toNat)), vi (jv3 (atV (hdV (tlV (tlV (tlV (tlV (f4 x8.toNat)))))) x9.toNat))], vi 0]))))))))))))))))) (.br (F44 n0 (elV tyR f0) n2 (elV tyT f2) n4 (elV tyF f4) n6 (elV tyC f6) 2 (elV tp1 (aV [vi x8, vi (↑n4 : Int)] 0 1)) != 0) (.ret (V.tup [V.agg [vi 0, vi 0, vi 0, vi 0, vi 0, vi 0], vi (F44 n0 (elV tyR f0) n2 (elV tyT f2) n4 (elV tyF f4) n6 (elV tyC f6) 2 (elV tp1 (aV [vi x8, vi (↑n4 : Int)] 0 1)))])) (.ob (decide (0 <= x8 /\ x8 < (↑n4 : Int))) (.ob (decide (0 <= x9 /\ x9 < (↑(cz (hdV (tlV (tlV (tlV (tlV (f4 x8.toNat))))))) : Int))) (.obt (.obt (.obc (.obt (.obt (.obt (.obc (.obt (.ret (V.tup [V.agg [vi (F80_0 (jv0 (f4 x8.toNat)) (jv2 (f4 x8.toNat)) (jv0 (atV (hdV (tlV (tlV (tlV (tlV (f4 x8.toNat)))))) x9.toNat)) (jv1 (atV (hdV (tlV (tlV (tlV (tlV (f4 x8.toNat)))))) x9.toNat))), vi (F80_0 (jv1 (f4 x8.toNat)) (jv3 (f4 x8.toNat)) (jv0 (atV (hdV (tlV (tlV (tlV (tlV (f4 x8.toNat)))))) x9.toNat)) (jv1 (atV (hdV (tlV (tlV (tlV (tlV (f4 x8.toNat)))))) x9.toNat))), vi (F80_1 (jv0 (f4 x8.toNat)) (jv2 (f4 x8.toNat)) (jv0 (atV (hdV (tlV (tlV (tlV (tlV (f4 x8.toNat)))))) x9.toNat)) (jv1 (atV (hdV (tlV (tlV (tlV (tlV (f4 x8.toNat)))))) x9.toNat))), vi (F80_1 (jv1 (f4 x8.toNat)) (jv3 (f4 x8.toNat)) (jv0 (atV (hdV (tlV (tlV (tlV (tlV (f4 x8.toNat)))))) x9.toNat)) (jv1 (atV (hdV (tlV (tlV (tlV (tlV (f4 x8.toNat)))))) x9.toNat))), vi (jv2 (atV (hdV (tlV (tlV (tlV (tlV (f4 x8.toNat)))))) x9.toNat)), vi (jv3 (atV (hdV (tlV (tlV (tlV (tlV (f4 x8.toNat)))))) x9.toNat))], vi 0]))))))))))))))))
theorem D9 (n0 : Nat) (f0 : FnV) (n2 : Nat) (f2 : FnV) (n4 : Nat) (f4 : FnV) (n6 : Nat) (f6 : FnV) (x8 x9 : Int) : Fit noD (aY JJ te u0 s32 [scV n0 f0 n2 f2 n4 f4 n6 f6, vi x8, vi x9]) (m32 n0 f0 n2 f2 n4 f4 n6 f6 x8 x9) := ⟨by kernel_rfl, by kernel_rfl⟩
def qD (n0 : Nat) (f0 : FnV) (n2 : Nat) (f2 : FnV) (n4 : Nat) (f4 : FnV) (n6 : Nat) (f6 : FnV) (x8 x9 : Int) : Int := bif F44 n0 (elV tyR f0) n2 (elV tyT f2) n4 (elV tyF f4) n6 (elV tyC f6) 2 (elV tp1 (aV [vi x8, vi (↑n4 : Int)] 0 1)) == 0 then bif F44 n0 (elV tyR f0) n2 (elV tyT f2) n4 (elV tyF f4) n6 (elV tyC f6) 2 (elV tp1 (aV [vi x9, vi (↑(cz (hdV (tlV (tlV (tlV (tlV (f4 x8.toNat))))))) : Int)] 0 1)) != 0 then 0 else F80_0 (jv0 (f4 x8.toNat)) (jv2 (f4 x8.toNat)) (jv0 (atV (hdV (tlV (tlV (tlV (tlV (f4 x8.toNat)))))) x9.toNat)) (jv1 (atV (hdV (tlV (tlV (tlV (tlV (f4 x8.toNat)))))) x9.toNat)) else bif F44 n0 (elV tyR f0) n2 (elV tyT f2) n4 (elV tyF f4) n6 (elV tyC f6) 2 (elV tp1 (aV [vi x8, vi (↑n4 : Int)] 0 1)) != 0 then 0 else F80_0 (jv0 (f4 x8.toNat)) (jv2 (f4 x8.toNat)) (jv0 (atV (hdV (tlV (tlV (tlV (tlV (f4 x8.toNat)))))) x9.toNat)) (jv1 (atV (hdV (tlV (tlV (tlV (tlV (f4 x8.toNat)))))) x9.toNat))
def qp (n0 : Nat) (f0 : FnV) (n2 : Nat) (f2 : FnV) (n4 : Nat) (f4 : FnV) (n6 : Nat) (f6 : FnV) (x8 x9 : Int) : Int := bif F44 n0 (elV tyR f0) n2 (elV tyT f2) n4 (elV tyF f4) n6 (elV tyC f6) 2 (elV tp1 (aV [vi x8, vi (↑n4 : Int)] 0 1)) == 0 then bif F44 n0 (elV tyR f0) n2 (elV tyT f2) n4 (elV tyF f4) n6 (elV tyC f6) 2 (elV tp1 (aV [vi x9, vi (↑(cz (hdV (tlV (tlV (tlV (tlV (f4 x8.toNat))))))) : Int)] 0 1)) != 0 then 0 else F80_0 (jv1 (f4 x8.toNat)) (jv3 (f4 x8.toNat)) (jv0 (atV (hdV (tlV (tlV (tlV (tlV (f4 x8.toNat)))))) x9.toNat)) (jv1 (atV (hdV (tlV (tlV (tlV (tlV (f4 x8.toNat)))))) x9.toNat)) else bif F44 n0 (elV tyR f0) n2 (elV tyT f2) n4 (elV tyF f4) n6 (elV tyC f6) 2 (elV tp1 (aV [vi x8, vi (↑n4 : Int)] 0 1)) != 0 then 0 else F80_0 (jv1 (f4 x8.toNat)) (jv3 (f4 x8.toNat)) (jv0 (atV (hdV (tlV (tlV (tlV (tlV (f4 x8.toNat)))))) x9.toNat)) (jv1 (atV (hdV (tlV (tlV (tlV (tlV (f4 x8.toNat)))))) x9.toNat))
def qA (n0 : Nat) (f0 : FnV) (n2 : Nat) (f2 : FnV) (n4 : Nat) (f4 : FnV) (n6 : Nat) (f6 : FnV) (x8 x9 : Int) : Int := bif F44 n0 (elV tyR f0) n2 (elV tyT f2) n4 (elV tyF f4) n6 (elV tyC f6) 2 (elV tp1 (aV [vi x8, vi (↑n4 : Int)] 0 1)) == 0 then bif F44 n0 (elV tyR f0) n2 (elV tyT f2) n4 (elV tyF f4) n6 (elV tyC f6) 2 (elV tp1 (aV [vi x9, vi (↑(cz (hdV (tlV (tlV (tlV (tlV (f4 x8.toNat))))))) : Int)] 0 1)) != 0 then 0 else F80_1 (jv0 (f4 x8.toNat)) (jv2 (f4 x8.toNat)) (jv0 (atV (hdV (tlV (tlV (tlV (tlV (f4 x8.toNat)))))) x9.toNat)) (jv1 (atV (hdV (tlV (tlV (tlV (tlV (f4 x8.toNat)))))) x9.toNat)) else bif F44 n0 (elV tyR f0) n2 (elV tyT f2) n4 (elV tyF f4) n6 (elV tyC f6) 2 (elV tp1 (aV [vi x8, vi (↑n4 : Int)] 0 1)) != 0 then 0 else F80_1 (jv0 (f4 x8.toNat)) (jv2 (f4 x8.toNat)) (jv0 (atV (hdV (tlV (tlV (tlV (tlV (f4 x8.toNat)))))) x9.toNat)) (jv1 (atV (hdV (tlV (tlV (tlV (tlV (f4 x8.toNat)))))) x9.toNat))
def qq (n0 : Nat) (f0 : FnV) (n2 : Nat) (f2 : FnV) (n4 : Nat) (f4 : FnV) (n6 : Nat) (f6 : FnV) (x8 x9 : Int) : Int := bif F44 n0 (elV tyR f0) n2 (elV tyT f2) n4 (elV tyF f4) n6 (elV tyC f6) 2 (elV tp1 (aV [vi x8, vi (↑n4 : Int)] 0 1)) == 0 then bif F44 n0 (elV tyR f0) n2 (elV tyT f2) n4 (elV tyF f4) n6 (elV tyC f6) 2 (elV tp1 (aV [vi x9, vi (↑(cz (hdV (tlV (tlV (tlV (tlV (f4 x8.toNat))))))) : Int)] 0 1)) != 0 then 0 else F80_1 (jv1 (f4 x8.toNat)) (jv3 (f4 x8.toNat)) (jv0 (atV (hdV (tlV (tlV (tlV (tlV (f4 x8.toNat)))))) x9.toNat)) (jv1 (atV (hdV (tlV (tlV (tlV (tlV (f4 x8.toNat)))))) x9.toNat)) else bif F44 n0 (elV tyR f0) n2 (elV tyT f2) n4 (elV tyF f4) n6 (elV tyC f6) 2 (elV tp1 (aV [vi x8, vi (↑n4 : Int)] 0 1)) != 0 then 0 else F80_1 (jv1 (f4 x8.toNat)) (jv3 (f4 x8.toNat)) (jv0 (atV (hdV (tlV (tlV (tlV (tlV (f4 x8.toNat)))))) x9.toNat)) (jv1 (atV (hdV (tlV (tlV (tlV (tlV (f4 x8.toNat)))))) x9.toNat))
def pK (n0 : Nat) (f0 : FnV) (n2 : Nat) (f2 : FnV) (n4 : Nat) (f4 : FnV) (n6 : Nat) (f6 : FnV) (x8 x9 : Int) : Int := bif F44 n0 (elV tyR f0) n2 (elV tyT f2) n4 (elV tyF f4) n6 (elV tyC f6) 2 (elV tp1 (aV [vi x8, vi (↑n4 : Int)] 0 1)) == 0 then bif F44 n0 (elV tyR f0) n2 (elV tyT f2) n4 (elV tyF f4) n6 (elV tyC f6) 2 (elV tp1 (aV [vi x9, vi (↑(cz (hdV (tlV (tlV (tlV (tlV (f4 x8.toNat))))))) : Int)] 0 1)) != 0 then 0 else jv2 (atV (hdV (tlV (tlV (tlV (tlV (f4 x8.toNat)))))) x9.toNat) else bif F44 n0 (elV tyR f0) n2 (elV tyT f2) n4 (elV tyF f4) n6 (elV tyC f6) 2 (elV tp1 (aV [vi x8, vi (↑n4 : Int)] 0 1)) != 0 then 0 else jv2 (atV (hdV (tlV (tlV (tlV (tlV (f4 x8.toNat)))))) x9.toNat)
def pB (n0 : Nat) (f0 : FnV) (n2 : Nat) (f2 : FnV) (n4 : Nat) (f4 : FnV) (n6 : Nat) (f6 : FnV) (x8 x9 : Int) : Int := bif F44 n0 (elV tyR f0) n2 (elV tyT f2) n4 (elV tyF f4) n6 (elV tyC f6) 2 (elV tp1 (aV [vi x8, vi (↑n4 : Int)] 0 1)) == 0 then bif F44 n0 (elV tyR f0) n2 (elV tyT f2) n4 (elV tyF f4) n6 (elV tyC f6) 2 (elV tp1 (aV [vi x9, vi (↑(cz (hdV (tlV (tlV (tlV (tlV (f4 x8.toNat))))))) : Int)] 0 1)) != 0 then 0 else jv3 (atV (hdV (tlV (tlV (tlV (tlV (f4 x8.toNat)))))) x9.toNat) else bif F44 n0 (elV tyR f0) n2 (elV tyT f2) n4 (elV tyF f4) n6 (elV tyC f6) 2 (elV tp1 (aV [vi x8, vi (↑n4 : Int)] 0 1)) != 0 then 0 else jv3 (atV (hdV (tlV (tlV (tlV (tlV (f4 x8.toNat)))))) x9.toNat)
def p5 (n0 : Nat) (f0 : FnV) (n2 : Nat) (f2 : FnV) (n4 : Nat) (f4 : FnV) (n6 : Nat) (f6 : FnV) (x8 x9 : Int) : Int := bif F44 n0 (elV tyR f0) n2 (elV tyT f2) n4 (elV tyF f4) n6 (elV tyC f6) 2 (elV tp1 (aV [vi x8, vi (↑n4 : Int)] 0 1)) == 0 then bif F44 n0 (elV tyR f0) n2 (elV tyT f2) n4 (elV tyF f4) n6 (elV tyC f6) 2 (elV tp1 (aV [vi x9, vi (↑(cz (hdV (tlV (tlV (tlV (tlV (f4 x8.toNat))))))) : Int)] 0 1)) != 0 then F44 n0 (elV tyR f0) n2 (elV tyT f2) n4 (elV tyF f4) n6 (elV tyC f6) 2 (elV tp1 (aV [vi x9, vi (↑(cz (hdV (tlV (tlV (tlV (tlV (f4 x8.toNat))))))) : Int)] 0 1)) else 0 else bif F44 n0 (elV tyR f0) n2 (elV tyT f2) n4 (elV tyF f4) n6 (elV tyC f6) 2 (elV tp1 (aV [vi x8, vi (↑n4 : Int)] 0 1)) != 0 then F44 n0 (elV tyR f0) n2 (elV tyT f2) n4 (elV tyF f4) n6 (elV tyC f6) 2 (elV tp1 (aV [vi x8, vi (↑n4 : Int)] 0 1)) else 0
def R32 (n0 : Nat) (f0 : FnV) (n2 : Nat) (f2 : FnV) (n4 : Nat) (f4 : FnV) (n6 : Nat) (f6 : FnV) (x8 x9 : Int) : V := .tup [.agg [.int i64 (qD n0 f0 n2 f2 n4 f4 n6 f6 x8 x9), .int i64 (qp n0 f0 n2 f2 n4 f4 n6 f6 x8 x9), .int i64 (qA n0 f0 n2 f2 n4 f4 n6 f6 x8 x9), .int i64 (qq n0 f0 n2 f2 n4 f4 n6 f6 x8 x9), .int i64 (pK n0 f0 n2 f2 n4 f4 n6 f6 x8 x9), .int i64 (pB n0 f0 n2 f2 n4 f4 n6 f6 x8 x9)], .int i64 (p5 n0 f0 n2 f2 n4 f4 n6 f6 x8 x9)]
theorem Id (n0 : Nat) (f0 : FnV) (n2 : Nat) (f2 : FnV) (n4 : Nat) (f4 : FnV) (n6 : Nat) (f6 : FnV) (x8 x9 : Int) (hp : cG n0 f0 /\ cG n6 f6) : evR noE (m32 n0 f0 n2 f2 n4 f4 n6 f6 x8 x9) (R32 n0 f0 n2 f2 n4 f4 n6 f6 x8 x9) := cB (fun a0 => evObp (by first | assumption | ((first | exact hp | exact ⟨hp, rfl, by decide⟩))) (evObt (aL (fun h0 => aD (by first | assumption | ((simp_all [cond_eq_ite] <;> first | omega | exact (cq (by assumption) (by assumption) h0).1 | exact (cq (by assumption) (by assumption) h0).2 | exact bj (by assumption) h0 | exact bj (by assumption) h1 | exact k50 h0 | exact k50 h1 | exact k50 hc.1 | exact bj (by assumption) hc))) (cB (fun a1 => evObp (by first | assumption | ((first | exact hp | exact ⟨hp, rfl, by decide⟩))) (evObt (aL (fun h1 => evRet (by unfold R32 qD qp qA qq pK pB p5; try rw [h0]; try rw [h1]; rfl)) (fun h1 => aD (by first | assumption | ((simp_all [cond_eq_ite] <;> first | omega | exact (cq (by assumption) (by assumption) h0).1 | exact (cq (by assumption) (by assumption) h0).2 | exact bj (by assumption) h0 | exact bj (by assumption) h1 | exact k50 h0 | exact k50 h1 | exact k50 hc.1 | exact bj (by assumption) hc))) (aD (by first | assumption | ((simp_all [cond_eq_ite] <;> first | omega | exact (cq (by assumption) (by assumption) h0).1 | exact (cq (by assumption) (by assumption) h0).2 | exact bj (by assumption) h0 | exact bj (by assumption) h1 | exact k50 h0 | exact k50 h1 | exact k50 hc.1 | exact bj (by assumption) hc))) (evObt (evObt (ao (evObt (evObt (evObt (ao (evObt (evRet (by unfold R32 qD qp qA qq pK pB p5; try rw [h0]; try rw [h1]; rfl))))))))))))))))) (fun h0 => aL (fun h1 => evRet (by unfold R32 qD qp qA qq pK pB p5; try rw [h0]; try rw [h1]; rfl)) (fun h1 => aD (by first | assumption | ((simp_all [cond_eq_ite] <;> first | omega | exact (cq (by assumption) (by assumption) h0).1 | exact (cq (by assumption) (by assumption) h0).2 | exact bj (by assumption) h0 | exact bj (by assumption) h1 | exact k50 h0 | exact k50 h1 | exact k50 hc.1 | exact bj (by assumption) hc))) (aD (by first | assumption | ((simp_all [cond_eq_ite] <;> first | omega | exact (cq (by assumption) (by assumption) h0).1 | exact (cq (by assumption) (by assumption) h0).2 | exact bj (by assumption) h0 | exact bj (by assumption) h1 | exact k50 h0 | exact k50 h1 | exact k50 hc.1 | exact bj (by assumption) hc))) (evObt (evObt (ao (evObt (evObt (evObt (ao (evObt (evRet (by unfold R32 qD qp qA qq pK pB p5; try rw [h0]; try rw [h1]; rfl))))))))))))))))
def C32 : aI := mkC [.agg [.sl tyR, .sl tyT, .sl tyF, .sl tyC], .int .i64, .int .i64] (fun
 | [.agg [.sl n0 f0, .sl n2 f2, .sl n4 f4, .sl n6 f6], .int _ x8, .int _ x9] => cG n0 f0 /\ cG n6 f6
 | _ => False) fun
 | [.agg [.sl n0 f0, .sl n2 f2, .sl n4 f4, .sl n6 f6], .int _ x8, .int _ x9] => R32 n0 f0 n2 f2 n4 f4 n6 f6 x8 x9
 | _ => .any
theorem y7 : (vP C32).Ok Tryz.prog 32 := mkE ry Tryz.func32 (by kernel_rfl) fun ds hp => rf0 (D9 ..) (Id _ _ _ _ _ _ _ _ _ _ hp)
end
end Go.Dx
namespace Go.Dx
open Go.IntKind (i64 u64 u8)
open Go.Sx Go.Proofs
noncomputable section
def pR : bc := (30, .con C30) :: (32, .con C32) :: te
theorem oX : aX Tryz.prog eqs its pR := .con z8 (.con y7 (ry))
def Ff (x0 x1 x2 x3 : Int) : RT Empty := .br (x0 != x2) (.ret (vi (i64.wrap (x0 - x2)))) (.ret (vi (i64.wrap (x1 - x3))))
theorem Cj (x0 x1 x2 x3 : Int) : Fit noD (aY JJ pR u0 Ih [V.agg [vi x0, vi x1], V.agg [vi x2, vi x3]]) (Ff x0 x1 x2 x3) := ⟨by kernel_rfl, by kernel_rfl⟩
def rU (x0 x1 x2 x3 : Int) : Int := bif x0 != x2 then i64.wrap (x0 - x2) else i64.wrap (x1 - x3)
def ze (x0 x1 x2 x3 : Int) : V := .int i64 (rU x0 x1 x2 x3)
theorem C7 (x0 x1 x2 x3 : Int) : evR noE (Ff x0 x1 x2 x3) (ze x0 x1 x2 x3) := aL (fun h0 => evRet (by unfold ze rU; try rw [h0]; rfl)) (fun h0 => evRet (by unfold ze rU; try rw [h0]; rfl))
def xK : aI := mkC [.agg tp2, .agg tp2] (fun _ => True) fun
 | [.agg [.int _ x0, .int _ x1], .agg [.int _ x2, .int _ x3]] => ze x0 x1 x2 x3
 | _ => .any
theorem sV : (vP xK).Ok Tryz.prog 140 := mkE oX Tryz.func140 (by kernel_rfl) fun ds hp => rf0 (Cj ..) (C7 _ _ _ _)
def m49 (x0 x1 x2 x3 x4 x5 x6 x7 : Int) (b8 : Bool) (x9 x10 : Int) : RT Empty := .obi (.br (!b8) (.ob (!b8) (.ob (!b8) (.ob (!b8) (.obc (.obt (.obc (.obt (.obc (.obt (.ret (V.bool (gR (kn x0 x2 x9 x3) (j9 x1 x2 x10 x3) (kn x0 x2 x9 x4) (j9 x1 x2 x10 x4) x5 x6 x7)))))))))))) (.ret (V.kb false)))
theorem EF (x0 x1 x2 x3 x4 x5 x6 x7 : Int) (b8 : Bool) (x9 x10 : Int) : Fit noD (aY JJ pR u0 s49 [V.agg [vi x0, vi x1, vi x2, vi x3, vi x4, vi x5, vi x6, vi x7, V.bool b8], V.agg [vi x9, vi x10]]) (m49 x0 x1 x2 x3 x4 x5 x6 x7 b8 x9 x10) := ⟨by kernel_rfl, by kernel_rfl⟩
def l4 (x0 x1 x2 x3 x4 x5 x6 x7 : Int) (b8 : Bool) (x9 x10 : Int) : Bool := bif !b8 then gR (kn x0 x2 x9 x3) (j9 x1 x2 x10 x3) (kn x0 x2 x9 x4) (j9 x1 x2 x10 x4) x5 x6 x7 else false
def R49 (x0 x1 x2 x3 x4 x5 x6 x7 : Int) (b8 : Bool) (x9 x10 : Int) : V := .bool (l4 x0 x1 x2 x3 x4 x5 x6 x7 b8 x9 x10)
theorem In (x0 x1 x2 x3 x4 x5 x6 x7 : Int) (b8 : Bool) (x9 x10 : Int) : evR noE (m49 x0 x1 x2 x3 x4 x5 x6 x7 b8 x9 x10) (R49 x0 x1 x2 x3 x4 x5 x6 x7 b8 x9 x10) := ak (aL (fun h0 => aD (by first | assumption | (fail)) (aD (by first | assumption | (fail)) (aD (by first | assumption | (fail)) (ao (evObt (ao (evObt (ao (evObt (evRet (by unfold R49 l4; try rw [h0]; rfl))))))))))) (fun h0 => evRet (by unfold R49 l4; try rw [h0]; rfl)))
def C49 : aI := mkC [.agg [.int .i64, .int .i64, .int .i64, .int .i64, .int .i64, .int .i64, .int .i64, .int .i64, .bool], .agg tp2] (fun _ => True) fun
 | [.agg [.int _ x0, .int _ x1, .int _ x2, .int _ x3, .int _ x4, .int _ x5, .int _ x6, .int _ x7, .bool b8], .agg [.int _ x9, .int _ x10]] => R49 x0 x1 x2 x3 x4 x5 x6 x7 b8 x9 x10
 | _ => .any
theorem zm : (vP C49).Ok Tryz.prog 49 := mkE oX Tryz.func49 (by kernel_rfl) fun ds hp => rf0 (EF ..) (In _ _ _ _ _ _ _ _ _ _ _)
def Eu (x0 x1 x2 x3 x4 x5 x6 : Int) : RT Empty := .obc (.obt (.ret (V.bool (gR x0 x1 x2 x3 (i64.wrap (2 * x5)) (i64.wrap (2 * x6)) x4))))
theorem By (x0 x1 x2 x3 x4 x5 x6 : Int) : Fit noD (aY JJ pR u0 Hj [V.agg [vi x0, vi x1, vi x2, vi x3, vi x4], vi x5, vi x6]) (Eu x0 x1 x2 x3 x4 x5 x6) := ⟨by kernel_rfl, by kernel_rfl⟩
def bt (x0 x1 x2 x3 x4 x5 x6 : Int) : Bool := gR x0 x1 x2 x3 (i64.wrap (2 * x5)) (i64.wrap (2 * x6)) x4
def BH (x0 x1 x2 x3 x4 x5 x6 : Int) : V := .bool (bt x0 x1 x2 x3 x4 x5 x6)
theorem ED (x0 x1 x2 x3 x4 x5 x6 : Int) : evR noE (Eu x0 x1 x2 x3 x4 x5 x6) (BH x0 x1 x2 x3 x4 x5 x6) := ao (evObt (evRet (by unfold BH bt; rfl)))
def xI : aI := mkC [.agg tyT, .int .i64, .int .i64] (fun _ => True) fun
 | [.agg [.int _ x0, .int _ x1, .int _ x2, .int _ x3, .int _ x4], .int _ x5, .int _ x6] => BH x0 x1 x2 x3 x4 x5 x6
 | _ => .any
theorem tq : (vP xI).Ok Tryz.prog 123 := mkE oX Tryz.func123 (by kernel_rfl) fun ds hp => rf0 (By ..) (ED _ _ _ _ _ _ _)
end
noncomputable section
def rM : bc := (140, .con xK) :: (49, .con C49) :: (123, .con xI) :: pR
theorem tM : aX Tryz.prog eqs its rM := .con sV (.con zm (.con tq (oX)))
def u5 : Unr := fun _ => 5
def F5 (x0 x1 x2 x3 x4 x5 x6 x7 x8 : Int) : RT Empty := .obi (.obi (.obi (.obi (.obi (.obi (.obi (.obi (.obi (.obi (.obi (.obi (.obi (.obi (.obi (.obi (.obi (.obi (.obi (.obi (.obi (.obi (.obi (.obi (.obi (.obi (.obi (.obi (.obi (.obi (.obi (.obi (.obi (.obi (.obi (.obi (.obi (.obi (.obi (.br (bif bif bif decide (max x0 x2 < i64.wrap (2 * x5)) then true else decide (i64.wrap (2 * x7) < min x0 x2) then true else decide (max x1 x3 < i64.wrap (2 * x6)) then true else decide (i64.wrap (2 * x8) < min x1 x3)) (.ret (V.kb false)) (.obc (.obt (.brt (.obt (.obc (.obt (.obc (.obt (.brt (.obt (.obc (.obt (.obc (.obt (.obi (.obi (.obi (.obi (.brt (.obt (.obc (.obt (.obc (.obt (.obi (.obi (.obi (.obi (.brt (.obt (.obc (.obt (.obc (.obt (.obi (.obi (.obi (.obi (.brf (.obi (.ret (V.bool (bif bif bif bif decide (0 <= dh x0 x1 x2 x3 (ce x5 2) (cj x6 2)) then true else decide (0 <= dh x0 x1 x2 x3 (ce x7 2) (cj x6 2)) then true else decide (0 <= dh x0 x1 x2 x3 (ce x7 2) (cj x8 2)) then true else decide (0 <= dh x0 x1 x2 x3 (ce x5 2) (cj x8 2)) then bif bif bif decide (dh x0 x1 x2 x3 (ce x5 2) (cj x6 2) <= 0) then true else decide (dh x0 x1 x2 x3 (ce x7 2) (cj x6 2) <= 0) then true else decide (dh x0 x1 x2 x3 (ce x7 2) (cj x8 2) <= 0) then true else decide (dh x0 x1 x2 x3 (ce x5 2) (cj x8 2) <= 0) else false))))))))))))))))))))))))))))))))))))))))))))))))))))))))))))))))))))))))))))))))))
theorem C4 (x0 x1 x2 x3 x4 x5 x6 x7 x8 : Int) : Fit noD (aY JJ rM u5 HQ [V.agg [vi x0, vi x1, vi x2, vi x3, vi x4], V.agg [vi x5, vi x6, vi x7, vi x8]]) (F5 x0 x1 x2 x3 x4 x5 x6 x7 x8) := ⟨by kernel_rfl, by kernel_rfl⟩
def mO (x0 x1 x2 x3 x5 x6 x7 x8 : Int) : Bool := bif bif bif bif decide (max x0 x2 < i64.wrap (2 * x5)) then true else decide (i64.wrap (2 * x7) < min x0 x2) then true else decide (max x1 x3 < i64.wrap (2 * x6)) then true else decide (i64.wrap (2 * x8) < min x1 x3) then false else bif bif bif bif decide (0 <= dh x0 x1 x2 x3 (ce x5 2) (cj x6 2)) then true else decide (0 <= dh x0 x1 x2 x3 (ce x7 2) (cj x6 2)) then true else decide (0 <= dh x0 x1 x2 x3 (ce x7 2) (cj x8 2)) then true else decide (0 <= dh x0 x1 x2 x3 (ce x5 2) (cj x8 2)) then bif bif bif decide (dh x0 x1 x2 x3 (ce x5 2) (cj x6 2) <= 0) then true else decide (dh x0 x1 x2 x3 (ce x7 2) (cj x6 2) <= 0) then true else decide (dh x0 x1 x2 x3 (ce x7 2) (cj x8 2) <= 0) then true else decide (dh x0 x1 x2 x3 (ce x5 2) (cj x8 2) <= 0) else false
def yQ (x0 x1 x2 x3 x4 x5 x6 x7 x8 : Int) : V := .bool (mO x0 x1 x2 x3 x5 x6 x7 x8)
theorem E8 (x0 x1 x2 x3 x4 x5 x6 x7 x8 : Int) : evR noE (F5 x0 x1 x2 x3 x4 x5 x6 x7 x8) (yQ x0 x1 x2 x3 x4 x5 x6 x7 x8) := ak (ak (ak (ak (ak (ak (ak (ak (ak (ak (ak (ak (ak (ak (ak (ak (ak (ak (ak (ak (ak (ak (ak (ak (ak (ak (ak (ak (ak (ak (ak (ak (ak (ak (ak (ak (ak (ak (ak (aL (fun h0 => evRet (by unfold yQ mO; try rw [h0]; rfl)) (fun h0 => ao (evObt (bp (evObt (ao (evObt (ao (evObt (bp (evObt (ao (evObt (ao (evObt (ak (ak (ak (ak (bp (evObt (ao (evObt (ao (evObt (ak (ak (ak (ak (bp (evObt (ao (evObt (ao (evObt (ak (ak (ak (ak (bz (ak (evRet (by unfold yQ mO; try rw [h0]; rfl)))))))))))))))))))))))))))))))))))))))))))))))))))))))))))))))))))))))))))))))))
def xY : aI := mkC [.agg tyT, .agg tp4] (fun _ => True) fun
 | [.agg [.int _ x0, .int _ x1, .int _ x2, .int _ x3, .int _ x4], .agg [.int _ x5, .int _ x6, .int _ x7, .int _ x8]] => yQ x0 x1 x2 x3 x4 x5 x6 x7 x8
 | _ => .any
theorem sS : (vP xY).Ok Tryz.prog 145 := mkE tM Tryz.func145 (by kernel_rfl) fun ds hp => rf0 (C4 ..) (E8 _ _ _ _ _ _ _ _ _)
end
end Go.Dx
