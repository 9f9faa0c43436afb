/- Part 4 of a proof. No conditions. -/
import Derived.Test.YtkdokmjehblpoaaGreatDoorRv3
import Derived.Test.YtkdokmjehblpoaaGreatDoorChecked
import Derived.IntWalk
import Derived.WalkKit
import Derived.Ground.NamesProg
import Derived.Shelf.Strings.SlTrimAscii
set_option maxRecDepth 100000
set_option linter.unusedVariables false
set_option linter.unusedSimpArgs false
namespace Go.Dx
open Go.Sx
def sa (d a : Nat) : SOp := ⟨some d, .mov (.t a), none⟩
def ea (d a : Nat) : DOp := ⟨⟨some d, .mov (.t a), none⟩, none, [], []⟩
def sb (d a : Nat) : SOp := ⟨some d, .ld (.t a), none⟩
def eb (d a : Nat) : DOp := ⟨⟨some d, .ld (.t a), none⟩, none, [], []⟩
def sc (d n a : Nat) : SOp := ⟨some d, .lds n (.t a), none⟩
def ec (d n a : Nat) : DOp := ⟨⟨some d, .lds n (.t a), none⟩, none, [], []⟩
def se (d n a : Nat) : SOp := ⟨some d, .fa n (.t a), none⟩
def ee (d n a : Nat) : DOp := ⟨⟨some d, .fa n (.t a), none⟩, none, [], []⟩
def ki (n : Int) : Arg := .k (.int .i64 n)
def gt (d : Nat) (p : IOp) (g : Nat) : DOp := ⟨⟨some d, p, some (g, true)⟩, none, [], []⟩
def gf (d : Nat) (p : IOp) (g : Nat) : DOp := ⟨⟨some d, p, some (g, false)⟩, none, [], []⟩
def b1 (d : Nat) (o : BinOp) (a b : Nat) : SOp := ⟨some d, .bin o (.t a) (.t b), none⟩
def d1 (d : Nat) (o : BinOp) (a b : Nat) : DOp := ⟨⟨some d, .bin o (.t a) (.t b), none⟩, none, [], []⟩
def b2 (d : Nat) (o : BinOp) (a : Nat) (n : Int) : SOp := ⟨some d, .bin o (.t a) (.k (.int .i64 n)), none⟩
def d2 (d : Nat) (o : BinOp) (a : Nat) (n : Int) : DOp := ⟨⟨some d, .bin o (.t a) (.k (.int .i64 n)), none⟩, none, [], []⟩
def b3 (d f : Nat) (l : List Nat) : SOp := ⟨some d, .call f (l.map .t), none⟩
def d3 (d f : Nat) (l : List Nat) : DOp := ⟨⟨some d, .call f (l.map .t), none⟩, none, [], []⟩
def b4 (d a : Nat) : SOp := ⟨some d, .len (.t a), none⟩
def d4 (d a : Nat) : DOp := ⟨⟨some d, .len (.t a), none⟩, none, [], []⟩
def b5 (d a : Nat) : SOp := ⟨some d, .un .not (.t a), none⟩
def b6 (d : Nat) (n : Int) : SOp := ⟨some d, .mov (.k (.int .i64 n)), none⟩
def b7 (d n a b : Nat) : SOp := ⟨some d, .iaS n (.t a) (.t b), none⟩
def d7 (d n a b : Nat) : DOp := ⟨⟨some d, .iaS n (.t a) (.t b), none⟩, none, [], []⟩
def zs (n : Nat) : List AVal := List.replicate n (.int .i64 0)
def b8 (n a b : Nat) : SOp := ⟨none, .st n (.t a) (.t b), none⟩
def rg (l : List SOp) (c : SCode) : SCode := .seq (.reg l) c
def so (d : Nat) (p : IOp) : SOp := ⟨some d, p, none⟩
def eo (d : Nat) (p : IOp) : DOp := ⟨⟨some d, p, none⟩, none, [], []⟩
def dz (o : SOp) : DOp := ⟨o, none, [], []⟩
def its : List IFun := [⟨128, 46, (.seq (.reg [.op ⟨(some 6), .fa 2 (.t 1), none⟩, .op ⟨(some 7), .ld (.t 6), none⟩, .op ⟨(some 8), .len (.t 7), none⟩, .op ⟨(some 9), .bin .sub (.t 8) (ki 1), none⟩, .op ⟨(some 10), .mov (ki 0), none⟩]) (.block 0 (.loop (.seq (.reg [.op ⟨(some 11), .bin .lss (.t 10) (.t 9), none⟩]) (.seq (.cond (.t 11) .skip (.exit 0)) (.seq (.block 1 (.seq (.reg [.op ⟨(some 12), .mov (.t 10), none⟩, .op ⟨(some 3), .mov (.t 12), none⟩]) (.seq (.draw [⟨⟨(some 13), .fa 2 (.t 1), none⟩, none, [11, 12], []⟩, ⟨⟨(some 14), .ld (.t 13), none⟩, none, [11, 12], []⟩, ⟨⟨(some 15), .mov (.t 3), none⟩, none, [11, 12], []⟩, ⟨⟨(some 16), .iaS 2 (.t 14) (.t 15), none⟩, none, [11, 12], []⟩, ⟨⟨(some 17), .lds 2 (.t 16), none⟩, none, [11, 12], []⟩, ⟨⟨(some 18), .fa 2 (.t 1), none⟩, none, [11, 12, 13], []⟩, ⟨⟨(some 19), .ld (.t 18), none⟩, none, [11, 12, 13], []⟩, ⟨⟨(some 20), .mov (.t 3), none⟩, none, [11, 12, 13], []⟩, ⟨⟨(some 21), .bin .add (.t 20) (ki 1), none⟩, none, [11, 12, 13], []⟩, ⟨⟨(some 22), .iaS 2 (.t 19) (.t 21), none⟩, none, [11, 12, 13], []⟩, ⟨⟨(some 23), .lds 2 (.t 22), none⟩, none, [11, 12, 13], []⟩, ⟨⟨(some 4), .new 72 (zs 2), none⟩, (some 0), [12], [.fresh 0]⟩, ⟨⟨(some 5), .new 72 (zs 2), none⟩, (some 1), [11], [.fresh 1]⟩, ⟨(b8 2 4 17), none, [], [.fresh 0]⟩, ⟨(b8 2 5 23), none, [], [.fresh 1]⟩]) (.seq (.reg [.op ⟨(some 24), .mov (.t 0), none⟩, .op ⟨(some 25), .iaA 2 1 (.t 4) (ki 0), none⟩, .op ⟨(some 26), .ld (.t 25), none⟩, .op ⟨(some 27), .bin .mul (ki 2) (.t 26), none⟩, .op ⟨(some 28), .iaA 2 1 (.t 4) (ki 1), none⟩, .op ⟨(some 29), .ld (.t 28), none⟩, .op ⟨(some 30), .bin .mul (ki 2) (.t 29), none⟩, .op ⟨(some 31), .agg (zs 2) [(0, 1, (.t 27)), (1, 1, (.t 30))], none⟩, .op ⟨(some 32), .iaA 2 1 (.t 5) (ki 0), none⟩, .op ⟨(some 33), .ld (.t 32), none⟩, .op ⟨(some 34), .bin .mul (ki 2) (.t 33), none⟩, .op ⟨(some 35), .iaA 2 1 (.t 5) (ki 1), none⟩, .op ⟨(some 36), .ld (.t 35), none⟩, .op ⟨(some 37), .bin .mul (ki 2) (.t 36), none⟩, .op ⟨(some 38), .agg (zs 2) [(0, 1, (.t 34)), (1, 1, (.t 37))], none⟩, .op ⟨(some 39), .agg (zs 4) [(0, 2, (.t 31)), (2, 2, (.t 38))], none⟩, .op ⟨(some 40), .fa 3 (.t 1), none⟩, .op ⟨(some 41), .ld (.t 40), none⟩, .op ⟨(some 42), .agg (zs 5) [(0, 4, (.t 39)), (4, 1, (.t 41))], none⟩, .yld 24 (some 43) [(.t 42)], .op ⟨(some 44), .un .not (.t 43), none⟩]) (.cond (.t 44) .ret .skip))))) (.reg [.op ⟨(some 45), .bin .add (.t 10) (ki 1), none⟩, .op ⟨(some 10), .mov (.t 45), none⟩])))))))⟩]
def s10 : SFun := ⟨162,[.tmp 4],(rg [(so 2 (.box 27 (.t 0))),(so 3 (.box 31 (.t 1))),(so 4 (.mov (.k (.bool false))))] (rg [(sc 23 4 2),(so 5 (.new 27 [(.slice none 0 0),(.slice none 0 0),(.slice none 0 0),(.slice none 0 0)])),(b8 4 5 23)] (rg [(so 24 (.bsl 54 0 [] [])),(se 25 0 2),(sb 26 25),(so 27 (.app 54 4 56 [(.str ⟨#[]⟩),(.int .i64 0),(.slice none 0 0),(.int .i64 0)] (.t 24) (.t 26))),(se 28 0 5),(b8 1 28 27)] (.seq (rg [(b6 6 0)] (.block 0 (.loop (.seq (rg [(sa 29 6),(se 30 0 5),(sb 31 30),(b4 32 31),(b1 33 .lss 29 32)] (.cond (.t 33) .skip (.exit 0))) (.seq (.block 1 (rg [(so 7 (.mov (.k (.slice none 0 0))))] (.seq (rg [(se 36 0 2),(sb 37 36),(sa 38 6),(b7 39 4 37 38),(se 40 2 39),(sb 41 40),(b4 42 41),(b2 43 .sub 42 1),(sa 8 43)] (.block 2 (.loop (.seq (rg [(sa 44 8),(b2 45 .geq 44 0)] (.cond (.t 45) .skip (.exit 2))) (.seq (.block 3 (.reg [(sa 48 7),(se 49 0 2),(sb 50 49),(sa 51 6),(b7 52 4 50 51),(se 53 2 52),(sb 54 53),(sa 55 8),(b7 56 2 54 55),(sc 57 2 56),(so 58 (.bsl 72 1 (zs 2) [(0,2,(.t 57))])),(so 59 (.app 72 2 16 (zs 2) (.t 48) (.t 58))),(sa 7 59)])) (.reg [(sa 46 8),(b2 47 .sub 46 1),(sa 8 47)])))))) (.reg [(se 60 0 5),(sb 61 60),(sa 62 6),(sa 63 7),(b7 64 4 61 62),(se 65 2 64),(b8 1 65 63)])))) (.reg [(sa 34 6),(b2 35 .add 34 1),(sa 6 35)])))))) (rg [(sc 67 4 2),(b3 68 23 [67]),(sa 66 68),(so 69 (.ext (.t 66) 0)),(so 70 (.ext (.t 66) 1)),(so 71 (.ext (.t 66) 2)),(sa 9 69),(sa 10 70),(sa 11 71)] (.seq (rg [(sa 72 11),(b2 73 .neq 72 0)] (.cond (.t 73) (rg [(so 74 (.call 19 [])),(sa 4 74)] .ret) .skip)) (rg [(sc 76 4 2),(se 77 0 3),(sb 78 77),(se 79 1 3),(sb 80 79),(se 81 2 3),(sb 82 81),(b3 83 25 [76,78,80,82]),(sa 75 83),(so 84 (.ext (.t 75) 0)),(so 85 (.ext (.t 75) 1)),(sa 12 84),(sa 11 85)] (rg [(sc 87 4 5),(se 88 0 3),(sb 89 88),(se 90 1 3),(sb 91 90),(se 92 2 3),(sb 93 92),(b3 94 25 [87,89,91,93]),(sa 86 94),(so 95 (.ext (.t 86) 0)),(so 96 (.ext (.t 86) 1)),(sa 13 95),(sa 14 96)] (rg [(sc 98 4 2),(se 99 0 3),(sb 100 99),(se 101 3 3),(sc 102 4 101),(b3 103 22 [98,100,102]),(sa 97 103),(so 104 (.ext (.t 97) 0)),(so 105 (.ext (.t 97) 1)),(sa 15 104),(sa 16 105)] (rg [(sc 107 4 5),(se 108 0 3),(sb 109 108),(se 110 3 3),(sc 111 4 110),(b3 112 22 [107,109,111]),(sa 106 112),(so 113 (.ext (.t 106) 0)),(so 114 (.ext (.t 106) 1)),(sa 17 113),(sa 18 114)] (rg [(sc 116 4 2),(se 117 0 3),(sb 118 117),(b3 119 34 [116,118]),(sa 115 119),(so 120 (.ext (.t 115) 0)),(so 121 (.ext (.t 115) 1)),(sa 19 120),(sa 20 121)] (rg [(sc 123 4 5),(se 124 0 3),(sb 125 124),(b3 126 34 [123,125]),(sa 122 126),(so 127 (.ext (.t 122) 0)),(so 128 (.ext (.t 122) 1)),(sa 21 127),(sa 22 128)] (rg [(sa 129 12),(sa 130 13),(so 131 (.eqb false (.t 129) (.t 130))),(sa 132 131),⟨(some 133),.mov (.t 11),(some (132,true))⟩,⟨(some 134),.mov (.t 14),(some (132,true))⟩,⟨(some 135),.bin .eql (.t 133) (.t 134),(some (132,true))⟩,(so 136 (.pick (.t 132) (.t 135) (.k (.bool false)))),(sa 137 136),⟨(some 138),.mov (.t 15),(some (137,true))⟩,⟨(some 139),.mov (.t 17),(some (137,true))⟩,⟨(some 140),.bin .eql (.t 138) (.t 139),(some (137,true))⟩,(so 141 (.pick (.t 137) (.t 140) (.k (.bool false)))),(sa 142 141),⟨(some 143),.mov (.t 16),(some (142,true))⟩,⟨(some 144),.mov (.t 18),(some (142,true))⟩,⟨(some 145),.bin .eql (.t 143) (.t 144),(some (142,true))⟩,(so 146 (.pick (.t 142) (.t 145) (.k (.bool false)))),(sa 147 146),⟨(some 148),.mov (.t 20),(some (147,true))⟩,⟨(some 149),.mov (.t 22),(some (147,true))⟩,⟨(some 150),.bin .eql (.t 148) (.t 149),(some (147,true))⟩,(so 151 (.pick (.t 147) (.t 150) (.k (.bool false)))),(sa 152 151),⟨(some 153),.mov (.t 19),(some (152,true))⟩,⟨(some 154),.len (.t 153),(some (152,true))⟩,⟨(some 155),.mov (.t 21),(some (152,true))⟩,⟨(some 156),.len (.t 155),(some (152,true))⟩,⟨(some 157),.bin .eql (.t 154) (.t 156),(some (152,true))⟩,(so 158 (.pick (.t 152) (.t 157) (.k (.bool false)))),(sa 159 158),⟨(some 160),.call 19 [],(some (159,true))⟩,(so 161 (.pick (.t 159) (.t 160) (.k (.bool false)))),(sa 4 161)] .ret)))))))))))))⟩
def s15 : SFun := ⟨30,[.tmp 8,.tmp 9],(rg [(so 4 (.box 27 (.t 0))),(so 5 (.box 3 (.t 1))),(so 6 (.box 3 (.t 2))),(so 7 (.box 3 (.t 3))),(b6 8 0),(b6 9 0)] (rg [(sc 10 4 4),(sb 11 5),(se 12 3 4),(sb 13 12),(b4 14 13),(so 15 (.bsl 3 2 (zs 2) [(0,1,(.t 11)),(1,1,(.t 14))])),(b3 16 44 [10,15]),(sa 9 16)] (.seq (.block 0 (rg [(sa 18 9),(b2 19 .neq 18 0),(sa 17 19)] (.cond (.t 17) (rg [(sa 20 9),(b6 8 0),(sa 9 20)] .ret) (rg [(sb 22 6),(sb 23 7),(so 24 (.bsl 3 2 (zs 2) [(0,1,(.t 22)),(1,1,(.t 23))])),(b3 25 45 [24]),(sa 21 25)] (.cond (.t 21) (rg [(b6 8 0),(b6 9 7)] .ret) .skip))))) (rg [(se 26 1 4),(sb 27 26),(so 28 (.mkf (.func 47) [] [(.t 4),(.t 5),(.t 6),(.t 7)])),(b3 29 46 [27,28]),(sa 8 29),(b6 9 0)] .ret))))⟩
def s17 : SFun := ⟨57,[.tmp 6,.tmp 7],(rg [(so 3 (.box 27 (.t 0))),(so 5 (.box 29 (.t 2))),(b6 6 0),(b6 7 0)] (rg [(sc 14 4 3),(sa 15 1),(se 16 3 3),(sb 17 16),(b4 18 17),(so 19 (.bsl 3 2 (zs 2) [(0,1,(.t 15)),(1,1,(.t 18))])),(b3 20 44 [14,19]),(sa 8 20)] (.seq (.block 0 (rg [(sa 22 8),(b2 23 .neq 22 0),(sa 21 23)] (.cond (.t 21) (rg [(sa 24 8),(b6 6 0),(sa 7 24)] .ret) (rg [(sc 26 4 5),(b3 27 53 [26]),(sa 25 27)] (.cond (.t 25) (rg [(b6 6 0),(b6 7 7)] .ret) .skip))))) (rg [(b6 9 0)] (.seq (rg [(se 28 1 3),(sb 29 28),(b4 30 29),(b6 31 0)] (.block 1 (.loop (rg [(b1 32 .lss 31 30)] (.seq (.cond (.t 32) .skip (.exit 1)) (.seq (.block 2 (rg [(b7 33 5 29 31),(sc 34 5 33),(so 11 (.new 57 (zs 5))),(b8 5 11 34)] (.seq (.draw [⟨(se 35 3 3),none,[7],[]⟩,⟨(sb 36 35),none,[7],[]⟩,⟨(sa 37 1),none,[7],[]⟩,⟨(b7 38 6 36 37),none,[7],[]⟩,⟨(sc 39 6 38),none,[7],[]⟩,⟨(sc 40 5 11),none,[7],[]⟩,⟨(b3 41 48 [39,40]),none,[7],[]⟩,⟨(so 12 (.new 97 [(.int .i64 0),(.int .i64 0),(.int .i64 0),(.int .i64 0),(.int .i64 0),(.int .i64 0),(.int .i64 0),(.int .i64 0),(.bool false)])),(some 0),[],[.fresh 0]⟩,⟨(b8 9 12 41),none,[],[.fresh 0]⟩]) (rg [(sc 42 4 5),(b3 43 54 [42]),(so 13 (.new 108 (zs 8))),(b8 8 13 43)] (.block 3 (rg [(so 45 (.slA 4 2 (.t 13) none none none)),(so 46 (.mkf (.func 56) [] [(.t 12)])),(b3 47 55 [45,46]),(b5 48 47),(sa 44 48)] (.cond (.t 44) (.reg [(b6 9 2)]) (rg [(sc 50 9 12),(sc 51 4 5),(b3 52 57 [50,51]),(sa 49 52)] (.cond (.t 49) (.reg [(sa 53 9),(so 54 (.mm true (.t 53) [(ki 1)])),(sa 9 54)]) .skip))))))))) (.reg [(b2 55 .add 31 1),(sa 31 55)]))))))) (rg [(sa 56 9),(sa 6 56),(b6 7 0)] .ret))))))⟩
def s19 : SFun := ⟨62,[.tmp 0],(rg [(so 0 (.mov (.k (.bool false))))] (rg [(so 11 (.call 43 [])),(so 1 (.new 27 [(.slice none 0 0),(.slice none 0 0),(.slice none 0 0),(.slice none 0 0)])),(b8 4 1 11)] (rg [(sc 13 4 1),(so 14 (.agg (zs 4) [(0,1,(ki 8500)),(1,1,(ki (-1500))),(2,1,(ki 11500)),(3,1,(ki 1500))])),(so 15 (.call 22 [(.t 13),(ki 0),(.t 14)])),(sa 12 15),(so 16 (.ext (.t 12) 0)),(so 17 (.ext (.t 12) 1)),(sa 2 16),(sa 3 17)] (rg [(sc 19 4 1),(so 20 (.agg (zs 4) [(0,1,(ki 3900)),(1,1,(ki 3900)),(2,1,(ki 4100)),(3,1,(ki 4100))])),(so 21 (.call 17 [(.t 19),(ki 0),(.t 20)])),(sa 18 21),(so 22 (.ext (.t 18) 0)),(so 23 (.ext (.t 18) 1)),(sa 4 22),(sa 5 23)] (rg [(sc 25 4 1),(so 26 (.call 15 [(.t 25),(ki 0),(ki 4000),(ki 5000)])),(sa 24 26),(so 27 (.ext (.t 24) 0)),(so 28 (.ext (.t 24) 1)),(sa 6 27),(sa 7 28)] (rg [(so 30 (.mks 57 1 (zs 5))),(so 31 (.agg [(.slice none 0 0),(.slice none 0 0),(.slice none 0 0),(.slice none 0 0)] [(1,1,(.t 30))])),(b3 32 23 [31]),(sa 29 32),(so 33 (.ext (.t 29) 0)),(so 34 (.ext (.t 29) 1)),(so 35 (.ext (.t 29) 2)),(sa 8 33),(sa 9 34),(sa 10 35)] (rg [(sa 36 3),(b2 37 .eql 36 0),(sa 38 37),⟨(some 39),.mov (.t 5),(some (38,true))⟩,⟨(some 40),.bin .eql (.t 39) (ki 0),(some (38,true))⟩,(so 41 (.pick (.t 38) (.t 40) (.k (.bool false)))),(sa 42 41),⟨(some 43),.mov (.t 7),(some (42,true))⟩,⟨(some 44),.bin .eql (.t 43) (ki 0),(some (42,true))⟩,(so 45 (.pick (.t 42) (.t 44) (.k (.bool false)))),(sa 46 45),⟨(some 47),.mov (.t 10),(some (46,true))⟩,⟨(some 48),.bin .eql (.t 47) (ki 7),(some (46,true))⟩,(so 49 (.pick (.t 46) (.t 48) (.k (.bool false)))),(sa 50 49),⟨(some 51),.mov (.t 2),(some (50,true))⟩,⟨(some 52),.bin .eql (.t 51) (ki 1),(some (50,true))⟩,(so 53 (.pick (.t 50) (.t 52) (.k (.bool false)))),(sa 54 53),⟨(some 55),.mov (.t 4),(some (54,true))⟩,⟨(some 56),.bin .eql (.t 55) (ki 1),(some (54,true))⟩,(so 57 (.pick (.t 54) (.t 56) (.k (.bool false)))),(sa 58 57),⟨(some 59),.mov (.t 6),(some (58,true))⟩,⟨(some 60),.bin .eql (.t 59) (ki (-1)),(some (58,true))⟩,(so 61 (.pick (.t 58) (.t 60) (.k (.bool false)))),(sa 0 61)] .ret)))))))⟩
def s22 : SFun := ⟨30,[.tmp 6,.tmp 7],(rg [(so 3 (.box 27 (.t 0))),(so 5 (.box 29 (.t 2))),(b6 6 0),(b6 7 0)] (rg [(sc 9 4 3),(sa 10 1),(se 11 0 3),(sb 12 11),(b4 13 12),(so 14 (.bsl 3 2 (zs 2) [(0,1,(.t 10)),(1,1,(.t 13))])),(b3 15 44 [9,14]),(sa 8 15)] (.seq (.block 0 (rg [(sa 17 8),(b2 18 .neq 17 0),(sa 16 18)] (.cond (.t 16) (rg [(sa 19 8),(b6 6 0),(sa 7 19)] .ret) (rg [(sc 21 4 5),(b3 22 53 [21]),(sa 20 22)] (.cond (.t 20) (rg [(b6 6 0),(b6 7 7)] .ret) .skip))))) (.seq (.draw [(ee 23 0 3),(eb 24 23),(ea 25 1),(d7 26 4 24 25),(ec 27 4 26),(ec 28 4 5),(d3 29 61 [27,28]),(ea 6 29),(eo 7 (.mov (ki 0)))]) .ret))))⟩
def s23 : SFun := ⟨75,[.tmp 2,.tmp 3,.tmp 4],(rg [(so 1 (.box 27 (.t 0))),(b6 2 0),(b6 3 0),(b6 4 0)] (.seq (rg [(se 13 0 1),(sb 14 13),(b4 15 14),(b2 16 .gtr 15 8),(sa 17 16),⟨(some 18),.fa 1 (.t 1),(some (17,false))⟩,⟨(some 19),.ld (.t 18),(some (17,false))⟩,⟨(some 20),.len (.t 19),(some (17,false))⟩,⟨(some 21),.bin .gtr (.t 20) (ki 12),(some (17,false))⟩,(so 22 (.pick (.t 17) (.k (.bool true)) (.t 21))),(sa 23 22),⟨(some 24),.fa 2 (.t 1),(some (23,false))⟩,⟨(some 25),.ld (.t 24),(some (23,false))⟩,⟨(some 26),.len (.t 25),(some (23,false))⟩,⟨(some 27),.bin .gtr (.t 26) (ki 8),(some (23,false))⟩,(so 28 (.pick (.t 23) (.k (.bool true)) (.t 27))),(sa 29 28),⟨(some 30),.fa 3 (.t 1),(some (29,false))⟩,⟨(some 31),.ld (.t 30),(some (29,false))⟩,⟨(some 32),.len (.t 31),(some (29,false))⟩,⟨(some 33),.bin .gtr (.t 32) (ki 24),(some (29,false))⟩,(so 34 (.pick (.t 29) (.k (.bool true)) (.t 33)))] (.cond (.t 34) (rg [(b6 2 0),(b6 3 0),(b6 4 3)] .ret) .skip)) (.seq (rg [(se 36 0 1),(sb 37 36),(so 38 (.call 62 [(.t 37),(.k (.fn (.func 63) [] []))])),(sa 35 38),(so 39 (.ext (.t 35) 0)),(so 40 (.ext (.t 35) 1)),(sa 5 39),(sa 6 40)] (rg [(sa 41 6),(b2 42 .neq 41 0)] (.cond (.t 42) (rg [(sa 43 5),(sa 44 6),(b6 2 1),(sa 3 43),(sa 4 44)] .ret) .skip))) (.seq (rg [(se 46 1 1),(sb 47 46),(so 48 (.call 64 [(.t 47),(.k (.fn (.func 65) [] []))])),(sa 45 48),(so 49 (.ext (.t 45) 0)),(so 50 (.ext (.t 45) 1)),(sa 7 49),(sa 8 50)] (rg [(sa 51 8),(b2 52 .neq 51 0)] (.cond (.t 52) (rg [(sa 53 7),(sa 54 8),(b6 2 2),(sa 3 53),(sa 4 54)] .ret) .skip))) (.seq (rg [(se 56 2 1),(sb 57 56),(so 58 (.call 66 [(.t 57),(.k (.fn (.func 67) [] []))])),(sa 55 58),(so 59 (.ext (.t 55) 0)),(so 60 (.ext (.t 55) 1)),(sa 9 59),(sa 10 60)] (rg [(sa 61 10),(b2 62 .neq 61 0)] (.cond (.t 62) (rg [(sa 63 9),(sa 64 10),(b6 2 3),(sa 3 63),(sa 4 64)] .ret) .skip))) (.seq (rg [(se 66 3 1),(sb 67 66),(so 68 (.call 68 [(.t 67),(.k (.fn (.func 69) [] []))])),(sa 65 68),(so 69 (.ext (.t 65) 0)),(so 70 (.ext (.t 65) 1)),(sa 11 69),(sa 12 70)] (rg [(sa 71 12),(b2 72 .neq 71 0)] (.cond (.t 72) (rg [(sa 73 11),(sa 74 12),(b6 2 4),(sa 3 73),(sa 4 74)] .ret) .skip))) (rg [(b6 2 0),(b6 3 0),(b6 4 0)] .ret)))))))⟩
def s25 : SFun := ⟨35,[.tmp 8,.tmp 9],(rg [(so 4 (.box 27 (.t 0))),(so 8 (.mov (.k (.bool false)))),(b6 9 0)] (rg [(sc 11 4 4),(sa 12 1),(se 13 0 4),(sb 14 13),(b4 15 14),(so 16 (.bsl 3 2 (zs 2) [(0,1,(.t 12)),(1,1,(.t 15))])),(b3 17 44 [11,16]),(sa 10 17)] (.seq (.block 0 (rg [(sa 19 10),(b2 20 .neq 19 0),(sa 18 20)] (.cond (.t 18) (rg [(sa 21 10),(so 8 (.mov (.k (.bool false)))),(sa 9 21)] .ret) (rg [(sa 23 2),(sa 24 3),(so 25 (.bsl 3 2 (zs 2) [(0,1,(.t 23)),(1,1,(.t 24))])),(b3 26 45 [25]),(sa 22 26)] (.cond (.t 22) (rg [(so 8 (.mov (.k (.bool false)))),(b6 9 7)] .ret) .skip))))) (rg [(se 27 0 4),(sb 28 27),(sa 29 1),(b7 30 4 28 29),(sc 31 4 30),(sa 32 2),(sa 33 3),(b3 34 74 [31,32,33]),(sa 8 34),(b6 9 0)] .ret))))⟩
def s34 : SFun := ⟨52,[.tmp 4,.tmp 5],(rg [(so 2 (.box 27 (.t 0))),(so 4 (.mov (.k (.slice none 0 0)))),(b6 5 0)] (.seq (rg [(sc 12 4 2),(sa 13 1),(se 14 0 2),(sb 15 14),(b4 16 15),(so 17 (.bsl 3 2 (zs 2) [(0,1,(.t 13)),(1,1,(.t 16))])),(b3 18 44 [12,17]),(sa 6 18)] (rg [(sa 19 6),(b2 20 .neq 19 0)] (.cond (.t 20) (rg [(sa 21 6),(so 4 (.mov (.k (.slice none 0 0)))),(sa 5 21)] .ret) .skip))) (rg [(so 7 (.new 73 [(.slice none 0 0)]))] (rg [(so 8 (.new 95 (zs 2)))] (rg [(so 9 (.new 3 [(.int .i64 0)])),⟨none,.st 1 (.t 9) (ki 0),none⟩] (.seq (rg [(se 22 0 2),(sb 23 22),(sa 24 1),(b7 25 4 23 24),(sc 26 4 25),(b3 27 83 [26])] (.block 0 (.range (.t 27) [28] (.reg [(so 10 (.new 145 (zs 5))),(b8 5 10 28)]) (.block 1 (rg [(se 29 0 10),(se 30 2 29),(sc 31 2 30),(se 32 0 10),(se 33 0 32),(sc 34 2 33),(b3 35 84 [31,34]),(so 11 (.new 95 (zs 2))),(b8 2 11 35)] (.seq (rg [(sb 36 9),(b2 37 .gtr 36 0),(sa 38 37),⟨(some 39),.lds 2 (.t 11),(some (38,true))⟩,⟨(some 40),.lds 2 (.t 8),(some (38,true))⟩,⟨(some 41),.call 85 [(.t 39),(.t 40)],(some (38,true))⟩,⟨(some 42),.bin .leq (.t 41) (ki 0),(some (38,true))⟩,(so 43 (.pick (.t 38) (.t 42) (.k (.bool false))))] (.cond (.t 43) (.reg [(sb 44 7),(sb 45 9),(so 46 (.bsl 3 1 [(.int .i64 0)] [(0,1,(.t 45))])),(so 47 (.app 3 1 8 [(.int .i64 0)] (.t 44) (.t 46))),(b8 1 7 47)]) .skip)) (rg [(sc 48 2 11),(b8 2 8 48)] (.reg [(sb 49 9),(b2 50 .add 49 1),(b8 1 9 50)]))))) its))) (rg [(sb 51 7),(sa 4 51),(b6 5 0)] .ret)))))))⟩
def s43 : SFun := ⟨22,[.cell 0 (some 4)],(rg [(so 0 (.new 27 [(.slice none 0 0),(.slice none 0 0),(.slice none 0 0),(.slice none 0 0)]))] (rg [(so 1 (.agg (zs 2) [(0,1,(ki 0)),(1,1,(ki 0))])),(so 2 (.agg (zs 2) [(0,1,(ki 10000)),(1,1,(ki 0))])),(so 3 (.agg (zs 2) [(0,1,(ki 10000)),(1,1,(ki 10000))])),(so 4 (.bsl 72 3 (zs 6) [(0,2,(.t 1)),(2,2,(.t 2)),(4,2,(.t 3))])),(so 5 (.agg [(.str ⟨#[]⟩),(.int .i64 0),(.slice none 0 0),(.int .i64 0)] [(0,1,(.k (.str ⟨#[104,105,103,104]⟩))),(2,1,(.t 4)),(3,1,(ki 4000))])),(so 6 (.agg (zs 2) [(0,1,(ki 5000)),(1,1,(ki (-2000)))])),(so 7 (.agg (zs 2) [(0,1,(ki 5000)),(1,1,(ki 2000))])),(so 8 (.bsl 72 2 (zs 4) [(0,2,(.t 6)),(2,2,(.t 7))])),(so 9 (.agg [(.str ⟨#[]⟩),(.int .i64 0),(.slice none 0 0),(.int .i64 0)] [(0,1,(.k (.str ⟨#[122,101,98,114,97]⟩))),(1,1,(ki 3)),(2,1,(.t 8)),(3,1,(ki 3000))])),(so 10 (.bsl 54 2 [(.str ⟨#[]⟩),(.int .i64 0),(.slice none 0 0),(.int .i64 0),(.str ⟨#[]⟩),(.int .i64 0),(.slice none 0 0),(.int .i64 0)] [(0,4,(.t 5)),(4,4,(.t 9))])),(so 11 (.agg (zs 5) [(0,1,(ki 4000)),(1,1,(ki 3000)),(2,1,(ki 1000)),(3,1,(ki 20)),(4,1,(ki 40))])),(so 12 (.bsl 57 1 (zs 5) [(0,5,(.t 11))])),(so 13 (.agg (zs 2) [(0,1,(ki 10000)),(1,1,(ki 5000))])),(so 14 (.agg (zs 2) [(0,1,(ki 0)),(1,1,(ki 5000))])),(so 15 (.agg (zs 4) [(0,1,(ki 250)),(1,1,(ki 750)),(2,1,(ki 10)),(3,1,(ki 30))])),(so 16 (.bsl 137 1 (zs 4) [(0,4,(.t 15))])),(so 17 (.agg [(.int .i64 0),(.int .i64 0),(.int .i64 0),(.int .i64 0),(.slice none 0 0)] [(0,2,(.t 13)),(2,2,(.t 14)),(4,1,(.t 16))])),(so 18 (.bsl 123 1 [(.int .i64 0),(.int .i64 0),(.int .i64 0),(.int .i64 0),(.slice none 0 0)] [(0,5,(.t 17))])),(so 19 (.agg [(.str ⟨#[]⟩),(.int .i64 0),(.int .i64 0),(.int .i64 0),(.int .i64 0),(.int .i64 0)] [(0,1,(.k (.str ⟨#[99,49]⟩))),(1,1,(ki 4000)),(2,1,(ki 4000)),(3,1,(ki 60)),(5,1,(ki (-1)))])),(so 20 (.bsl 100 1 [(.str ⟨#[]⟩),(.int .i64 0),(.int .i64 0),(.int .i64 0),(.int .i64 0),(.int .i64 0)] [(0,6,(.t 19))])),(so 21 (.agg [(.slice none 0 0),(.slice none 0 0),(.slice none 0 0),(.slice none 0 0)] [(0,1,(.t 10)),(1,1,(.t 12)),(2,1,(.t 18)),(3,1,(.t 20))])),(b8 4 0 21)] .ret))⟩
def s44 : SFun := ⟨37,[.tmp 4],(rg [(so 2 (.box 27 (.t 0))),(b6 4 0)] (rg [(sc 10 4 2),(b3 11 23 [10]),(sa 9 11),(so 12 (.ext (.t 9) 0)),(so 13 (.ext (.t 9) 1)),(so 14 (.ext (.t 9) 2)),(sa 5 12),(sa 6 13),(sa 7 14)] (.seq (rg [(b6 8 0)] (.block 0 (.loop (.seq (rg [(sa 15 8),(sa 16 1),(b4 17 16),(b1 18 .lss 15 17),(sa 19 18),⟨(some 20),.mov (.t 7),(some (19,true))⟩,⟨(some 21),.bin .eql (.t 20) (ki 0),(some (19,true))⟩,(so 22 (.pick (.t 19) (.t 21) (.k (.bool false))))] (.cond (.t 22) .skip (.exit 0))) (.seq (.block 1 (.seq (.draw [(ea 25 1),(ea 26 8),(d7 27 1 25 26),(eb 28 27),(ea 29 1),(ea 30 8),(d2 31 .add 30 1),(d7 32 1 29 31),(eb 33 32),(d2 34 .sub 33 1),(eo 35 (.call 86 [(.t 28),(ki 0),(.t 34)]))]) (.cond (.t 35) (.reg [(b6 7 4)]) .skip))) (.reg [(sa 23 8),(b2 24 .add 23 2),(sa 8 24)])))))) (rg [(sa 36 7),(sa 4 36)] .ret))))⟩
def s45 : SFun := ⟨5,[.tmp 2],(rg [(so 2 (.mov (.k (.bool false))))] (rg [(sa 3 0),(so 4 (.call 99 [(.t 3),(.k (.fn (.func 100) [] []))])),(sa 2 4)] .ret))⟩
def s46 : SFun := ⟨19,[.tmp 4],(rg [(b6 4 0)] (.seq (rg [(sa 6 0),(b4 7 6),(b6 8 0)] (.block 0 (.loop (rg [(b1 9 .lss 8 7)] (.seq (.cond (.t 9) .skip (.exit 0)) (.seq (.block 1 (rg [(sa 10 8),(sa 5 10)] (rg [(sa 11 1),(sa 12 0),(sa 13 5),(b7 14 5 12 13),(sc 15 5 14),(so 16 (.callv (.t 11) [(.t 15)]))] (.cond (.t 16) (rg [(sa 17 5),(sa 4 17)] .ret) .skip)))) (.reg [(b2 18 .add 8 1),(sa 8 18)]))))))) (rg [(b6 4 (-1))] .ret)))⟩
def s47 : SFun := ⟨18,[.tmp 6],(rg [(so 5 (.box 57 (.t 0))),(so 6 (.mov (.k (.bool false))))] (.seq (.draw [(ee 7 3 1),(eb 8 7),(eb 9 2),(d7 10 6 8 9),(ec 11 6 10),(ec 12 5 5),(d3 13 48 [11,12]),(eb 14 3),(eb 15 4),(eo 16 (.agg (zs 2) [(0,1,(.t 14)),(1,1,(.t 15))])),(d3 17 49 [13,16]),(ea 6 17)]) .ret))⟩
def s48 : SFun := ⟨42,[.cell 4 (some 9)],(rg [(so 2 (.box 100 (.t 0))),(so 3 (.box 57 (.t 1))),(so 4 (.new 97 [(.int .i64 0),(.int .i64 0),(.int .i64 0),(.int .i64 0),(.int .i64 0),(.int .i64 0),(.int .i64 0),(.int .i64 0),(.bool false)]))] (.seq (.draw [(ee 5 1 2),(eb 6 5),(ee 7 2 2),(eb 8 7),(eo 9 (.agg (zs 2) [(0,1,(.t 6)),(1,1,(.t 8))])),(ee 10 3 2),(eb 11 10),(ee 12 3 2),(eb 13 12),(ee 14 4 3),(eb 15 14),(d1 16 .sub 13 15),(eo 17 (.mm true (ki 0) [(.t 16)])),(ee 18 3 2),(eb 19 18),(ee 20 3 3),(eb 21 20),(d1 22 .sub 19 21),(ee 23 0 3),(eb 24 23),(ee 25 1 3),(eb 26 25),(eo 27 (.agg (zs 2) [(0,1,(.t 24)),(1,1,(.t 26))])),(ee 28 3 2),(eb 29 28),(d3 30 101 [27,29]),(ee 31 2 3),(eb 32 31),(ee 33 3 2),(eb 34 33),(d1 35 .mul 32 34),(ee 36 3 3),(eb 37 36),(ee 38 3 2),(eb 39 38),(d1 40 .gtr 37 39),(eo 41 (.agg [(.int .i64 0),(.int .i64 0),(.int .i64 0),(.int .i64 0),(.int .i64 0),(.int .i64 0),(.int .i64 0),(.int .i64 0),(.bool false)] [(0,2,(.t 9)),(2,1,(.t 11)),(3,1,(.t 17)),(4,1,(.t 22)),(5,2,(.t 30)),(7,1,(.t 35)),(8,1,(.t 40))])),⟨(b8 9 4 41),none,[],[.slot 4]⟩]) .ret))⟩
def s49 : SFun := ⟨26,[.tmp 4],(rg [(so 2 (.box 97 (.t 0))),(so 3 (.box 95 (.t 1))),(so 4 (.mov (.k (.bool false))))] (.seq (.draw [(ee 5 8 2),(eb 6 5),(eo 7 (.un .not (.t 6))),(ea 8 7),(dz ⟨(some 9),.lds 9 (.t 2),(some (8,true))⟩),(dz ⟨(some 10),.lds 2 (.t 3),(some (8,true))⟩),(dz ⟨(some 11),.fa 3 (.t 2),(some (8,true))⟩),(dz ⟨(some 12),.ld (.t 11),(some (8,true))⟩),(dz ⟨(some 13),.call 102 [(.t 9),(.t 10),(.t 12)],(some (8,true))⟩),(dz ⟨(some 14),.lds 9 (.t 2),(some (8,true))⟩),(dz ⟨(some 15),.lds 2 (.t 3),(some (8,true))⟩),(dz ⟨(some 16),.fa 4 (.t 2),(some (8,true))⟩),(dz ⟨(some 17),.ld (.t 16),(some (8,true))⟩),(dz ⟨(some 18),.call 102 [(.t 14),(.t 15),(.t 17)],(some (8,true))⟩),(dz ⟨(some 19),.agg (zs 4) [(0,2,(.t 13)),(2,2,(.t 18))],(some (8,true))⟩),(dz ⟨(some 20),.fa 5 (.t 2),(some (8,true))⟩),(dz ⟨(some 21),.lds 2 (.t 20),(some (8,true))⟩),(dz ⟨(some 22),.fa 7 (.t 2),(some (8,true))⟩),(dz ⟨(some 23),.ld (.t 22),(some (8,true))⟩),(dz ⟨(some 24),.call 103 [(.t 19),(.t 21),(.t 23)],(some (8,true))⟩),(eo 25 (.pick (.t 8) (.t 24) (.k (.bool false)))),(ea 4 25)]) .ret))⟩
def s53 : SFun := ⟨27,[.tmp 2],(rg [(so 1 (.box 29 (.t 0))),(so 2 (.mov (.k (.bool false))))] (rg [(se 3 0 1),(sb 4 3),(se 5 1 1),(sb 6 5),(se 7 2 1),(sb 8 7),(se 9 3 1),(sb 10 9),(so 11 (.bsl 3 4 (zs 4) [(0,1,(.t 4)),(1,1,(.t 6)),(2,1,(.t 8)),(3,1,(.t 10))])),(b3 12 45 [11]),(sa 13 12),⟨(some 14),.fa 0 (.t 1),(some (13,false))⟩,⟨(some 15),.ld (.t 14),(some (13,false))⟩,⟨(some 16),.fa 2 (.t 1),(some (13,false))⟩,⟨(some 17),.ld (.t 16),(some (13,false))⟩,⟨(some 18),.bin .gtr (.t 15) (.t 17),(some (13,false))⟩,(so 19 (.pick (.t 13) (.k (.bool true)) (.t 18))),(sa 20 19),⟨(some 21),.fa 1 (.t 1),(some (20,false))⟩,⟨(some 22),.ld (.t 21),(some (20,false))⟩,⟨(some 23),.fa 3 (.t 1),(some (20,false))⟩,⟨(some 24),.ld (.t 23),(some (20,false))⟩,⟨(some 25),.bin .gtr (.t 22) (.t 24),(some (20,false))⟩,(so 26 (.pick (.t 20) (.k (.bool true)) (.t 25))),(sa 2 26)] .ret))⟩
def s54 : SFun := ⟨24,[.cell 2 (some 8)],(rg [(so 1 (.box 29 (.t 0))),(so 2 (.new 108 (zs 8)))] (rg [(se 3 0 1),(sb 4 3),(se 5 1 1),(sb 6 5),(so 7 (.agg (zs 2) [(0,1,(.t 4)),(1,1,(.t 6))])),(se 8 2 1),(sb 9 8),(se 10 1 1),(sb 11 10),(so 12 (.agg (zs 2) [(0,1,(.t 9)),(1,1,(.t 11))])),(se 13 2 1),(sb 14 13),(se 15 3 1),(sb 16 15),(so 17 (.agg (zs 2) [(0,1,(.t 14)),(1,1,(.t 16))])),(se 18 0 1),(sb 19 18),(se 20 3 1),(sb 21 20),(so 22 (.agg (zs 2) [(0,1,(.t 19)),(1,1,(.t 21))])),(so 23 (.agg (zs 8) [(0,2,(.t 7)),(2,2,(.t 12)),(4,2,(.t 17)),(6,2,(.t 22))])),(b8 8 2 23)] .ret))⟩
def s55 : SFun := ⟨9,[.tmp 4],(rg [(so 4 (.mov (.k (.bool false))))] (rg [(sa 5 0),(sa 6 1),(b3 7 108 [5,6]),(b2 8 .geq 7 0),(sa 4 8)] .ret))⟩
def s56 : SFun := ⟨8,[.tmp 3],(rg [(so 2 (.box 95 (.t 0))),(so 3 (.mov (.k (.bool false))))] (rg [(sc 4 9 1),(sc 5 2 2),(b3 6 49 [4,5]),(b5 7 6),(sa 3 7)] .ret))⟩
def s57 : SFun := ⟨71,[.tmp 4],(rg [(so 2 (.box 97 (.t 0))),(so 3 (.box 29 (.t 1))),(so 4 (.mov (.k (.bool false))))] (.seq (rg [(se 12 8 2),(sb 13 12)] (.cond (.t 13) (rg [(so 4 (.mov (.k (.bool false))))] .ret) .skip)) (rg [(so 5 (.mov (.k (.slice none 0 0))))] (.seq (rg [(sc 14 4 3),(b3 15 54 [14]),(b6 16 0)] (.block 0 (.loop (rg [(b2 17 .lss 16 4)] (.seq (.cond (.t 17) .skip (.exit 0)) (.seq (.block 1 (rg [(so 18 (.ixA 4 2 (some 2) (.t 15) (.t 16))),(so 7 (.new 95 (zs 2))),(b8 2 7 18)] (.draw [⟨(sa 19 5),none,[11],[]⟩,(ec 20 9 2),(ec 21 2 7),(ee 22 3 2),(eb 23 22),(d3 24 102 [20,21,23]),(ec 25 9 2),(ec 26 2 7),(ee 27 4 2),(eb 28 27),(d3 29 102 [25,26,28]),⟨(so 30 (.bsl 95 2 (zs 4) [(0,2,(.t 24)),(2,2,(.t 29))])),(some 0),[],[.fresh 0]⟩,⟨(so 31 (.app 95 2 16 (zs 2) (.t 19) (.t 30))),(some 1),[],[.slot 5,.fresh 1]⟩,(ea 5 31)]))) (.reg [(b2 32 .add 16 1),(sa 16 32)]))))))) (rg [(sa 33 5),(b3 34 109 [33]),(sa 5 34)] (rg [(sa 35 5),(b4 36 35),(b2 37 .gtr 36 2),(sa 8 37)] (.seq (rg [(sa 38 5),(b4 39 38),(b6 40 0)] (.block 2 (.loop (rg [(b1 41 .lss 40 39)] (.seq (.cond (.t 41) .skip (.exit 2)) (.seq (.block 3 (rg [(sa 42 40),(b7 43 2 38 40),(sc 44 2 43),(so 10 (.new 95 (zs 2))),(sa 9 42),(b8 2 10 44)] (.seq (.draw [⟨(sc 45 2 10),none,[10],[]⟩,⟨(sa 46 5),none,[10],[]⟩,⟨(sa 47 9),none,[10],[]⟩,⟨(b2 48 .add 47 1),none,[10],[]⟩,⟨(sa 49 5),none,[10],[]⟩,⟨(b4 50 49),none,[10],[]⟩,⟨(b1 51 .rem 48 50),none,[10],[]⟩,⟨(b7 52 2 46 51),none,[10],[]⟩,⟨(sc 53 2 52),none,[10],[]⟩,⟨(so 54 (.agg (zs 4) [(0,2,(.t 45)),(2,2,(.t 53))])),none,[10],[]⟩,⟨(so 11 (.new 133 (zs 4))),(some 0),[],[.fresh 0]⟩,⟨(b8 4 11 54),none,[],[.fresh 0]⟩]) (.seq (rg [(sc 55 4 11),(se 56 5 2),(sc 57 2 56),(se 58 7 2),(sb 59 58),(b3 60 103 [55,57,59])] (.cond (.t 60) (rg [(so 4 (.mov (.k (.bool true))))] .ret) .skip)) (.reg [(sa 61 8),(sa 62 61),⟨(some 63),.lds 4 (.t 11),(some (62,true))⟩,⟨(some 64),.fa 5 (.t 2),(some (62,true))⟩,⟨(some 65),.lds 2 (.t 64),(some (62,true))⟩,⟨(some 66),.call 78 [(.t 63),(.t 65)],(some (62,true))⟩,⟨(some 67),.bin .gtr (.t 66) (ki 0),(some (62,true))⟩,(so 68 (.pick (.t 62) (.t 67) (.k (.bool false)))),(sa 8 68)]))))) (.reg [(b2 69 .add 40 1),(sa 40 69)]))))))) (rg [(sa 70 8),(sa 4 70)] .ret))))))))⟩
def s61 : SFun := ⟨16,[.tmp 4],(rg [(so 2 (.box 54 (.t 0))),(so 3 (.box 29 (.t 1))),(b6 4 0)] (rg [(so 5 (.new 3 [(.int .i64 0)])),⟨none,.st 1 (.t 5) (ki 0),none⟩] (.seq (rg [(sc 7 4 2),(b3 8 83 [7])] (.block 0 (.range (.t 8) [9] (.reg [(so 6 (.new 145 (zs 5))),(b8 5 6 9)]) (.block 1 (.draw [(eb 10 5),(ec 11 5 6),(ec 12 4 3),(d3 13 111 [11,12]),(eo 14 (.mm true (.t 10) [(.t 13)])),⟨(b8 1 5 14),none,[],[.slot 5]⟩])) its))) (rg [(sb 15 5),(sa 4 15)] .ret))))⟩
def s62 : SFun := ⟨27,[.tmp 4,.tmp 5],(rg [(b6 4 0),(b6 5 0)] (.seq (rg [(sa 9 0),(b4 10 9),(b6 11 0)] (.block 0 (.loop (rg [(b1 12 .lss 11 10)] (.seq (.cond (.t 12) .skip (.exit 0)) (.seq (.block 1 (rg [(sa 13 11),(b7 14 4 9 11),(sc 15 4 14),(so 7 (.new 54 [(.str ⟨#[]⟩),(.int .i64 0),(.slice none 0 0),(.int .i64 0)])),(sa 6 13),(b8 4 7 15)] (.seq (.draw [(ea 16 1),(ea 17 0),(ea 18 6),(eo 19 (.slS 4 (.t 17) none (some (.t 18)) none)),(ec 20 4 7),(eo 21 (.callv (.t 16) [(.t 19),(.t 20)])),(ea 8 21)]) (rg [(sa 22 8),(b2 23 .neq 22 0)] (.cond (.t 23) (rg [(sa 24 6),(sa 25 8),(sa 4 24),(sa 5 25)] .ret) .skip))))) (.reg [(b2 26 .add 11 1),(sa 11 26)]))))))) (rg [(b6 4 0),(b6 5 0)] .ret)))⟩
def s63 : SFun := ⟨61,[.tmp 4],(rg [(so 3 (.box 54 (.t 1))),(b6 4 0)] (rg [(so 7 (.mkf (.func 112) [] [(.t 3)])),(sa 5 7)] (rg [(so 6 (.mov (.k (.fn (.func 113) [] []))))] (.seq (.block 0 (rg [(se 9 0 3),(sb 10 9),(b3 11 114 [10]),(b5 12 11),(sa 8 12)] (.cond (.t 8) (rg [(b6 4 6)] .ret) (rg [(sa 14 0),(sa 15 5),(b3 16 90 [14,15]),(sa 13 16)] (.cond (.t 13) (rg [(b6 4 5)] .ret) (rg [(se 18 1 3),(sb 19 18),(so 20 (.call 86 [(.t 19),(ki 0),(ki 3)])),(sa 17 20)] (.cond (.t 17) (rg [(b6 4 2)] .ret) (rg [(se 22 2 3),(sb 23 22),(b4 24 23),(b2 25 .lss 24 2),(sa 21 25)] (.cond (.t 21) (rg [(b6 4 4)] .ret) (rg [(se 27 2 3),(sb 28 27),(b4 29 28),(b2 30 .gtr 29 8),(sa 26 30)] (.cond (.t 26) (rg [(b6 4 3)] .ret) (rg [(se 32 2 3),(sb 33 32),(sa 34 6),(b3 35 115 [33,34]),(sa 36 35),⟨(some 37),.fa 3 (.t 3),(some (36,false))⟩,⟨(some 38),.ld (.t 37),(some (36,false))⟩,⟨(some 39),.call 86 [(.t 38),(ki 100),(ki 30000)],(some (36,false))⟩,(so 40 (.pick (.t 36) (.k (.bool true)) (.t 39))),(sa 31 40)] (.cond (.t 31) (rg [(b6 4 7)] .ret) (.seq (.allo (.op (se 42 2 3) (.op (se 47 2 3) (.alt (.op (sb 43 42) (.alt (.op (b3 44 117 [43]) (.alt (.op (b3 45 116 [44]) (.op (b4 46 45) (.op (sb 48 47) (.op (b4 49 48) (.op (b1 50 .lss 46 49) (.op (sa 41 50) .done)))))) (.op (sb 48 47) (.op (b4 49 48) (.op (b3 45 116 [44]) (.op (b4 46 45) (.op (b1 50 .lss 46 49) (.op (sa 41 50) .done)))))))) (.op (sb 48 47) (.op (b4 49 48) (.op (b3 44 117 [43]) (.op (b3 45 116 [44]) (.op (b4 46 45) (.op (b1 50 .lss 46 49) (.op (sa 41 50) .done))))))))) (.op (sb 48 47) (.op (b4 49 48) (.op (sb 43 42) (.op (b3 44 117 [43]) (.op (b3 45 116 [44]) (.op (b4 46 45) (.op (b1 50 .lss 46 49) (.op (sa 41 50) .done)))))))))))) (.cond (.t 41) (rg [(b6 4 2)] .ret) (rg [(se 52 1 3),(sb 53 52),(b2 54 .eql 53 3),(sa 55 54),⟨(some 56),.fa 2 (.t 3),(some (55,true))⟩,⟨(some 57),.ld (.t 56),(some (55,true))⟩,⟨(some 58),.len (.t 57),(some (55,true))⟩,⟨(some 59),.bin .gtr (.t 58) (ki 2),(some (55,true))⟩,(so 60 (.pick (.t 55) (.t 59) (.k (.bool false)))),(sa 51 60)] (.cond (.t 51) (rg [(b6 4 2)] .ret) .skip))))))))))))))))) (rg [(b6 4 0)] .ret)))))⟩
def s64 : SFun := ⟨27,[.tmp 4,.tmp 5],(rg [(b6 4 0),(b6 5 0)] (.seq (rg [(sa 9 0),(b4 10 9),(b6 11 0)] (.block 0 (.loop (rg [(b1 12 .lss 11 10)] (.seq (.cond (.t 12) .skip (.exit 0)) (.seq (.block 1 (rg [(sa 13 11),(b7 14 5 9 11),(sc 15 5 14),(so 7 (.new 57 (zs 5))),(sa 6 13),(b8 5 7 15)] (.seq (.draw [(ea 16 1),(ea 17 0),(ea 18 6),(eo 19 (.slS 5 (.t 17) none (some (.t 18)) none)),(ec 20 5 7),(eo 21 (.callv (.t 16) [(.t 19),(.t 20)])),(ea 8 21)]) (rg [(sa 22 8),(b2 23 .neq 22 0)] (.cond (.t 23) (rg [(sa 24 6),(sa 25 8),(sa 4 24),(sa 5 25)] .ret) .skip))))) (.reg [(b2 26 .add 11 1),(sa 11 26)]))))))) (rg [(b6 4 0),(b6 5 0)] .ret)))⟩
def s65 : SFun := ⟨29,[.tmp 4],(rg [(so 3 (.box 57 (.t 1))),(b6 4 0)] (.seq (rg [(se 5 0 3),(sb 6 5),(se 7 1 3),(sb 8 7),(so 9 (.bsl 3 2 (zs 2) [(0,1,(.t 6)),(1,1,(.t 8))])),(b3 10 45 [9]),(sa 11 10),⟨(some 12),.fa 2 (.t 3),(some (11,false))⟩,⟨(some 13),.ld (.t 12),(some (11,false))⟩,⟨(some 14),.call 86 [(.t 13),(ki 1),(ki 20000)],(some (11,false))⟩,(so 15 (.pick (.t 11) (.k (.bool true)) (.t 14))),(sa 16 15),⟨(some 17),.fa 3 (.t 3),(some (16,false))⟩,⟨(some 18),.ld (.t 17),(some (16,false))⟩,⟨(some 19),.fa 4 (.t 3),(some (16,false))⟩,⟨(some 20),.ld (.t 19),(some (16,false))⟩,⟨(some 21),.bin .sub (.t 20) (ki 1),(some (16,false))⟩,⟨(some 22),.call 86 [(.t 18),(ki 0),(.t 21)],(some (16,false))⟩,(so 23 (.pick (.t 16) (.k (.bool true)) (.t 22))),(sa 24 23),⟨(some 25),.fa 4 (.t 3),(some (24,false))⟩,⟨(some 26),.ld (.t 25),(some (24,false))⟩,⟨(some 27),.call 86 [(.t 26),(ki 1),(ki 1000)],(some (24,false))⟩,(so 28 (.pick (.t 24) (.k (.bool true)) (.t 27)))] (.cond (.t 28) (rg [(b6 4 7)] .ret) .skip)) (rg [(b6 4 0)] .ret)))⟩
def s66 : SFun := ⟨27,[.tmp 4,.tmp 5],(rg [(b6 4 0),(b6 5 0)] (.seq (rg [(sa 9 0),(b4 10 9),(b6 11 0)] (.block 0 (.loop (rg [(b1 12 .lss 11 10)] (.seq (.cond (.t 12) .skip (.exit 0)) (.seq (.block 1 (rg [(sa 13 11),(b7 14 5 9 11),(sc 15 5 14),(so 7 (.new 123 [(.int .i64 0),(.int .i64 0),(.int .i64 0),(.int .i64 0),(.slice none 0 0)])),(sa 6 13),(b8 5 7 15)] (.seq (.draw [(ea 16 1),(ea 17 0),(ea 18 6),(eo 19 (.slS 5 (.t 17) none (some (.t 18)) none)),(ec 20 5 7),(eo 21 (.callv (.t 16) [(.t 19),(.t 20)])),(ea 8 21)]) (rg [(sa 22 8),(b2 23 .neq 22 0)] (.cond (.t 23) (rg [(sa 24 6),(sa 25 8),(sa 4 24),(sa 5 25)] .ret) .skip))))) (.reg [(b2 26 .add 11 1),(sa 11 26)]))))))) (rg [(b6 4 0),(b6 5 0)] .ret)))⟩
def s67 : SFun := ⟨37,[.tmp 4],(rg [(so 3 (.box 123 (.t 1))),(b6 4 0)] (rg [(so 5 (.mov (.k (.fn (.func 118) [] []))))] (.seq (.block 0 (rg [(se 7 0 3),(so 8 (.iaA 2 1 (.t 7) (ki 0))),(sb 9 8),(se 10 0 3),(so 11 (.iaA 2 1 (.t 10) (ki 1))),(sb 12 11),(se 13 2 3),(so 14 (.iaA 2 1 (.t 13) (ki 0))),(sb 15 14),(se 16 2 3),(so 17 (.iaA 2 1 (.t 16) (ki 1))),(sb 18 17),(so 19 (.bsl 3 4 (zs 4) [(0,1,(.t 9)),(1,1,(.t 12)),(2,1,(.t 15)),(3,1,(.t 18))])),(b3 20 45 [19]),(sa 6 20)] (.cond (.t 6) (rg [(b6 4 7)] .ret) (rg [(se 22 0 3),(sc 23 2 22),(se 24 2 3),(sc 25 2 24),(so 26 (.eqa false 2 (.t 23) (.t 25))),(sa 21 26)] (.cond (.t 21) (rg [(b6 4 2)] .ret) (rg [(se 28 4 3),(sb 29 28),(b4 30 29),(b2 31 .gtr 30 6),(sa 27 31)] (.cond (.t 27) (rg [(b6 4 3)] .ret) (rg [(se 33 4 3),(sb 34 33),(sa 35 5),(b3 36 119 [34,35]),(sa 32 36)] (.cond (.t 32) (rg [(b6 4 7)] .ret) .skip))))))))) (rg [(b6 4 0)] .ret))))⟩
def s68 : SFun := ⟨27,[.tmp 4,.tmp 5],(rg [(b6 4 0),(b6 5 0)] (.seq (rg [(sa 9 0),(b4 10 9),(b6 11 0)] (.block 0 (.loop (rg [(b1 12 .lss 11 10)] (.seq (.cond (.t 12) .skip (.exit 0)) (.seq (.block 1 (rg [(sa 13 11),(b7 14 6 9 11),(sc 15 6 14),(so 7 (.new 100 [(.str ⟨#[]⟩),(.int .i64 0),(.int .i64 0),(.int .i64 0),(.int .i64 0),(.int .i64 0)])),(sa 6 13),(b8 6 7 15)] (.seq (.draw [(ea 16 1),(ea 17 0),(ea 18 6),(eo 19 (.slS 6 (.t 17) none (some (.t 18)) none)),(ec 20 6 7),(eo 21 (.callv (.t 16) [(.t 19),(.t 20)])),(ea 8 21)]) (rg [(sa 22 8),(b2 23 .neq 22 0)] (.cond (.t 23) (rg [(sa 24 6),(sa 25 8),(sa 4 24),(sa 5 25)] .ret) .skip))))) (.reg [(b2 26 .add 11 1),(sa 11 26)]))))))) (rg [(b6 4 0),(b6 5 0)] .ret)))⟩
def s69 : SFun := ⟨47,[.tmp 4],(rg [(so 3 (.box 100 (.t 1))),(b6 4 0)] (rg [(so 6 (.mkf (.func 120) [] [(.t 3)])),(sa 5 6)] (.seq (.block 0 (rg [(se 8 0 3),(sb 9 8),(b3 10 114 [9]),(b5 11 10),(sa 7 11)] (.cond (.t 7) (rg [(b6 4 6)] .ret) (rg [(sa 13 0),(sa 14 5),(b3 15 121 [13,14]),(sa 12 15)] (.cond (.t 12) (rg [(b6 4 5)] .ret) (rg [(se 17 1 3),(sb 18 17),(se 19 2 3),(sb 20 19),(so 21 (.bsl 3 2 (zs 2) [(0,1,(.t 18)),(1,1,(.t 20))])),(b3 22 45 [21]),(sa 23 22),⟨(some 24),.fa 3 (.t 3),(some (23,false))⟩,⟨(some 25),.ld (.t 24),(some (23,false))⟩,⟨(some 26),.call 86 [(.t 25),(ki 1),(ki 200)],(some (23,false))⟩,(so 27 (.pick (.t 23) (.k (.bool true)) (.t 26))),(sa 28 27),⟨(some 29),.fa 4 (.t 3),(some (28,false))⟩,⟨(some 30),.ld (.t 29),(some (28,false))⟩,⟨(some 31),.call 86 [(.t 30),(ki (-1000)),(ki 1000)],(some (28,false))⟩,(so 32 (.pick (.t 28) (.k (.bool true)) (.t 31))),(sa 33 32),⟨(some 34),.fa 5 (.t 3),(some (33,false))⟩,⟨(some 35),.ld (.t 34),(some (33,false))⟩,⟨(some 36),.call 86 [(.t 35),(ki (-1000)),(ki 1000)],(some (33,false))⟩,(so 37 (.pick (.t 33) (.k (.bool true)) (.t 36))),(sa 16 37)] (.cond (.t 16) (rg [(b6 4 7)] .ret) (rg [(se 39 4 3),(sb 40 39),(b2 41 .eql 40 0),(sa 42 41),⟨(some 43),.fa 5 (.t 3),(some (42,true))⟩,⟨(some 44),.ld (.t 43),(some (42,true))⟩,⟨(some 45),.bin .eql (.t 44) (ki 0),(some (42,true))⟩,(so 46 (.pick (.t 42) (.t 45) (.k (.bool false)))),(sa 38 46)] (.cond (.t 38) (rg [(b6 4 2)] .ret) .skip))))))))) (rg [(b6 4 0)] .ret))))⟩
def s74 : SFun := ⟨15,[.cell 6 none],(rg [(so 3 (.box 54 (.t 0))),(so 4 (.box 3 (.t 1))),(so 5 (.box 3 (.t 2))),(so 6 (.new 4 [(.bool false)]))] (.seq (rg [(sc 8 4 3),(b3 9 83 [8])] (.block 0 (.range (.t 9) [10] (.reg [(so 7 (.new 145 (zs 5))),(b8 5 7 10)]) (.block 1 (rg [(sc 11 5 7),(sb 12 4),(sb 13 5),(b3 14 123 [11,12,13])] (.cond (.t 14) (rg [⟨none,.st 1 (.t 6) (.k (.bool true)),none⟩] .ret) .skip))) its))) (rg [⟨none,.st 1 (.t 6) (.k (.bool false)),none⟩] .ret)))⟩
def s78 : SFun := ⟨15,[.tmp 4],(rg [(so 2 (.box 133 (.t 0))),(so 3 (.box 95 (.t 1))),(b6 4 0)] (.seq (.draw [(ee 5 2 2),(ec 6 2 5),(ee 7 0 2),(ec 8 2 7),(d3 9 84 [6,8]),(ec 10 2 3),(ee 11 0 2),(ec 12 2 11),(d3 13 84 [10,12]),(d3 14 127 [9,13]),(ea 4 14)]) .ret))⟩
def s83 : SFun := ⟨4,[.tmp 2],(rg [(so 1 (.box 54 (.t 0))),(so 2 (.mov (.k (.raw .nilFunc))))] (rg [(so 3 (.mkf (.func 128) [] [(.t 1)])),(sa 2 3)] .ret))⟩
def s84 : SFun := ⟨16,[.cell 4 (some 2)],(rg [(so 2 (.box 95 (.t 0))),(so 3 (.box 95 (.t 1))),(so 4 (.new 95 (zs 2)))] (rg [(se 5 0 2),(sb 6 5),(se 7 0 3),(sb 8 7),(b1 9 .sub 6 8),(se 10 1 2),(sb 11 10),(se 12 1 3),(sb 13 12),(b1 14 .sub 11 13),(so 15 (.agg (zs 2) [(0,1,(.t 9)),(1,1,(.t 14))])),(b8 2 4 15)] .ret))⟩
def s85 : SFun := ⟨16,[.tmp 4],(rg [(so 2 (.box 95 (.t 0))),(so 3 (.box 95 (.t 1))),(b6 4 0)] (rg [(se 5 0 2),(sb 6 5),(se 7 0 3),(sb 8 7),(b1 9 .mul 6 8),(se 10 1 2),(sb 11 10),(se 12 1 3),(sb 13 12),(b1 14 .mul 11 13),(b1 15 .add 9 14),(sa 4 15)] .ret))⟩
def s86 : SFun := ⟨15,[.tmp 6],(rg [(so 6 (.mov (.k (.bool false))))] (rg [(sa 7 0),(sa 8 1),(b1 9 .lss 7 8),(sa 10 9),⟨(some 11),.mov (.t 0),(some (10,false))⟩,⟨(some 12),.mov (.t 2),(some (10,false))⟩,⟨(some 13),.bin .gtr (.t 11) (.t 12),(some (10,false))⟩,(so 14 (.pick (.t 10) (.k (.bool true)) (.t 13))),(sa 6 14)] .ret))⟩
def s90 : SFun := ⟨9,[.tmp 4],(rg [(so 4 (.mov (.k (.bool false))))] (rg [(sa 5 0),(sa 6 1),(b3 7 129 [5,6]),(b2 8 .geq 7 0),(sa 4 8)] .ret))⟩
def s99 : SFun := ⟨9,[.tmp 4],(rg [(so 4 (.mov (.k (.bool false))))] (rg [(sa 5 0),(sa 6 1),(b3 7 133 [5,6]),(b2 8 .geq 7 0),(sa 4 8)] .ret))⟩
def s100 : SFun := ⟨5,[.tmp 2],(rg [(so 2 (.mov (.k (.bool false))))] (rg [(sa 3 0),(so 4 (.call 86 [(.t 3),(ki (-100000)),(ki 100000)])),(sa 2 4)] .ret))⟩
def s101 : SFun := ⟨14,[.cell 4 (some 2)],(rg [(so 2 (.box 95 (.t 0))),(so 4 (.new 95 (zs 2)))] (rg [(sa 5 1),(se 6 0 2),(sb 7 6),(b1 8 .mul 5 7),(sa 9 1),(se 10 1 2),(sb 11 10),(b1 12 .mul 9 11),(so 13 (.agg (zs 2) [(0,1,(.t 8)),(1,1,(.t 12))])),(b8 2 4 13)] .ret))⟩
def s102 : SFun := ⟨35,[.cell 6 (some 2)],(rg [(so 3 (.box 97 (.t 0))),(so 4 (.box 95 (.t 1))),(so 6 (.new 95 (zs 2)))] (rg [(sc 8 2 4),(se 9 0 3),(sc 10 2 9),(b3 11 84 [8,10]),(so 7 (.new 95 (zs 2))),(b8 2 7 11)] (rg [(se 12 2 3),(sb 13 12),(se 14 0 3),(se 15 0 14),(sb 16 15),(b1 17 .mul 13 16),(sa 18 2),(se 19 0 7),(sb 20 19),(b1 21 .mul 18 20),(b1 22 .add 17 21),(se 23 2 3),(sb 24 23),(se 25 0 3),(se 26 1 25),(sb 27 26),(b1 28 .mul 24 27),(sa 29 2),(se 30 1 7),(sb 31 30),(b1 32 .mul 29 31),(b1 33 .add 28 32),(so 34 (.agg (zs 2) [(0,1,(.t 22)),(1,1,(.t 33))])),(b8 2 6 34)] .ret)))⟩
def s103 : SFun := ⟨69,[.tmp 6],(rg [(so 3 (.box 133 (.t 0))),(so 4 (.box 95 (.t 1))),(so 6 (.mov (.k (.bool false))))] (.seq (.draw [⟨(se 13 2 3),none,[9,10],[]⟩,⟨(sc 14 2 13),none,[9,10],[]⟩,⟨(se 15 0 3),none,[9,10],[]⟩,⟨(sc 16 2 15),none,[9,10],[]⟩,⟨(b3 17 84 [14,16]),none,[9,10],[]⟩,⟨(sc 18 2 4),none,[9,10],[]⟩,⟨(se 19 0 3),none,[9,10],[]⟩,⟨(sc 20 2 19),none,[9,10],[]⟩,⟨(b3 21 84 [18,20]),none,[9,10],[]⟩,⟨(so 7 (.new 95 (zs 2))),(some 0),[10],[.fresh 0]⟩,⟨(so 8 (.new 95 (zs 2))),(some 1),[9],[.fresh 1]⟩,⟨(b8 2 7 17),none,[],[.fresh 0]⟩,⟨(b8 2 8 21),none,[],[.fresh 1]⟩]) (.seq (.draw [(ec 22 2 8),(ec 23 2 7),(d3 24 85 [22,23]),(ec 25 2 7),(ec 26 2 7),(d3 27 85 [25,26]),(ea 9 24),(ea 10 27)]) (.block 0 (rg [(sa 45 9),(b2 46 .leq 45 0),(sa 44 46)] (.cond (.t 44) (rg [(sc 47 2 8),(sc 48 2 8),(b3 49 85 [47,48]),(sa 50 2),(sa 51 2),(b1 52 .mul 50 51),(b1 53 .leq 49 52),(sa 6 53)] .ret) (rg [(sa 55 9),(sa 56 10),(b1 57 .geq 55 56),(sa 54 57)] (.cond (.t 54) (rg [(sc 58 2 4),(se 59 2 3),(sc 60 2 59),(b3 61 84 [58,60]),(so 11 (.new 95 (zs 2))),(b8 2 11 61)] (rg [(sc 62 2 11),(sc 63 2 11),(b3 64 85 [62,63]),(sa 65 2),(sa 66 2),(b1 67 .mul 65 66),(b1 68 .leq 64 67),(sa 6 68)] .ret)) (rg [(sc 28 2 7),(sc 29 2 8),(b3 30 127 [28,29]),(sa 12 30)] (rg [(sa 31 12),(sa 32 12),(so 33 (.un .neg (.t 32))),(so 34 (.mm true (.t 31) [(.t 33)])),(sa 12 34)] (rg [(sa 35 12),(sa 36 12),(b3 37 134 [35,36]),(sa 38 2),(sa 39 2),(b1 40 .mul 38 39),(sa 41 10),(b3 42 134 [40,41]),(b3 43 135 [37,42]),(sa 6 43)] .ret)))))))))))⟩
def s108 : SFun := ⟨19,[.tmp 4],(rg [(b6 4 0)] (.seq (rg [(sa 6 0),(b4 7 6),(b6 8 0)] (.block 0 (.loop (rg [(b1 9 .lss 8 7)] (.seq (.cond (.t 9) .skip (.exit 0)) (.seq (.block 1 (rg [(sa 10 8),(sa 5 10)] (rg [(sa 11 1),(sa 12 0),(sa 13 5),(b7 14 2 12 13),(sc 15 2 14),(so 16 (.callv (.t 11) [(.t 15)]))] (.cond (.t 16) (rg [(sa 17 5),(sa 4 17)] .ret) .skip)))) (.reg [(b2 18 .add 8 1),(sa 8 18)]))))))) (rg [(b6 4 (-1))] .ret)))⟩
def s109 : SFun := ⟨23,[.tmp 2],(rg [(so 2 (.mov (.k (.slice none 0 0))))] (rg [(sa 5 0),(so 6 (.call 139 [(.t 5),(.k (.fn (.func 140) [] []))]))] (rg [(sa 7 0),(b3 8 141 [7]),(sa 0 8)] (.seq (rg [(sa 9 0),(b4 10 9),(b2 11 .lss 10 3)] (.cond (.t 11) (rg [(sa 12 0),(sa 2 12)] .ret) .skip)) (rg [(so 3 (.new 111 [(.slice none 0 0)]))] (rg [(so 13 (.mkf (.func 142) [] [(.t 3)])),(sa 4 13)] (rg [(sa 14 4),(sa 15 0),(so 16 (.callv (.t 14) [(.t 15)]))] (rg [(sa 17 0),(b3 18 143 [17])] (rg [(sa 19 4),(sa 20 0),(so 21 (.callv (.t 19) [(.t 20)]))] (rg [(sb 22 3),(sa 2 22)] .ret))))))))))⟩
def s111 : SFun := ⟨81,[.tmp 4],(rg [(so 2 (.box 145 (.t 0))),(so 3 (.box 29 (.t 1))),(b6 4 0)] (rg [(b6 5 0)] (.seq (rg [(sc 11 4 3),(b3 12 54 [11]),(b6 13 0)] (.block 0 (.loop (rg [(b2 14 .lss 13 4)] (.seq (.cond (.t 14) .skip (.exit 0)) (.seq (.block 1 (rg [(so 15 (.ixA 4 2 (some 2) (.t 12) (.t 13))),(so 7 (.new 95 (zs 2))),(b8 2 7 15)] (rg [(sc 16 5 2),(se 17 0 7),(sb 18 17),(se 19 1 7),(sb 20 19),(b3 21 123 [16,18,20])] (.cond (.t 21) (.reg [(sa 22 5),(b2 23 .add 22 1),(sa 5 23)]) .skip)))) (.reg [(b2 24 .add 13 1),(sa 13 24)]))))))) (.seq (.block 2 (rg [(sa 26 5),(b2 27 .eql 26 4),(sa 25 27)] (.cond (.t 25) (rg [(b6 4 2)] .ret) (rg [(sa 29 5),(b2 30 .gtr 29 0),(sa 28 30)] (.cond (.t 28) (rg [(b6 4 1)] .ret) .skip))))) (.seq (rg [(se 31 0 2),(se 32 0 31),(sc 33 2 32),(se 34 0 2),(se 35 2 34),(sc 36 2 35),(so 37 (.agg (zs 4) [(0,2,(.t 33)),(2,2,(.t 36))])),(b6 38 0)] (.block 3 (.loop (rg [(b2 39 .lss 38 2)] (.seq (.cond (.t 39) .skip (.exit 3)) (.seq (.block 4 (rg [(so 40 (.ixA 2 2 (some 2) (.t 37) (.t 38))),(so 9 (.new 95 (zs 2))),(b8 2 9 40)] (rg [(se 41 0 3),(sb 42 41),(so 43 (.bin .mul (ki 2) (.t 42))),(se 44 0 9),(sb 45 44),(b1 46 .sub 43 45),(se 47 0 9),(sb 48 47),(se 49 2 3),(sb 50 49),(so 51 (.bin .mul (ki 2) (.t 50))),(b1 52 .sub 48 51),(so 53 (.mm true (.t 46) [(ki 0),(.t 52)])),(se 54 1 3),(sb 55 54),(so 56 (.bin .mul (ki 2) (.t 55))),(se 57 1 9),(sb 58 57),(b1 59 .sub 56 58),(se 60 1 9),(sb 61 60),(se 62 3 3),(sb 63 62),(so 64 (.bin .mul (ki 2) (.t 63))),(b1 65 .sub 61 64),(so 66 (.mm true (.t 59) [(ki 0),(.t 65)])),(so 67 (.agg (zs 2) [(0,1,(.t 53)),(1,1,(.t 66))])),(so 10 (.new 95 (zs 2))),(b8 2 10 67)] (.seq (.draw [(ec 68 2 10),(ec 69 2 10),(d3 70 85 [68,69]),(ee 71 4 2),(eb 72 71),(ee 73 4 2),(eb 74 73),(d1 75 .mul 72 74),(d1 76 .leq 70 75)]) (.cond (.t 76) (rg [(b6 4 1)] .ret) .skip))))) (.reg [(b2 77 .add 38 1),(sa 38 77)]))))))) (.seq (rg [(sc 78 5 2),(sc 79 4 3),(b3 80 145 [78,79])] (.cond (.t 80) (rg [(b6 4 1)] .ret) .skip)) (rg [(b6 4 0)] .ret)))))))⟩
def s112 : SFun := ⟨9,[.tmp 3],(rg [(so 2 (.box 54 (.t 0))),(so 3 (.mov (.k (.bool false))))] (rg [(se 4 0 2),(sb 5 4),(se 6 0 1),(sb 7 6),(b1 8 .eql 5 7),(sa 3 8)] .ret))⟩
def s113 : SFun := ⟨9,[.tmp 2],(rg [(so 1 (.box 72 (.t 0))),(so 2 (.mov (.k (.bool false))))] (rg [(so 3 (.iaA 2 1 (.t 1) (ki 0))),(sb 4 3),(so 5 (.iaA 2 1 (.t 1) (ki 1))),(sb 6 5),(so 7 (.bsl 3 2 (zs 2) [(0,1,(.t 4)),(1,1,(.t 6))])),(b3 8 45 [7]),(sa 2 8)] .ret))⟩
def s114 : SFun := ⟨27,[.tmp 2],(rg [(so 2 (.mov (.k (.bool false))))] (rg [(sa 4 0),(so 5 (.call 146 [(.t 4),(.k (.str ⟨#[97,98,99,100,101,102,103,104,105,106,107,108,109,110,111,112,113,114,115,116,117,118,119,120,121,122,48,49,50,51,52,53,54,55,56,57,45]⟩))])),(sa 3 5)] (rg [(sa 6 0),(so 7 (.bin .neq (.t 6) (.k (.str ⟨#[]⟩)))),(sa 8 7),⟨(some 9),.mov (.t 0),(some (8,true))⟩,⟨(some 10),.lenT (.t 9),(some (8,true))⟩,⟨(some 11),.bin .leq (.t 10) (ki 24),(some (8,true))⟩,(so 12 (.pick (.t 8) (.t 11) (.k (.bool false)))),(sa 13 12),⟨(some 14),.mov (.t 3),(some (13,true))⟩,⟨(some 15),.bin .eql (.t 14) (.k (.str ⟨#[]⟩)),(some (13,true))⟩,(so 16 (.pick (.t 13) (.t 15) (.k (.bool false)))),(sa 17 16),⟨(some 18),.mov (.t 0),(some (17,true))⟩,⟨(some 19),.ixS (.t 18) (ki 0),(some (17,true))⟩,⟨(some 20),.bin .geq (.t 19) (.k (.int .u8 97)),(some (17,true))⟩,(so 21 (.pick (.t 17) (.t 20) (.k (.bool false)))),(sa 22 21),⟨(some 23),.mov (.t 0),(some (22,true))⟩,⟨(some 24),.ixS (.t 23) (ki 0),(some (22,true))⟩,⟨(some 25),.bin .leq (.t 24) (.k (.int .u8 122)),(some (22,true))⟩,(so 26 (.pick (.t 22) (.t 25) (.k (.bool false)))),(sa 2 26)] .ret)))⟩
def s115 : SFun := ⟨9,[.tmp 4],(rg [(so 4 (.mov (.k (.bool false))))] (rg [(sa 5 0),(sa 6 1),(b3 7 147 [5,6]),(b2 8 .geq 7 0),(sa 4 8)] .ret))⟩
def s116 : SFun := ⟨61,[.tmp 2],(rg [(so 2 (.mov (.k (.slice none 0 0))))] (.seq (rg [(sa 6 0),(b4 7 6),(b2 8 .lss 7 2)] (.cond (.t 8) (rg [(sa 9 0),(sa 2 9)] .ret) .skip)) (.seq (rg [(b6 3 1)] (.block 0 (.loop (.seq (rg [(sa 10 3),(sa 11 0),(b4 12 11),(b1 13 .lss 10 12)] (.cond (.t 13) .skip (.exit 0))) (.seq (.block 1 (.seq (.draw [(ea 16 0),(ea 17 3),(d7 18 2 16 17),(ec 19 2 18),(ea 20 0),(ea 21 3),(d2 22 .sub 21 1),(d7 23 2 20 22),(ec 24 2 23),(eo 25 (.eqa false 2 (.t 19) (.t 24)))]) (.cond (.t 25) (rg [(sa 26 0),(sa 27 3),(so 28 (.slS 2 (.t 26) (some (.t 27)) none none)),(sa 4 28)] (.seq (rg [(b6 5 1)] (.block 2 (.loop (.seq (rg [(sa 29 5),(sa 30 4),(b4 31 30),(b1 32 .lss 29 31)] (.cond (.t 32) .skip (.exit 2))) (.seq (.block 3 (.seq (.draw [(ea 35 4),(ea 36 5),(d7 37 2 35 36),(ec 38 2 37),(ea 39 4),(ea 40 5),(d2 41 .sub 40 1),(d7 42 2 39 41),(ec 43 2 42),(eo 44 (.eqa true 2 (.t 38) (.t 43)))]) (.cond (.t 44) (rg [(sa 45 0),(sa 46 3),(sa 47 4),(sa 48 5),(b7 49 2 47 48),(sc 50 2 49),(b7 51 2 45 46),(b8 2 51 50)] (.reg [(sa 52 3),(b2 53 .add 52 1),(sa 3 53)])) .skip))) (.reg [(sa 33 5),(b2 34 .add 33 1),(sa 5 34)])))))) (rg [(sa 54 0),(sa 55 3),(so 56 (.slS 2 (.t 54) (some (.t 55)) none none)),⟨none,.clr 2 (zs 2) (.t 56),none⟩] (rg [(sa 57 0),(sa 58 3),(so 59 (.slS 2 (.t 57) none (some (.t 58)) none)),(sa 2 59)] .ret)))) .skip))) (.reg [(sa 14 3),(b2 15 .add 14 1),(sa 3 15)])))))) (rg [(sa 60 0),(sa 2 60)] .ret))))⟩
def s117 : SFun := ⟨8,[.tmp 2],(rg [(so 2 (.mov (.k (.slice none 0 0))))] (.seq (rg [(sa 3 0),(so 4 (.isn false (.t 3)))] (.cond (.t 4) (rg [(so 2 (.mov (.k (.slice none 0 0))))] .ret) .skip)) (rg [(so 5 (.bsl 72 0 [] [])),(sa 6 0),(so 7 (.app 72 2 16 (zs 2) (.t 5) (.t 6))),(sa 2 7)] .ret)))⟩
def s118 : SFun := ⟨27,[.tmp 2],(rg [(so 1 (.box 137 (.t 0))),(so 2 (.mov (.k (.bool false))))] (rg [(se 3 1 1),(sb 4 3),(so 5 (.call 86 [(.t 4),(ki 1),(ki 1000)])),(sa 6 5),⟨(some 7),.fa 0 (.t 1),(some (6,false))⟩,⟨(some 8),.ld (.t 7),(some (6,false))⟩,⟨(some 9),.fa 1 (.t 1),(some (6,false))⟩,⟨(some 10),.ld (.t 9),(some (6,false))⟩,⟨(some 11),.bin .sub (.t 10) (ki 1),(some (6,false))⟩,⟨(some 12),.call 86 [(.t 8),(ki 0),(.t 11)],(some (6,false))⟩,(so 13 (.pick (.t 6) (.k (.bool true)) (.t 12))),(sa 14 13),⟨(some 15),.fa 3 (.t 1),(some (14,false))⟩,⟨(some 16),.ld (.t 15),(some (14,false))⟩,⟨(some 17),.call 86 [(.t 16),(ki 1),(ki 1000)],(some (14,false))⟩,(so 18 (.pick (.t 14) (.k (.bool true)) (.t 17))),(sa 19 18),⟨(some 20),.fa 2 (.t 1),(some (19,false))⟩,⟨(some 21),.ld (.t 20),(some (19,false))⟩,⟨(some 22),.fa 3 (.t 1),(some (19,false))⟩,⟨(some 23),.ld (.t 22),(some (19,false))⟩,⟨(some 24),.bin .sub (.t 23) (ki 1),(some (19,false))⟩,⟨(some 25),.call 86 [(.t 21),(ki 0),(.t 24)],(some (19,false))⟩,(so 26 (.pick (.t 19) (.k (.bool true)) (.t 25))),(sa 2 26)] .ret))⟩
def s119 : SFun := ⟨9,[.tmp 4],(rg [(so 4 (.mov (.k (.bool false))))] (rg [(sa 5 0),(sa 6 1),(b3 7 148 [5,6]),(b2 8 .geq 7 0),(sa 4 8)] .ret))⟩
def s120 : SFun := ⟨9,[.tmp 3],(rg [(so 2 (.box 100 (.t 0))),(so 3 (.mov (.k (.bool false))))] (rg [(se 4 0 2),(sb 5 4),(se 6 0 1),(sb 7 6),(b1 8 .eql 5 7),(sa 3 8)] .ret))⟩
def s121 : SFun := ⟨9,[.tmp 4],(rg [(so 4 (.mov (.k (.bool false))))] (rg [(sa 5 0),(sa 6 1),(b3 7 149 [5,6]),(b2 8 .geq 7 0),(sa 4 8)] .ret))⟩
def s123 : SFun := ⟨17,[.tmp 6],(rg [(so 3 (.box 145 (.t 0))),(so 6 (.mov (.k (.bool false))))] (rg [(se 7 0 3),(sc 8 4 7),(sa 9 1),(so 10 (.bin .mul (ki 2) (.t 9))),(sa 11 2),(so 12 (.bin .mul (ki 2) (.t 11))),(so 13 (.agg (zs 2) [(0,1,(.t 10)),(1,1,(.t 12))])),(se 14 4 3),(sb 15 14),(b3 16 103 [8,13,15]),(sa 6 16)] .ret))⟩
def s127 : SFun := ⟨16,[.tmp 4],(rg [(so 2 (.box 95 (.t 0))),(so 3 (.box 95 (.t 1))),(b6 4 0)] (rg [(se 5 0 2),(sb 6 5),(se 7 1 3),(sb 8 7),(b1 9 .mul 6 8),(se 10 1 2),(sb 11 10),(se 12 0 3),(sb 13 12),(b1 14 .mul 11 13),(b1 15 .sub 9 14),(sa 4 15)] .ret))⟩
def s129 : SFun := ⟨19,[.tmp 4],(rg [(b6 4 0)] (.seq (rg [(sa 6 0),(b4 7 6),(b6 8 0)] (.block 0 (.loop (rg [(b1 9 .lss 8 7)] (.seq (.cond (.t 9) .skip (.exit 0)) (.seq (.block 1 (rg [(sa 10 8),(sa 5 10)] (rg [(sa 11 1),(sa 12 0),(sa 13 5),(b7 14 4 12 13),(sc 15 4 14),(so 16 (.callv (.t 11) [(.t 15)]))] (.cond (.t 16) (rg [(sa 17 5),(sa 4 17)] .ret) .skip)))) (.reg [(b2 18 .add 8 1),(sa 8 18)]))))))) (rg [(b6 4 (-1))] .ret)))⟩
def s131 : SFun := ⟨8,[.tmp 2],(rg [(b6 2 0)] (.seq (.cond (.k (.bool false)) (rg [(sa 3 0),(so 4 (.conv .u32 (.t 3))),(b3 5 160 [4]),(sa 2 5)] .ret) .skip) (rg [(sa 6 0),(b3 7 161 [6]),(sa 2 7)] .ret)))⟩
def s133 : SFun := ⟨19,[.tmp 4],(rg [(b6 4 0)] (.seq (rg [(sa 6 0),(b4 7 6),(b6 8 0)] (.block 0 (.loop (rg [(b1 9 .lss 8 7)] (.seq (.cond (.t 9) .skip (.exit 0)) (.seq (.block 1 (rg [(sa 10 8),(sa 5 10)] (rg [(sa 11 1),(sa 12 0),(sa 13 5),(b7 14 1 12 13),(sb 15 14),(so 16 (.callv (.t 11) [(.t 15)]))] (.cond (.t 16) (rg [(sa 17 5),(sa 4 17)] .ret) .skip)))) (.reg [(b2 18 .add 8 1),(sa 8 18)]))))))) (rg [(b6 4 (-1))] .ret)))⟩
def s134 : SFun := ⟨18,[.cell 4 (some 2)],(rg [(so 4 (.new 192 [(.int .u64 0),(.int .u64 0)]))] (rg [(sa 8 0),(so 9 (.conv .u64 (.t 8))),(sa 10 1),(so 11 (.conv .u64 (.t 10))),(b3 12 162 [9,11]),(sa 7 12),(so 13 (.ext (.t 7) 0)),(so 14 (.ext (.t 7) 1)),(sa 5 13),(sa 6 14)] (rg [(sa 15 5),(sa 16 6),(so 17 (.agg [(.int .u64 0),(.int .u64 0)] [(0,1,(.t 15)),(1,1,(.t 16))])),(b8 2 4 17)] .ret)))⟩
def s135 : SFun := ⟨29,[.tmp 4],(rg [(so 2 (.box 192 (.t 0))),(so 3 (.box 192 (.t 1))),(so 4 (.mov (.k (.bool false))))] (rg [(sc 5 2 2),(sc 6 2 3),(so 7 (.eqa false 2 (.t 5) (.t 6))),(sa 8 7),⟨(some 9),.fa 0 (.t 2),(some (8,false))⟩,⟨(some 10),.ld (.t 9),(some (8,false))⟩,⟨(some 11),.fa 0 (.t 3),(some (8,false))⟩,⟨(some 12),.ld (.t 11),(some (8,false))⟩,⟨(some 13),.bin .lss (.t 10) (.t 12),(some (8,false))⟩,(so 14 (.pick (.t 8) (.k (.bool true)) (.t 13))),(sa 15 14),⟨(some 16),.fa 0 (.t 2),(some (15,false))⟩,⟨(some 17),.ld (.t 16),(some (15,false))⟩,⟨(some 18),.fa 0 (.t 3),(some (15,false))⟩,⟨(some 19),.ld (.t 18),(some (15,false))⟩,⟨(some 20),.bin .eql (.t 17) (.t 19),(some (15,false))⟩,⟨(some 21),.mov (.t 20),(some (15,false))⟩,⟨(some 22),.fa 1 (.t 2),(some (21,true))⟩,⟨(some 23),.ld (.t 22),(some (21,true))⟩,⟨(some 24),.fa 1 (.t 3),(some (21,true))⟩,⟨(some 25),.ld (.t 24),(some (21,true))⟩,⟨(some 26),.bin .lss (.t 23) (.t 25),(some (21,true))⟩,⟨(some 27),.pick (.t 21) (.t 26) (.k (.bool false)),(some (15,false))⟩,(so 28 (.pick (.t 15) (.k (.bool true)) (.t 27))),(sa 4 28)] .ret))⟩
def s139 : SFun := ⟨14,[],(rg [(sa 5 0),(b4 6 5),(sa 4 6)] (.reg [(sa 7 0),(sa 8 4),(sa 9 4),(so 10 (.conv .u64 (.t 9))),(b3 11 131 [10]),(sa 12 1),(so 13 (.call 163 [(.t 7),(ki 0),(.t 8),(.t 11),(.t 12)]))]))⟩
def s140 : SFun := ⟨20,[.tmp 4],(rg [(so 2 (.box 95 (.t 0))),(so 3 (.box 95 (.t 1))),(b6 4 0)] (.seq (rg [(se 5 0 2),(sb 6 5),(se 7 0 3),(sb 8 7),(b1 9 .neq 6 8)] (.cond (.t 9) (rg [(se 10 0 2),(sb 11 10),(se 12 0 3),(sb 13 12),(b1 14 .sub 11 13),(sa 4 14)] .ret) .skip)) (rg [(se 15 1 2),(sb 16 15),(se 17 1 3),(sb 18 17),(b1 19 .sub 16 18),(sa 4 19)] .ret)))⟩
def s141 : SFun := ⟨61,[.tmp 2],(rg [(so 2 (.mov (.k (.slice none 0 0))))] (.seq (rg [(sa 6 0),(b4 7 6),(b2 8 .lss 7 2)] (.cond (.t 8) (rg [(sa 9 0),(sa 2 9)] .ret) .skip)) (.seq (rg [(b6 3 1)] (.block 0 (.loop (.seq (rg [(sa 10 3),(sa 11 0),(b4 12 11),(b1 13 .lss 10 12)] (.cond (.t 13) .skip (.exit 0))) (.seq (.block 1 (.seq (.draw [(ea 16 0),(ea 17 3),(d7 18 2 16 17),(ec 19 2 18),(ea 20 0),(ea 21 3),(d2 22 .sub 21 1),(d7 23 2 20 22),(ec 24 2 23),(eo 25 (.eqa false 2 (.t 19) (.t 24)))]) (.cond (.t 25) (rg [(sa 26 0),(sa 27 3),(so 28 (.slS 2 (.t 26) (some (.t 27)) none none)),(sa 4 28)] (.seq (rg [(b6 5 1)] (.block 2 (.loop (.seq (rg [(sa 29 5),(sa 30 4),(b4 31 30),(b1 32 .lss 29 31)] (.cond (.t 32) .skip (.exit 2))) (.seq (.block 3 (.seq (.draw [(ea 35 4),(ea 36 5),(d7 37 2 35 36),(ec 38 2 37),(ea 39 4),(ea 40 5),(d2 41 .sub 40 1),(d7 42 2 39 41),(ec 43 2 42),(eo 44 (.eqa true 2 (.t 38) (.t 43)))]) (.cond (.t 44) (rg [(sa 45 0),(sa 46 3),(sa 47 4),(sa 48 5),(b7 49 2 47 48),(sc 50 2 49),(b7 51 2 45 46),(b8 2 51 50)] (.reg [(sa 52 3),(b2 53 .add 52 1),(sa 3 53)])) .skip))) (.reg [(sa 33 5),(b2 34 .add 33 1),(sa 5 34)])))))) (rg [(sa 54 0),(sa 55 3),(so 56 (.slS 2 (.t 54) (some (.t 55)) none none)),⟨none,.clr 2 (zs 2) (.t 56),none⟩] (rg [(sa 57 0),(sa 58 3),(so 59 (.slS 2 (.t 57) none (some (.t 58)) none)),(sa 2 59)] .ret)))) .skip))) (.reg [(sa 14 3),(b2 15 .add 14 1),(sa 3 15)])))))) (rg [(sa 60 0),(sa 2 60)] .ret))))⟩
def s142 : SFun := ⟨52,[],(rg [(sb 6 1),(b4 7 6),(sa 3 7)] (.seq (rg [(sa 8 0),(b4 9 8),(b6 10 0)] (.block 0 (.loop (rg [(b1 11 .lss 10 9)] (.seq (.cond (.t 11) .skip (.exit 0)) (.seq (.block 1 (rg [(b7 12 2 8 10),(sc 13 2 12),(so 5 (.new 95 (zs 2))),(b8 2 5 13)] (.seq (.block 2 (.loop (.seq (.seq (.draw [(eb 14 1),(d4 15 14),(ea 16 3),(d2 17 .add 16 1),(d1 18 .gtr 15 17),(ea 19 18),(dz ⟨(some 20),.ld (.t 1),(some (19,true))⟩),(dz ⟨(some 21),.ld (.t 1),(some (19,true))⟩),(dz ⟨(some 22),.len (.t 21),(some (19,true))⟩),(dz ⟨(some 23),.bin .sub (.t 22) (ki 2),(some (19,true))⟩),(dz ⟨(some 24),.iaS 2 (.t 20) (.t 23),(some (19,true))⟩),(dz ⟨(some 25),.lds 2 (.t 24),(some (19,true))⟩),(dz ⟨(some 26),.ld (.t 1),(some (19,true))⟩),(dz ⟨(some 27),.ld (.t 1),(some (19,true))⟩),(dz ⟨(some 28),.len (.t 27),(some (19,true))⟩),(dz ⟨(some 29),.bin .sub (.t 28) (ki 1),(some (19,true))⟩),(dz ⟨(some 30),.iaS 2 (.t 26) (.t 29),(some (19,true))⟩),(dz ⟨(some 31),.lds 2 (.t 30),(some (19,true))⟩),(dz ⟨(some 32),.agg (zs 4) [(0,2,(.t 25)),(2,2,(.t 31))],(some (19,true))⟩),(dz ⟨(some 33),.lds 2 (.t 5),(some (19,true))⟩),(dz ⟨(some 34),.call 78 [(.t 32),(.t 33)],(some (19,true))⟩),(dz ⟨(some 35),.bin .leq (.t 34) (ki 0),(some (19,true))⟩),(eo 36 (.pick (.t 19) (.t 35) (.k (.bool false))))]) (.cond (.t 36) .skip (.exit 2))) (.block 3 (.reg [(sb 37 1),(sb 38 1),(b4 39 38),(b2 40 .sub 39 1),(so 41 (.slS 2 (.t 37) none (some (.t 40)) none)),(b8 1 1 41)]))))) (.reg [(sb 42 1),(sc 43 2 5),(so 44 (.bsl 95 1 (zs 2) [(0,2,(.t 43))])),(so 45 (.app 95 2 16 (zs 2) (.t 42) (.t 44))),(b8 1 1 45)])))) (.reg [(b2 46 .add 10 1),(sa 10 46)]))))))) (.reg [(sb 47 1),(sb 48 1),(b4 49 48),(b2 50 .sub 49 1),(so 51 (.slS 2 (.t 47) none (some (.t 50)) none)),(b8 1 1 51)])))⟩
def s143 : SFun := ⟨28,[],(rg [(sa 4 0),(b4 5 4),(b2 6 .sub 5 1),(b6 2 0),(sa 3 6)] (.block 0 (.loop (.seq (rg [(sa 7 2),(sa 8 3),(b1 9 .lss 7 8)] (.cond (.t 9) .skip (.exit 0))) (.seq (.block 1 (.draw [(ea 14 0),(ea 15 2),⟨(sa 16 0),none,[13],[]⟩,⟨(sa 17 3),none,[13],[]⟩,(ea 18 0),(ea 19 3),(d7 20 2 18 19),(ec 21 2 20),(ea 22 0),(ea 23 2),(d7 24 2 22 23),(ec 25 2 24),(d7 26 2 14 15),⟨(b8 2 26 21),none,[],[.slot 0]⟩,(d7 27 2 16 17),⟨(b8 2 27 25),none,[],[.slot 0]⟩])) (.reg [(sa 10 2),(b2 11 .add 10 1),(sa 12 3),(b2 13 .sub 12 1),(sa 2 11),(sa 3 13)]))))))⟩
def s145 : SFun := ⟨93,[.tmp 4],(rg [(so 2 (.box 145 (.t 0))),(so 3 (.box 29 (.t 1))),(so 4 (.mov (.k (.bool false))))] (.seq (rg [(se 10 0 2),(se 11 0 10),(se 12 0 11),(sb 13 12),(se 14 0 2),(se 15 2 14),(se 16 0 15),(sb 17 16),(so 18 (.mm true (.t 13) [(.t 17)])),(se 19 0 3),(sb 20 19),(so 21 (.bin .mul (ki 2) (.t 20))),(b1 22 .lss 18 21),(sa 23 22),⟨(some 24),.fa 0 (.t 2),(some (23,false))⟩,⟨(some 25),.fa 0 (.t 24),(some (23,false))⟩,⟨(some 26),.fa 0 (.t 25),(some (23,false))⟩,⟨(some 27),.ld (.t 26),(some (23,false))⟩,⟨(some 28),.fa 0 (.t 2),(some (23,false))⟩,⟨(some 29),.fa 2 (.t 28),(some (23,false))⟩,⟨(some 30),.fa 0 (.t 29),(some (23,false))⟩,⟨(some 31),.ld (.t 30),(some (23,false))⟩,⟨(some 32),.mm false (.t 27) [(.t 31)],(some (23,false))⟩,⟨(some 33),.fa 2 (.t 3),(some (23,false))⟩,⟨(some 34),.ld (.t 33),(some (23,false))⟩,⟨(some 35),.bin .mul (ki 2) (.t 34),(some (23,false))⟩,⟨(some 36),.bin .gtr (.t 32) (.t 35),(some (23,false))⟩,(so 37 (.pick (.t 23) (.k (.bool true)) (.t 36))),(sa 38 37),⟨(some 39),.fa 0 (.t 2),(some (38,false))⟩,⟨(some 40),.fa 0 (.t 39),(some (38,false))⟩,⟨(some 41),.fa 1 (.t 40),(some (38,false))⟩,⟨(some 42),.ld (.t 41),(some (38,false))⟩,⟨(some 43),.fa 0 (.t 2),(some (38,false))⟩,⟨(some 44),.fa 2 (.t 43),(some (38,false))⟩,⟨(some 45),.fa 1 (.t 44),(some (38,false))⟩,⟨(some 46),.ld (.t 45),(some (38,false))⟩,⟨(some 47),.mm true (.t 42) [(.t 46)],(some (38,false))⟩,⟨(some 48),.fa 1 (.t 3),(some (38,false))⟩,⟨(some 49),.ld (.t 48),(some (38,false))⟩,⟨(some 50),.bin .mul (ki 2) (.t 49),(some (38,false))⟩,⟨(some 51),.bin .lss (.t 47) (.t 50),(some (38,false))⟩,(so 52 (.pick (.t 38) (.k (.bool true)) (.t 51))),(sa 53 52),⟨(some 54),.fa 0 (.t 2),(some (53,false))⟩,⟨(some 55),.fa 0 (.t 54),(some (53,false))⟩,⟨(some 56),.fa 1 (.t 55),(some (53,false))⟩,⟨(some 57),.ld (.t 56),(some (53,false))⟩,⟨(some 58),.fa 0 (.t 2),(some (53,false))⟩,⟨(some 59),.fa 2 (.t 58),(some (53,false))⟩,⟨(some 60),.fa 1 (.t 59),(some (53,false))⟩,⟨(some 61),.ld (.t 60),(some (53,false))⟩,⟨(some 62),.mm false (.t 57) [(.t 61)],(some (53,false))⟩,⟨(some 63),.fa 3 (.t 3),(some (53,false))⟩,⟨(some 64),.ld (.t 63),(some (53,false))⟩,⟨(some 65),.bin .mul (ki 2) (.t 64),(some (53,false))⟩,⟨(some 66),.bin .gtr (.t 62) (.t 65),(some (53,false))⟩,(so 67 (.pick (.t 53) (.k (.bool true)) (.t 66)))] (.cond (.t 67) (rg [(so 4 (.mov (.k (.bool false))))] .ret) .skip)) (rg [(so 5 (.mov (.k (.bool false)))),(so 6 (.mov (.k (.bool false))))] (.seq (rg [(sc 68 4 3),(b3 69 54 [68]),(b6 70 0)] (.block 0 (.loop (rg [(b2 71 .lss 70 4)] (.seq (.cond (.t 71) .skip (.exit 0)) (.seq (.block 1 (rg [(so 72 (.ixA 4 2 (some 2) (.t 69) (.t 70))),(so 8 (.new 95 (zs 2))),(b8 2 8 72)] (.seq (.draw [(ee 73 0 2),(ec 74 4 73),(ec 75 2 8),(eo 76 (.call 101 [(.t 75),(ki 2)])),(d3 77 78 [74,76]),(ea 9 77)]) (.reg [(sa 78 5),(sa 79 78),⟨(some 80),.mov (.t 9),(some (79,false))⟩,⟨(some 81),.bin .geq (.t 80) (ki 0),(some (79,false))⟩,(so 82 (.pick (.t 79) (.k (.bool true)) (.t 81))),(sa 83 6),(sa 84 83),⟨(some 85),.mov (.t 9),(some (84,false))⟩,⟨(some 86),.bin .leq (.t 85) (ki 0),(some (84,false))⟩,(so 87 (.pick (.t 84) (.k (.bool true)) (.t 86))),(sa 5 82),(sa 6 87)])))) (.reg [(b2 88 .add 70 1),(sa 70 88)]))))))) (rg [(sa 89 5),(sa 90 89),⟨(some 91),.mov (.t 6),(some (90,true))⟩,(so 92 (.pick (.t 90) (.t 91) (.k (.bool false)))),(sa 4 92)] .ret)))))⟩
def s147 : SFun := ⟨19,[.tmp 4],(rg [(b6 4 0)] (.seq (rg [(sa 6 0),(b4 7 6),(b6 8 0)] (.block 0 (.loop (rg [(b1 9 .lss 8 7)] (.seq (.cond (.t 9) .skip (.exit 0)) (.seq (.block 1 (rg [(sa 10 8),(sa 5 10)] (rg [(sa 11 1),(sa 12 0),(sa 13 5),(b7 14 2 12 13),(sc 15 2 14),(so 16 (.callv (.t 11) [(.t 15)]))] (.cond (.t 16) (rg [(sa 17 5),(sa 4 17)] .ret) .skip)))) (.reg [(b2 18 .add 8 1),(sa 8 18)]))))))) (rg [(b6 4 (-1))] .ret)))⟩
def s148 : SFun := ⟨19,[.tmp 4],(rg [(b6 4 0)] (.seq (rg [(sa 6 0),(b4 7 6),(b6 8 0)] (.block 0 (.loop (rg [(b1 9 .lss 8 7)] (.seq (.cond (.t 9) .skip (.exit 0)) (.seq (.block 1 (rg [(sa 10 8),(sa 5 10)] (rg [(sa 11 1),(sa 12 0),(sa 13 5),(b7 14 4 12 13),(sc 15 4 14),(so 16 (.callv (.t 11) [(.t 15)]))] (.cond (.t 16) (rg [(sa 17 5),(sa 4 17)] .ret) .skip)))) (.reg [(b2 18 .add 8 1),(sa 8 18)]))))))) (rg [(b6 4 (-1))] .ret)))⟩
def s149 : SFun := ⟨19,[.tmp 4],(rg [(b6 4 0)] (.seq (rg [(sa 6 0),(b4 7 6),(b6 8 0)] (.block 0 (.loop (rg [(b1 9 .lss 8 7)] (.seq (.cond (.t 9) .skip (.exit 0)) (.seq (.block 1 (rg [(sa 10 8),(sa 5 10)] (rg [(sa 11 1),(sa 12 0),(sa 13 5),(b7 14 6 12 13),(sc 15 6 14),(so 16 (.callv (.t 11) [(.t 15)]))] (.cond (.t 16) (rg [(sa 17 5),(sa 4 17)] .ret) .skip)))) (.reg [(b2 18 .add 8 1),(sa 8 18)]))))))) (rg [(b6 4 (-1))] .ret)))⟩
def s161 : SFun := ⟨25,[.tmp 2],(rg [(b6 2 0)] (.seq (rg [(sa 3 0),(so 4 (.bin .geq (.t 3) (.k (.int .u64 4294967296))))] (.cond (.t 4) (rg [(sa 5 0),(so 6 (.bin .shr (.t 5) (.k (.int .u64 32)))),(sa 0 6)] (.reg [(b6 2 32)])) .skip)) (.seq (rg [(sa 7 0),(so 8 (.bin .geq (.t 7) (.k (.int .u64 65536))))] (.cond (.t 8) (rg [(sa 9 0),(so 10 (.bin .shr (.t 9) (.k (.int .u64 16)))),(sa 0 10)] (.reg [(sa 11 2),(b2 12 .add 11 16),(sa 2 12)])) .skip)) (.seq (rg [(sa 13 0),(so 14 (.bin .geq (.t 13) (.k (.int .u64 256))))] (.cond (.t 14) (rg [(sa 15 0),(so 16 (.bin .shr (.t 15) (.k (.int .u64 8)))),(sa 0 16)] (.reg [(sa 17 2),(b2 18 .add 17 8),(sa 2 18)])) .skip)) (rg [(sa 19 2),(sa 20 0),(so 21 (.conv .u8 (.t 20))),(so 22 (.ixS (.k (.str ⟨#[0,1,2,2,3,3,3,3,4,4,4,4,4,4,4,4,5,5,5,5,5,5,5,5,5,5,5,5,5,5,5,5,6,6,6,6,6,6,6,6,6,6,6,6,6,6,6,6,6,6,6,6,6,6,6,6,6,6,6,6,6,6,6,6,7,7,7,7,7,7,7,7,7,7,7,7,7,7,7,7,7,7,7,7,7,7,7,7,7,7,7,7,7,7,7,7,7,7,7,7,7,7,7,7,7,7,7,7,7,7,7,7,7,7,7,7,7,7,7,7,7,7,7,7,7,7,7,7,8,8,8,8,8,8,8,8,8,8,8,8,8,8,8,8,8,8,8,8,8,8,8,8,8,8,8,8,8,8,8,8,8,8,8,8,8,8,8,8,8,8,8,8,8,8,8,8,8,8,8,8,8,8,8,8,8,8,8,8,8,8,8,8,8,8,8,8,8,8,8,8,8,8,8,8,8,8,8,8,8,8,8,8,8,8,8,8,8,8,8,8,8,8,8,8,8,8,8,8,8,8,8,8,8,8,8,8,8,8,8,8,8,8,8,8,8,8,8,8,8,8,8,8,8,8,8,8]⟩)) (.t 21))),(so 23 (.conv .i64 (.t 22))),(b1 24 .add 19 23),(sa 2 24)] .ret)))))⟩
def s162 : SFun := ⟨51,[.tmp 4,.tmp 5],(rg [(so 4 (.mov (.k (.int .u64 0)))),(so 5 (.mov (.k (.int .u64 0))))] (rg [(sa 14 0),(so 15 (.bin .and (.t 14) (.k (.int .u64 4294967295)))),(sa 6 15)] (rg [(sa 16 0),(so 17 (.bin .shr (.t 16) (.k (.int .u64 32)))),(sa 7 17)] (rg [(sa 18 1),(so 19 (.bin .and (.t 18) (.k (.int .u64 4294967295)))),(sa 8 19)] (rg [(sa 20 1),(so 21 (.bin .shr (.t 20) (.k (.int .u64 32)))),(sa 9 21)] (rg [(sa 22 6),(sa 23 8),(b1 24 .mul 22 23),(sa 10 24)] (rg [(sa 25 7),(sa 26 8),(b1 27 .mul 25 26),(sa 28 10),(so 29 (.bin .shr (.t 28) (.k (.int .u64 32)))),(b1 30 .add 27 29),(sa 11 30)] (rg [(sa 31 11),(so 32 (.bin .and (.t 31) (.k (.int .u64 4294967295)))),(sa 12 32)] (rg [(sa 33 11),(so 34 (.bin .shr (.t 33) (.k (.int .u64 32)))),(sa 13 34)] (rg [(sa 35 12),(sa 36 6),(sa 37 9),(b1 38 .mul 36 37),(b1 39 .add 35 38),(sa 12 39)] (rg [(sa 40 7),(sa 41 9),(b1 42 .mul 40 41),(sa 43 13),(b1 44 .add 42 43),(sa 45 12),(so 46 (.bin .shr (.t 45) (.k (.int .u64 32)))),(b1 47 .add 44 46),(sa 4 47)] (rg [(sa 48 0),(sa 49 1),(b1 50 .mul 48 49),(sa 5 50)] .ret))))))))))))⟩
def s163 : SFun := ⟨148,[],(rg [(so 10 (.mov (.k (.bool true))))] (rg [(so 11 (.mov (.k (.bool true))))] (.block 0 (.loop (.block 1 (rg [(sa 21 2),(sa 22 1),(b1 23 .sub 21 22),(sa 12 23)] (.seq (rg [(sa 24 12),(b2 25 .leq 24 12)] (.cond (.t 25) (rg [(sa 26 0),(sa 27 1),(sa 28 2),(sa 29 4),(b3 30 177 [26,27,28,29])] .ret) .skip)) (.seq (rg [(sa 31 3),(b2 32 .eql 31 0)] (.cond (.t 32) (rg [(sa 33 0),(sa 34 1),(sa 35 2),(sa 36 4),(b3 37 178 [33,34,35,36])] .ret) .skip)) (.seq (rg [(sa 38 10),(b5 39 38)] (.cond (.t 39) (rg [(sa 40 0),(sa 41 1),(sa 42 2),(sa 43 4),(b3 44 179 [40,41,42,43])] (.reg [(sa 45 3),(b2 46 .sub 45 1),(sa 3 46)])) .skip)) (rg [(sa 48 0),(sa 49 1),(sa 50 2),(sa 51 4),(b3 52 180 [48,49,50,51]),(sa 47 52),(so 53 (.ext (.t 47) 0)),(so 54 (.ext (.t 47) 1)),(sa 13 53),(sa 14 54)] (.seq (rg [(sa 55 14),(b2 56 .eql 55 2)] (.cond (.t 56) (rg [(sa 57 0),(sa 58 1),(sa 59 2),(sa 60 4),(b3 61 181 [57,58,59,60])] (rg [(sa 62 2),(b2 63 .sub 62 1),(sa 64 13),(sa 65 1),(b1 66 .sub 64 65),(b1 67 .sub 63 66),(sa 13 67)] (.reg [(b6 14 1)]))) .skip)) (.seq (rg [(sa 68 10),(sa 69 68),⟨(some 70),.mov (.t 11),(some (69,true))⟩,(so 71 (.pick (.t 69) (.t 70) (.k (.bool false)))),(sa 72 71),⟨(some 73),.mov (.t 14),(some (72,true))⟩,⟨(some 74),.bin .eql (.t 73) (ki 1),(some (72,true))⟩,(so 75 (.pick (.t 72) (.t 74) (.k (.bool false))))] (.cond (.t 75) (rg [(sa 76 0),(sa 77 1),(sa 78 2),(sa 79 4),(b3 80 182 [76,77,78,79])] (.cond (.t 80) .ret .skip)) .skip)) (.seq (.seq (.draw [(ea 81 1),(d2 82 .gtr 81 0),(ea 83 82),(dz ⟨(some 84),.mov (.t 4),(some (83,true))⟩),(dz ⟨(some 85),.mov (.t 0),(some (83,true))⟩),(dz ⟨(some 86),.mov (.t 1),(some (83,true))⟩),(dz ⟨(some 87),.bin .sub (.t 86) (ki 1),(some (83,true))⟩),(dz ⟨(some 88),.iaS 2 (.t 85) (.t 87),(some (83,true))⟩),(dz ⟨(some 89),.lds 2 (.t 88),(some (83,true))⟩),(dz ⟨(some 90),.mov (.t 0),(some (83,true))⟩),(dz ⟨(some 91),.mov (.t 13),(some (83,true))⟩),(dz ⟨(some 92),.iaS 2 (.t 90) (.t 91),(some (83,true))⟩),(dz ⟨(some 93),.lds 2 (.t 92),(some (83,true))⟩),(dz ⟨(some 94),.callv (.t 84) [(.t 89),(.t 93)],(some (83,true))⟩),(dz ⟨(some 95),.bin .lss (.t 94) (ki 0),(some (83,true))⟩),(dz ⟨(some 96),.un .not (.t 95),(some (83,true))⟩),(eo 97 (.pick (.t 83) (.t 96) (.k (.bool false))))]) (.cond (.t 97) (rg [(sa 98 0),(sa 99 1),(sa 100 2),(sa 101 13),(sa 102 4),(b3 103 183 [98,99,100,101,102]),(sa 15 103)] (rg [(sa 104 15),(sa 1 104)] (.exit 1))) .skip)) (rg [(sa 106 0),(sa 107 1),(sa 108 2),(sa 109 13),(sa 110 4),(b3 111 184 [106,107,108,109,110]),(sa 105 111),(so 112 (.ext (.t 105) 0)),(so 113 (.ext (.t 105) 1)),(sa 16 112),(sa 17 113)] (rg [(sa 114 17),(sa 11 114)] (rg [(sa 115 16),(sa 116 1),(b1 117 .sub 115 116),(sa 118 2),(sa 119 16),(b1 120 .sub 118 119),(sa 18 117),(sa 19 120)] (rg [(sa 121 12),(b2 122 .quo 121 8),(sa 20 122)] (rg [(sa 123 18),(sa 124 19),(b1 125 .lss 123 124)] (.cond (.t 125) (rg [(sa 126 18),(sa 127 20),(b1 128 .geq 126 127),(sa 10 128)] (rg [(sa 129 0),(sa 130 1),(sa 131 16),(sa 132 3),(sa 133 4),(b3 134 163 [129,130,131,132,133])] (.reg [(sa 135 16),(b2 136 .add 135 1),(sa 1 136)]))) (rg [(sa 137 19),(sa 138 20),(b1 139 .geq 137 138),(sa 10 139)] (rg [(sa 140 0),(sa 141 16),(b2 142 .add 141 1),(sa 143 2),(sa 144 3),(sa 145 4),(b3 146 163 [140,142,143,144,145])] (.reg [(sa 147 16),(sa 2 147)]))))))))))))))))))))))⟩
def s177 : SFun := ⟨53,[],(rg [(sa 10 1),(b2 11 .add 10 1),(sa 8 11)] (.block 0 (.loop (.seq (rg [(sa 12 8),(sa 13 2),(b1 14 .lss 12 13)] (.cond (.t 14) .skip (.exit 0))) (.seq (.block 1 (rg [(sa 17 8),(sa 9 17)] (.block 2 (.loop (.seq (.seq (.draw [(ea 18 9),(ea 19 1),(d1 20 .gtr 18 19),(ea 21 20),(dz ⟨(some 22),.mov (.t 3),(some (21,true))⟩),(dz ⟨(some 23),.mov (.t 0),(some (21,true))⟩),(dz ⟨(some 24),.mov (.t 9),(some (21,true))⟩),(dz ⟨(some 25),.iaS 2 (.t 23) (.t 24),(some (21,true))⟩),(dz ⟨(some 26),.lds 2 (.t 25),(some (21,true))⟩),(dz ⟨(some 27),.mov (.t 0),(some (21,true))⟩),(dz ⟨(some 28),.mov (.t 9),(some (21,true))⟩),(dz ⟨(some 29),.bin .sub (.t 28) (ki 1),(some (21,true))⟩),(dz ⟨(some 30),.iaS 2 (.t 27) (.t 29),(some (21,true))⟩),(dz ⟨(some 31),.lds 2 (.t 30),(some (21,true))⟩),(dz ⟨(some 32),.callv (.t 22) [(.t 26),(.t 31)],(some (21,true))⟩),(dz ⟨(some 33),.bin .lss (.t 32) (ki 0),(some (21,true))⟩),(eo 34 (.pick (.t 21) (.t 33) (.k (.bool false))))]) (.cond (.t 34) .skip (.exit 2))) (.seq (.block 3 (.draw [(ea 37 0),(ea 38 9),⟨(sa 39 0),none,[15],[]⟩,⟨(sa 40 9),none,[15],[]⟩,⟨(b2 41 .sub 40 1),none,[15],[]⟩,(ea 42 0),(ea 43 9),(d2 44 .sub 43 1),(d7 45 2 42 44),(ec 46 2 45),(ea 47 0),(ea 48 9),(d7 49 2 47 48),(ec 50 2 49),(d7 51 2 37 38),⟨(b8 2 51 46),none,[],[.slot 0]⟩,(d7 52 2 39 41),⟨(b8 2 52 50),none,[],[.slot 0]⟩])) (.reg [(sa 35 9),(b2 36 .sub 35 1),(sa 9 36)]))))))) (.reg [(sa 15 8),(b2 16 .add 15 1),(sa 8 16)]))))))⟩
end Go.Dx
namespace Go.Dx
abbrev jv0 (l : List V) : Int := iv (hdV l)
abbrev jv1 (l : List V) : Int := iv (hdV (tlV l))
abbrev jv2 (l : List V) : Int := iv (hdV (tlV (tlV l)))
abbrev jv3 (l : List V) : Int := iv (hdV (tlV (tlV (tlV l))))
abbrev jv4 (l : List V) : Int := iv (hdV (tlV (tlV (tlV (tlV l)))))
abbrev jv5 (l : List V) : Int := iv (hdV (tlV (tlV (tlV (tlV (tlV l))))))
theorem dqt {p : Prop} [inst : Decidable p] (h : p) : decide p = true := decide_eq_true h
theorem dqf {p : Prop} [inst : Decidable p] (h : ¬p) : decide p = false := decide_eq_false h
theorem imn {a b : Int} (h : 0 <= a) (g : 0 <= b) : 0 <= a * b := Int.mul_nonneg h g
theorem iml {a b c : Int} (h : a <= b) (g : 0 <= c) : c * a <= c * b := Int.mul_le_mul_of_nonneg_left h g
def iR : Nat -> Nat -> Rho -> Rho
 | _, 0, l => l
 | k, n + 1, l => some (some k) :: iR (k + 1) n l
def rdP (ct : CTab) (un : Unr) (j : JJ) (l : Lp JJ) (s : Env × List O × Option Sx.Ex) : T (Leaf JJ) := rdT ct un j l s.1 s.2.1 s.2.2
abbrev vi (n : Int) : V := .int .i64 n
abbrev tp2 : List Ty := [Ty.int IntKind.i64, Ty.int IntKind.i64]
abbrev tp4 : List Ty := [Ty.int IntKind.i64, Ty.int IntKind.i64, Ty.int IntKind.i64, Ty.int IntKind.i64]
abbrev tp1 : List Ty := [Ty.int IntKind.i64]
abbrev tyR : List Ty := [Ty.str, Ty.int IntKind.i64, Ty.sl [Ty.int IntKind.i64, Ty.int IntKind.i64], Ty.int IntKind.i64]
abbrev tyF : List Ty := [Ty.int IntKind.i64, Ty.int IntKind.i64, Ty.int IntKind.i64, Ty.int IntKind.i64, Ty.sl [Ty.int IntKind.i64, Ty.int IntKind.i64, Ty.int IntKind.i64, Ty.int IntKind.i64]]
abbrev tyC : List Ty := [Ty.str, Ty.int IntKind.i64, Ty.int IntKind.i64, Ty.int IntKind.i64, Ty.int IntKind.i64, Ty.int IntKind.i64]
abbrev tyT : List Ty := [Ty.int IntKind.i64, Ty.int IntKind.i64, Ty.int IntKind.i64, Ty.int IntKind.i64, Ty.int IntKind.i64]
abbrev scV (n0 : Nat) (f0 : FnV) (n2 : Nat) (f2 : FnV) (n4 : Nat) (f4 : FnV) (n6 : Nat) (f6 : FnV) : V := .agg [.sl n0 (elV tyR f0), .sl n2 (elV tyT f2), .sl n4 (elV tyF f4), .sl n6 (elV tyC f6)]
end Go.Dx
namespace Go.Dx
open Go.IntKind (i64 u64 u8)
open Go.Sx Go.Proofs
def eqs : List TypeId := [68, 29, 72, 192, 95]
theorem hE : ∀ t ∈ eqs, EqInts Tryz.prog t := by
 intro t ht
 simp only [eqs, List.mem_cons, List.not_mem_nil, or_false] at ht
 rcases ht with rfl | rfl | rfl | rfl | rfl
 ·exact eqInts_struct (by kernel_rfl) (by kernel_rfl) (by kernel_rfl) (by kernel_rfl) (by kernel_rfl)
 ·exact eqInts_struct (by kernel_rfl) (by kernel_rfl) (by kernel_rfl) (by kernel_rfl) (by kernel_rfl)
 ·exact eqInts_array 3 2 (by kernel_rfl) (by kernel_rfl) (by kernel_rfl) (by kernel_rfl) (by kernel_rfl) (by kernel_rfl)
 ·exact eqInts_struct (by kernel_rfl) (by kernel_rfl) (by kernel_rfl) (by kernel_rfl) (by kernel_rfl)
 ·exact eqInts_struct (by kernel_rfl) (by kernel_rfl) (by kernel_rfl) (by kernel_rfl) (by kernel_rfl)
theorem hI : itsOk Tryz.prog eqs its := by
 intro it ht
 simp only [its, List.mem_cons, List.not_mem_nil, or_false] at ht
 subst ht
 exact ⟨_, Tryz.func128, by kernel_rfl, by kernel_rfl⟩
def u0 : Unr := fun _ => 0
noncomputable def fnQ (fn : Func) (sf : SFun) (ts : List Ty) : Bool × Option SFun × Bool × Bool := (fn.name == "runtime.NumGoroutine", compFun Tryz.prog eqs its fn, dstC sf.ntmps sf.body, okTys ts)
theorem fnQ_all {fn : Func} {sf : SFun} {ts : List Ty} (h : fnQ fn sf ts = (false, some sf, true, true)) : (fn.name == "runtime.NumGoroutine") = false /\ compFun Tryz.prog eqs its fn = some sf /\ dstC sf.ntmps sf.body = true /\ okTys ts = true := by
 have h1 := congrArg Prod.fst h
 have h2 := congrArg (fun x => x.2.1) h
 have h3 := congrArg (fun x => x.2.2.1) h
 have h4 := congrArg (fun x => x.2.2.2) h
 exact ⟨h1, h2, h3, h4⟩
section
variable {ct : CTab} {f : FuncId} {fn : Func} {sf : SFun} {un : Unr} {ts : List Ty} {pre : List V -> Prop} {r : List V -> V}
theorem mkE (hT : TabOk Tryz.prog eqs its ct) (hf : Tryz.prog.funcs[f]? = some fn) (hk : fnQ fn sf ts = (false, some sf, true, true)) (h : ∀ ds, pre (views ts ds) -> Run ct (runL JJ ct un sf (views ts ds)) (r (views ts ds))) : (vP (mkC ts pre r)).Ok Tryz.prog f :=
 mkC_ev (J := JJ) (un := un) hT hE hI hf (fnQ_all hk).1 (fnQ_all hk).2.1 (fnQ_all hk).2.2.1 (fnQ_all hk).2.2.2 fun w0 ds hp => h ds hp hT.dst w0
theorem mkEL {e : Nat} {ty : TypeId} (hT : TabOk Tryz.prog eqs its ct) (hf : Tryz.prog.funcs[f]? = some fn) (hk : fnQ fn sf ts = (false, some sf, true, true)) (h : ∀ ds, pre (views ts ds) -> Run ct (runLL JJ e ty ct un sf (views ts ds)) (r (views ts ds))) : (vL e ty (mkC ts pre r)).Ok Tryz.prog f :=
 mkCL_ev (J := JJ) (un := un) hT hE hI hf (fnQ_all hk).1 (fnQ_all hk).2.1 (fnQ_all hk).2.2.1 (fnQ_all hk).2.2.2 fun w0 ds hp => h ds hp hT.dst w0
end
end Go.Dx
namespace Go.Dx
open Go.IntKind (i64 u64 u8)
open Go.Sx Go.Proofs
def ctB1 : CTab := []
theorem tabB1 : TabOk Tryz.prog eqs its ctB1 := .nil
def m84 (x0 x1 x2 x3 : Int) : RT Empty := .ret (V.agg [vi (i64.wrap (x0 - x2)), vi (i64.wrap (x1 - x3))])
theorem run84 (x0 x1 x2 x3 : Int) : Fit noD (runL JJ ctB1 u0 s84 [V.agg [vi x0, vi x1], V.agg [vi x2, vi x3]]) (m84 x0 x1 x2 x3) := ⟨by kernel_rfl, by kernel_rfl⟩
def F84_0 (x0 x2 : Int) : Int := i64.wrap (x0 - x2)
def F84_1 (x1 x3 : Int) : Int := i64.wrap (x1 - x3)
def R84 (x0 x1 x2 x3 : Int) : V := .agg [.int i64 (F84_0 x0 x2), .int i64 (F84_1 x1 x3)]
theorem ev84 (x0 x1 x2 x3 : Int) : evR noE (m84 x0 x1 x2 x3) (R84 x0 x1 x2 x3) := evRet (by unfold R84 F84_0 F84_1; rfl)
def C84 : PCon := mkC [.agg tp2, .agg tp2] (fun _ => True) fun
 | [.agg [.int _ x0, .int _ x1], .agg [.int _ x2, .int _ x3]] => R84 x0 x1 x2 x3
 | _ => .any
theorem ok84 : (vP C84).Ok Tryz.prog 84 := mkE tabB1 Tryz.func84 (by kernel_rfl) fun ds hp => rf0 (run84 ..) (ev84 _ _ _ _)
def m85 (x0 x1 x2 x3 : Int) : RT Empty := .ret (vi (i64.wrap (i64.wrap (x0 * x2) + i64.wrap (x1 * x3))))
theorem run85 (x0 x1 x2 x3 : Int) : Fit noD (runL JJ ctB1 u0 s85 [V.agg [vi x0, vi x1], V.agg [vi x2, vi x3]]) (m85 x0 x1 x2 x3) := ⟨by kernel_rfl, by kernel_rfl⟩
def F85_0 (x0 x1 x2 x3 : Int) : Int := i64.wrap (i64.wrap (x0 * x2) + i64.wrap (x1 * x3))
def R85 (x0 x1 x2 x3 : Int) : V := .int i64 (F85_0 x0 x1 x2 x3)
theorem ev85 (x0 x1 x2 x3 : Int) : evR noE (m85 x0 x1 x2 x3) (R85 x0 x1 x2 x3) := evRet (by unfold R85 F85_0; rfl)
def C85 : PCon := mkC [.agg tp2, .agg tp2] (fun _ => True) fun
 | [.agg [.int _ x0, .int _ x1], .agg [.int _ x2, .int _ x3]] => R85 x0 x1 x2 x3
 | _ => .any
theorem ok85 : (vP C85).Ok Tryz.prog 85 := mkE tabB1 Tryz.func85 (by kernel_rfl) fun ds hp => rf0 (run85 ..) (ev85 _ _ _ _)
def m127 (x0 x1 x2 x3 : Int) : RT Empty := .ret (vi (i64.wrap (i64.wrap (x0 * x3) - i64.wrap (x1 * x2))))
theorem run127 (x0 x1 x2 x3 : Int) : Fit noD (runL JJ ctB1 u0 s127 [V.agg [vi x0, vi x1], V.agg [vi x2, vi x3]]) (m127 x0 x1 x2 x3) := ⟨by kernel_rfl, by kernel_rfl⟩
def F127_0 (x0 x1 x2 x3 : Int) : Int := i64.wrap (i64.wrap (x0 * x3) - i64.wrap (x1 * x2))
def R127 (x0 x1 x2 x3 : Int) : V := .int i64 (F127_0 x0 x1 x2 x3)
theorem ev127 (x0 x1 x2 x3 : Int) : evR noE (m127 x0 x1 x2 x3) (R127 x0 x1 x2 x3) := evRet (by unfold R127 F127_0; rfl)
def C127 : PCon := mkC [.agg tp2, .agg tp2] (fun _ => True) fun
 | [.agg [.int _ x0, .int _ x1], .agg [.int _ x2, .int _ x3]] => R127 x0 x1 x2 x3
 | _ => .any
theorem ok127 : (vP C127).Ok Tryz.prog 127 := mkE tabB1 Tryz.func127 (by kernel_rfl) fun ds hp => rf0 (run127 ..) (ev127 _ _ _ _)
def m101 (x0 x1 x2 : Int) : RT Empty := .ret (V.agg [vi (i64.wrap (x2 * x0)), vi (i64.wrap (x2 * x1))])
theorem run101 (x0 x1 x2 : Int) : Fit noD (runL JJ ctB1 u0 s101 [V.agg [vi x0, vi x1], vi x2]) (m101 x0 x1 x2) := ⟨by kernel_rfl, by kernel_rfl⟩
def F101_0 (x0 x2 : Int) : Int := i64.wrap (x2 * x0)
def F101_1 (x1 x2 : Int) : Int := i64.wrap (x2 * x1)
def R101 (x0 x1 x2 : Int) : V := .agg [.int i64 (F101_0 x0 x2), .int i64 (F101_1 x1 x2)]
theorem ev101 (x0 x1 x2 : Int) : evR noE (m101 x0 x1 x2) (R101 x0 x1 x2) := evRet (by unfold R101 F101_0 F101_1; rfl)
def C101 : PCon := mkC [.agg tp2, .int .i64] (fun _ => True) fun
 | [.agg [.int _ x0, .int _ x1], .int _ x2] => R101 x0 x1 x2
 | _ => .any
theorem ok101 : (vP C101).Ok Tryz.prog 101 := mkE tabB1 Tryz.func101 (by kernel_rfl) fun ds hp => rf0 (run101 ..) (ev101 _ _ _)
def m86 (x0 x1 x2 : Int) : RT Empty := .obi (.obi (.obi (.ret (V.bool (bif decide (x0 < x1) then true else decide (x2 < x0))))))
theorem run86 (x0 x1 x2 : Int) : Fit noD (runL JJ ctB1 u0 s86 [vi x0, vi x1, vi x2]) (m86 x0 x1 x2) := ⟨by kernel_rfl, by kernel_rfl⟩
def F86_0 (x0 x1 x2 : Int) : Bool := bif decide (x0 < x1) then true else decide (x2 < x0)
def R86 (x0 x1 x2 : Int) : V := .bool (F86_0 x0 x1 x2)
theorem ev86 (x0 x1 x2 : Int) : evR noE (m86 x0 x1 x2) (R86 x0 x1 x2) := evObi (evObi (evObi (evRet (by unfold R86 F86_0; rfl))))
def C86 : PCon := mkC [.int .i64, .int .i64, .int .i64] (fun _ => True) fun
 | [.int _ x0, .int _ x1, .int _ x2] => R86 x0 x1 x2
 | _ => .any
theorem ok86 : (vP C86).Ok Tryz.prog 86 := mkE tabB1 Tryz.func86 (by kernel_rfl) fun ds hp => rf0 (run86 ..) (ev86 _ _ _)
def F71_0 (x0 x1 x2 : Int) : Bool := bif decide (x1 <= x0) then decide (x0 <= x2) else false
def F93_0 (x0 x2 : Int) : Int := i64.wrap (x0 - x2)
def F93_1 (x1 x3 : Int) : Int := i64.wrap (x1 - x3)
def F92_0 (x0 x1 x2 x3 : Int) : Int := i64.wrap (i64.wrap (x0 * x2) + i64.wrap (x1 * x3))
def F79_0 (x0 x1 x2 x3 : Int) : Int := i64.wrap (i64.wrap (x0 * x3) - i64.wrap (x1 * x2))
def F136_0 (x0 : Int) : Int := max x0 (i64.wrap (0 - x0))
def F144_0 (x0 : Int) : Int := max (-1) (min 1 x0)
def m162 (x0 x1 : Int) : RT Empty := .obt (.obt (.obt (.obt (.obt (.ret (V.tup [V.int u64 (u64.wrap (u64.wrap (u64.wrap (x0.fdiv (2 ^ 32) * x1.fdiv (2 ^ 32)) + (u64.wrap (u64.wrap (x0.fdiv (2 ^ 32) * bits BinOp.and u64 x1 4294967295) + (u64.wrap (bits BinOp.and u64 x0 4294967295 * bits BinOp.and u64 x1 4294967295)).fdiv (2 ^ 32))).fdiv (2 ^ 32)) + (u64.wrap (bits BinOp.and u64 (u64.wrap (u64.wrap (x0.fdiv (2 ^ 32) * bits BinOp.and u64 x1 4294967295) + (u64.wrap (bits BinOp.and u64 x0 4294967295 * bits BinOp.and u64 x1 4294967295)).fdiv (2 ^ 32))) 4294967295 + u64.wrap (bits BinOp.and u64 x0 4294967295 * x1.fdiv (2 ^ 32)))).fdiv (2 ^ 32))), V.int u64 (u64.wrap (x0 * x1))]))))))
theorem run162 (x0 x1 : Int) : Fit noD (runL JJ ctB1 u0 s162 [V.int u64 x0, V.int u64 x1]) (m162 x0 x1) := ⟨by kernel_rfl, by kernel_rfl⟩
def F162_0 (x0 x1 : Int) : Int := u64.wrap (u64.wrap (u64.wrap (x0.fdiv (2 ^ 32) * x1.fdiv (2 ^ 32)) + (u64.wrap (u64.wrap (x0.fdiv (2 ^ 32) * bits BinOp.and u64 x1 4294967295) + (u64.wrap (bits BinOp.and u64 x0 4294967295 * bits BinOp.and u64 x1 4294967295)).fdiv (2 ^ 32))).fdiv (2 ^ 32)) + (u64.wrap (bits BinOp.and u64 (u64.wrap (u64.wrap (x0.fdiv (2 ^ 32) * bits BinOp.and u64 x1 4294967295) + (u64.wrap (bits BinOp.and u64 x0 4294967295 * bits BinOp.and u64 x1 4294967295)).fdiv (2 ^ 32))) 4294967295 + u64.wrap (bits BinOp.and u64 x0 4294967295 * x1.fdiv (2 ^ 32)))).fdiv (2 ^ 32))
def F162_1 (x0 x1 : Int) : Int := u64.wrap (x0 * x1)
def R162 (x0 x1 : Int) : V := .tup [.int u64 (F162_0 x0 x1), .int u64 (F162_1 x0 x1)]
theorem ev162 (x0 x1 : Int) : evR noE (m162 x0 x1) (R162 x0 x1) := evObt (evObt (evObt (evObt (evObt (evRet (by unfold R162 F162_0 F162_1; rfl))))))
def C162 : PCon := mkC [.int .u64, .int .u64] (fun _ => True) fun
 | [.int _ x0, .int _ x1] => R162 x0 x1
 | _ => .any
theorem ok162 : (vP C162).Ok Tryz.prog 162 := mkE tabB1 Tryz.func162 (by kernel_rfl) fun ds hp => rf0 (run162 ..) (ev162 _ _)
def ctB2 : CTab := [(84, .con C84), (85, .con C85), (127, .con C127), (101, .con C101), (86, .con C86), (162, .con C162)]
theorem tabB2 : TabOk Tryz.prog eqs its ctB2 := .con ok84 (.con ok85 (.con ok127 (.con ok101 (.con ok86 (.con ok162 (.nil))))))
def m134 (x0 x1 : Int) : RT Empty := .obc (.obt (.ret (V.agg [V.int u64 (F162_0 (u64.wrap x0) (u64.wrap x1)), V.int u64 (F162_1 (u64.wrap x0) (u64.wrap x1))])))
theorem run134 (x0 x1 : Int) : Fit noD (runL JJ ctB2 u0 s134 [vi x0, vi x1]) (m134 x0 x1) := ⟨by kernel_rfl, by kernel_rfl⟩
def F134_0 (x0 x1 : Int) : Int := F162_0 (u64.wrap x0) (u64.wrap x1)
def F134_1 (x0 x1 : Int) : Int := F162_1 (u64.wrap x0) (u64.wrap x1)
def R134 (x0 x1 : Int) : V := .agg [.int u64 (F134_0 x0 x1), .int u64 (F134_1 x0 x1)]
theorem ev134 (x0 x1 : Int) : evR noE (m134 x0 x1) (R134 x0 x1) := evObc (evObt (evRet (by unfold R134 F134_0 F134_1; rfl)))
def C134 : PCon := mkC tp2 (fun _ => True) fun
 | [.int _ x0, .int _ x1] => R134 x0 x1
 | _ => .any
theorem ok134 : (vP C134).Ok Tryz.prog 134 := mkE tabB2 Tryz.func134 (by kernel_rfl) fun ds hp => rf0 (run134 ..) (ev134 _ _)
def m135 (x0 x1 x2 x3 : Int) : RT Empty := .obi (.obi (.obi (.obi (.obi (.obi (.obi (.obi (.obi (.obi (.obi (.obi (.obi (.obi (.obi (.obi (.obi (.ret (V.bool (bif bif x0 == x2 && (x1 == x3 && true) then true else decide (x0 < x2) then true else bif x0 == x2 then decide (x1 < x3) else false)))))))))))))))))))
theorem run135 (x0 x1 x2 x3 : Int) : Fit noD (runL JJ ctB2 u0 s135 [V.agg [V.int u64 x0, V.int u64 x1], V.agg [V.int u64 x2, V.int u64 x3]]) (m135 x0 x1 x2 x3) := ⟨by kernel_rfl, by kernel_rfl⟩
def F135_0 (x0 x1 x2 x3 : Int) : Bool := bif bif x0 == x2 && (x1 == x3 && true) then true else decide (x0 < x2) then true else bif x0 == x2 then decide (x1 < x3) else false
def R135 (x0 x1 x2 x3 : Int) : V := .bool (F135_0 x0 x1 x2 x3)
theorem ev135 (x0 x1 x2 x3 : Int) : evR noE (m135 x0 x1 x2 x3) (R135 x0 x1 x2 x3) := evObi (evObi (evObi (evObi (evObi (evObi (evObi (evObi (evObi (evObi (evObi (evObi (evObi (evObi (evObi (evObi (evObi (evRet (by unfold R135 F135_0; rfl))))))))))))))))))
def C135 : PCon := mkC [.agg [.int .u64, .int .u64], .agg [.int .u64, .int .u64]] (fun _ => True) fun
 | [.agg [.int _ x0, .int _ x1], .agg [.int _ x2, .int _ x3]] => R135 x0 x1 x2 x3
 | _ => .any
theorem ok135 : (vP C135).Ok Tryz.prog 135 := mkE tabB2 Tryz.func135 (by kernel_rfl) fun ds hp => rf0 (run135 ..) (ev135 _ _ _ _)
def F137_0 (x0 x1 x2 x3 : Int) : Bool := bif decide (x2 < x0) then true else bif x0 == x2 then decide (x3 < x1) else false
def F138_0 (x0 x1 : Int) : Int := u64.wrap (u64.wrap (u64.wrap (u64.wrap ((u64.wrap x0).tdiv 4294967296) * u64.wrap ((u64.wrap x1).tdiv 4294967296)) + u64.wrap ((u64.wrap (u64.wrap (u64.wrap ((u64.wrap x0).tdiv 4294967296) * (u64.wrap x1).tmod 4294967296) + u64.wrap ((u64.wrap ((u64.wrap x0).tmod 4294967296 * (u64.wrap x1).tmod 4294967296)).tdiv 4294967296))).tdiv 4294967296)) + u64.wrap ((u64.wrap (u64.wrap ((u64.wrap x0).tmod 4294967296 * u64.wrap ((u64.wrap x1).tdiv 4294967296)) + (u64.wrap (u64.wrap (u64.wrap ((u64.wrap x0).tdiv 4294967296) * (u64.wrap x1).tmod 4294967296) + u64.wrap ((u64.wrap ((u64.wrap x0).tmod 4294967296 * (u64.wrap x1).tmod 4294967296)).tdiv 4294967296))).tmod 4294967296)).tdiv 4294967296))
def F138_1 (x0 x1 : Int) : Int := u64.wrap (u64.wrap (u64.wrap (u64.wrap ((u64.wrap x0).tmod 4294967296 * u64.wrap ((u64.wrap x1).tdiv 4294967296)) + (u64.wrap (u64.wrap (u64.wrap ((u64.wrap x0).tdiv 4294967296) * (u64.wrap x1).tmod 4294967296) + u64.wrap ((u64.wrap ((u64.wrap x0).tmod 4294967296 * (u64.wrap x1).tmod 4294967296)).tdiv 4294967296))).tmod 4294967296) * 4294967296) + (u64.wrap ((u64.wrap x0).tmod 4294967296 * (u64.wrap x1).tmod 4294967296)).tmod 4294967296)
def m78 (x0 x1 x2 x3 x4 x5 : Int) : RT Empty := .obc (.obt (.obc (.obt (.obc (.obt (.ret (vi (F127_0 (F84_0 x2 x0) (F84_1 x3 x1) (F84_0 x4 x0) (F84_1 x5 x1)))))))))
theorem run78 (x0 x1 x2 x3 x4 x5 : Int) : Fit noD (runL JJ ctB2 u0 s78 [V.agg [vi x0, vi x1, vi x2, vi x3], V.agg [vi x4, vi x5]]) (m78 x0 x1 x2 x3 x4 x5) := ⟨by kernel_rfl, by kernel_rfl⟩
def F78_0 (x0 x1 x2 x3 x4 x5 : Int) : Int := F127_0 (F84_0 x2 x0) (F84_1 x3 x1) (F84_0 x4 x0) (F84_1 x5 x1)
def R78 (x0 x1 x2 x3 x4 x5 : Int) : V := .int i64 (F78_0 x0 x1 x2 x3 x4 x5)
theorem ev78 (x0 x1 x2 x3 x4 x5 : Int) : evR noE (m78 x0 x1 x2 x3 x4 x5) (R78 x0 x1 x2 x3 x4 x5) := evObc (evObt (evObc (evObt (evObc (evObt (evRet (by unfold R78 F78_0; rfl)))))))
def C78 : PCon := mkC [.agg tp4, .agg tp2] (fun _ => True) fun
 | [.agg [.int _ x0, .int _ x1, .int _ x2, .int _ x3], .agg [.int _ x4, .int _ x5]] => R78 x0 x1 x2 x3 x4 x5
 | _ => .any
theorem ok78 : (vP C78).Ok Tryz.prog 78 := mkE tabB2 Tryz.func78 (by kernel_rfl) fun ds hp => rf0 (run78 ..) (ev78 _ _ _ _ _ _)
def m54 (x0 x1 x2 x3 : Int) : RT Empty := .ret (V.agg [vi x0, vi x1, vi x2, vi x1, vi x2, vi x3, vi x0, vi x3])
theorem run54 (x0 x1 x2 x3 : Int) : Fit noD (runL JJ ctB2 u0 s54 [V.agg [vi x0, vi x1, vi x2, vi x3]]) (m54 x0 x1 x2 x3) := ⟨by kernel_rfl, by kernel_rfl⟩
def R54 (x0 x1 x2 x3 : Int) : V := .agg [.int i64 (x0), .int i64 (x1), .int i64 (x2), .int i64 (x1), .int i64 (x2), .int i64 (x3), .int i64 (x0), .int i64 (x3)]
theorem ev54 (x0 x1 x2 x3 : Int) : evR noE (m54 x0 x1 x2 x3) (R54 x0 x1 x2 x3) := evRet (by unfold R54 ; rfl)
def C54 : PCon := mkC [.agg tp4] (fun _ => True) fun
 | [.agg [.int _ x0, .int _ x1, .int _ x2, .int _ x3]] => R54 x0 x1 x2 x3
 | _ => .any
theorem ok54 : (vP C54).Ok Tryz.prog 54 := mkE tabB2 Tryz.func54 (by kernel_rfl) fun ds hp => rf0 (run54 ..) (ev54 _ _ _ _)
def m48 (s0 : ByteArray) (x1 x2 x3 x4 x5 x6 x7 x8 x9 x10 : Int) : RT Empty := .obc (.obt (.ret (V.agg [vi x1, vi x2, vi x3, vi (max 0 (i64.wrap (x3 - x10))), vi (i64.wrap (x3 - x9)), vi (F101_0 x6 x3), vi (F101_1 x7 x3), vi (i64.wrap (x8 * x3)), V.bool (decide (x3 < x9))])))
theorem run48 (s0 : ByteArray) (x1 x2 x3 x4 x5 x6 x7 x8 x9 x10 : Int) : Fit noD (runL JJ ctB2 u0 s48 [V.agg [V.str s0, vi x1, vi x2, vi x3, vi x4, vi x5], V.agg [vi x6, vi x7, vi x8, vi x9, vi x10]]) (m48 s0 x1 x2 x3 x4 x5 x6 x7 x8 x9 x10) := ⟨by kernel_rfl, by kernel_rfl⟩
def F48_0 (x3 x10 : Int) : Int := max 0 (i64.wrap (x3 - x10))
def F48_1 (x3 x9 : Int) : Int := i64.wrap (x3 - x9)
def F48_2 (x3 x6 : Int) : Int := F101_0 x6 x3
def F48_3 (x3 x7 : Int) : Int := F101_1 x7 x3
def F48_4 (x3 x8 : Int) : Int := i64.wrap (x8 * x3)
def F48_5 (x3 x9 : Int) : Bool := decide (x3 < x9)
def R48 (s0 : ByteArray) (x1 x2 x3 x4 x5 x6 x7 x8 x9 x10 : Int) : V := .agg [.int i64 (x1), .int i64 (x2), .int i64 (x3), .int i64 (F48_0 x3 x10), .int i64 (F48_1 x3 x9), .int i64 (F48_2 x3 x6), .int i64 (F48_3 x3 x7), .int i64 (F48_4 x3 x8), .bool (F48_5 x3 x9)]
theorem ev48 (s0 : ByteArray) (x1 x2 x3 x4 x5 x6 x7 x8 x9 x10 : Int) : evR noE (m48 s0 x1 x2 x3 x4 x5 x6 x7 x8 x9 x10) (R48 s0 x1 x2 x3 x4 x5 x6 x7 x8 x9 x10) := evObc (evObt (evRet (by unfold R48 F48_0 F48_1 F48_2 F48_3 F48_4 F48_5; rfl)))
def C48 : PCon := mkC [.agg tyC, .agg tyT] (fun _ => True) fun
 | [.agg [.str s0, .int _ x1, .int _ x2, .int _ x3, .int _ x4, .int _ x5], .agg [.int _ x6, .int _ x7, .int _ x8, .int _ x9, .int _ x10]] => R48 s0 x1 x2 x3 x4 x5 x6 x7 x8 x9 x10
 | _ => .any
theorem ok48 : (vP C48).Ok Tryz.prog 48 := mkE tabB2 Tryz.func48 (by kernel_rfl) fun ds hp => rf0 (run48 ..) (ev48 _ _ _ _ _ _ _ _ _ _ _)
def m102 (x0 x1 x2 x3 x4 x5 x6 x7 : Int) (b8 : Bool) (x9 x10 x11 : Int) : RT Empty := .obc (.obt (.ret (V.agg [vi (i64.wrap (i64.wrap (x2 * x0) + i64.wrap (x11 * F84_0 x9 x0))), vi (i64.wrap (i64.wrap (x2 * x1) + i64.wrap (x11 * F84_1 x10 x1)))])))
theorem run102 (x0 x1 x2 x3 x4 x5 x6 x7 : Int) (b8 : Bool) (x9 x10 x11 : Int) : Fit noD (runL JJ ctB2 u0 s102 [V.agg [vi x0, vi x1, vi x2, vi x3, vi x4, vi x5, vi x6, vi x7, V.bool b8], V.agg [vi x9, vi x10], vi x11]) (m102 x0 x1 x2 x3 x4 x5 x6 x7 b8 x9 x10 x11) := ⟨by kernel_rfl, by kernel_rfl⟩
def F102_0 (x0 x2 x9 x11 : Int) : Int := i64.wrap (i64.wrap (x2 * x0) + i64.wrap (x11 * F84_0 x9 x0))
def F102_1 (x1 x2 x10 x11 : Int) : Int := i64.wrap (i64.wrap (x2 * x1) + i64.wrap (x11 * F84_1 x10 x1))
def R102 (x0 x1 x2 x3 x4 x5 x6 x7 : Int) (b8 : Bool) (x9 x10 x11 : Int) : V := .agg [.int i64 (F102_0 x0 x2 x9 x11), .int i64 (F102_1 x1 x2 x10 x11)]
theorem ev102 (x0 x1 x2 x3 x4 x5 x6 x7 : Int) (b8 : Bool) (x9 x10 x11 : Int) : evR noE (m102 x0 x1 x2 x3 x4 x5 x6 x7 b8 x9 x10 x11) (R102 x0 x1 x2 x3 x4 x5 x6 x7 b8 x9 x10 x11) := evObc (evObt (evRet (by unfold R102 F102_0 F102_1; rfl)))
def C102 : PCon := mkC [.agg [.int .i64, .int .i64, .int .i64, .int .i64, .int .i64, .int .i64, .int .i64, .int .i64, .bool], .agg tp2, .int .i64] (fun _ => True) fun
 | [.agg [.int _ x0, .int _ x1, .int _ x2, .int _ x3, .int _ x4, .int _ x5, .int _ x6, .int _ x7, .bool b8], .agg [.int _ x9, .int _ x10], .int _ x11] => R102 x0 x1 x2 x3 x4 x5 x6 x7 b8 x9 x10 x11
 | _ => .any
theorem ok102 : (vP C102).Ok Tryz.prog 102 := mkE tabB2 Tryz.func102 (by kernel_rfl) fun ds hp => rf0 (run102 ..) (ev102 _ _ _ _ _ _ _ _ _ _ _ _)
def F104_0 (x3 x10 : Int) : Int := i64.wrap (x3 - min x10 x3)
def F104_1 (x3 x9 : Int) : Int := i64.wrap (x3 - x9)
def F105_0 (x3 x6 : Int) : Int := i64.wrap (x3 * x6)
def F105_1 (x3 x7 : Int) : Int := i64.wrap (x3 * x7)
def F105_2 (x3 x8 : Int) : Int := i64.wrap (x3 * x8)
end Go.Dx
namespace Go.Dx
open Go.IntKind (i64 u64 u8)
open Go.Sx
theorem up_ind {n : Nat} {P : Nat -> Prop} (h : ∀ i, i <= n -> (i < n -> P (i + 1)) -> P i) : ∀ i, i <= n -> P i := by
 have key : ∀ k i, i + k = n -> P i := by
  intro k
  induction k with
  | zero => intro i e; exact h i (by omega) fun h => by omega
  | succ k ih => intro i e; exact h i (by omega) fun _ => ih (i + 1) (by omega)
 exact fun i hi => key (n - i) i (by omega)
theorem wrapI {x : Int} (h1 : -9223372036854775808 <= x) (h2 : x <= 9223372036854775807) : i64.wrap x = x := IntWalk.i64_in _ (by omega)
theorem wrapS {i n : Nat} (h : i < n) (hn : n <= 9223372036854775807) : i64.wrap ((i : Int) + 1) = ((i + 1 : Nat) : Int) := by
 rw [wrapI (by omega) (by omega)]; omega
theorem allB_true {n : Nat} {p : Nat -> Bool} : allB n p = true ↔ ∀ i, i < n -> p i = true := ⟨allB_ok, allB_of⟩
theorem allB_false {n : Nat} {p : Nat -> Bool} (i : Nat) (hi : i < n) (h : p i = false) : allB n p = false := by
 cases hb : allB n p with
 | false => rfl
 | true => rw [allB_ok hb i hi] at h; cases h
def idxN (p : Nat -> Bool) : Nat -> Nat -> Int
 | 0, _ => -1
 | k + 1, i => bif p i then (i : Int) else idxN p k (i + 1)
def idx (n : Nat) (p : Nat -> Bool) : Int := idxN p n 0
theorem idxN_none {p : Nat -> Bool} : ∀ (k i : Nat), (∀ j, i <= j -> j < i + k -> p j = false) -> idxN p k i = -1
 | 0, _, _ => rfl
 | k + 1, i, h => by simp only [idxN, h i (Nat.le_refl _) (by omega), cond_false]; exact idxN_none k (i + 1) fun j h1 h2 => h j (by omega) (by omega)
theorem idxN_some {p : Nat -> Bool} {j : Nat} (hj : p j = true) : ∀ (k i : Nat), i <= j -> j < i + k -> (∀ l, i <= l -> l < j -> p l = false) -> idxN p k i = j
 | 0, i, h1, h2, _ => by omega
 | k + 1, i, h1, h2, h => by
   by_cases e : i = j
   ·subst e; simp only [idxN, hj, cond_true]
   ·simp only [idxN, h i (Nat.le_refl _) (by omega), cond_false]
    exact idxN_some hj k (i + 1) (by omega) (by omega) fun l h3 h4 => h l (by omega) h4
theorem idx_none {n : Nat} {p : Nat -> Bool} (h : ∀ j, j < n -> p j = false) : idx n p = -1 := idxN_none n 0 fun j _ h2 => h j (by omega)
theorem idx_some {n : Nat} {p : Nat -> Bool} {j : Nat} (hj : p j = true) (h1 : j < n) (h : ∀ l, l < j -> p l = false) : idx n p = j := idxN_some hj n 0 (by omega) (by omega) fun l _ h4 => h l h4
theorem idx_ex {n : Nat} {p : Nat -> Bool} : (idx n p = -1 /\ ∀ j, j < n -> p j = false) ∨ ∃ j, j < n /\ idx n p = (j : Int) /\ p j = true /\ ∀ l, l < j -> p l = false := by
 by_cases h : ∀ j, j < n -> p j = false
 ·exact .inl ⟨idx_none h, h⟩
 ·right
  have : ∃ j, j < n /\ p j = true := by
   simp only [Classical.not_forall] at h
   obtain ⟨j, hj, hp⟩ := h
   exact ⟨j, hj, by simpa using hp⟩
  have key : ∀ m, (∃ j, j < m /\ j < n /\ p j = true) -> ∃ j, j < n /\ p j = true /\ ∀ l, l < j -> p l = false := by
   intro m
   induction m with
   | zero => rintro ⟨j, hj, _⟩; omega
   | succ m ih =>
     rintro ⟨j, hj, hn, hp⟩
     by_cases hm : ∃ j, j < m /\ j < n /\ p j = true
     ·exact ih hm
     ·refine ⟨j, hn, hp, fun l hl => ?_⟩
      cases hb : p l with
      | false => rfl
      | true => exact (hm ⟨l, by omega, by omega, hb⟩).elim
  obtain ⟨j, hj, hp⟩ := this
  obtain ⟨j, h1, h2, h3⟩ := key n ⟨j, hj, hj, hp⟩
  exact ⟨j, h1, idx_some h2 h1 h3, h2, h3⟩
def exB (n : Nat) (p : Nat -> Bool) : Bool := !allB n fun i => !p i
theorem idx_geq {n : Nat} {p : Nat -> Bool} : decide (0 <= idx n p) = exB n p := by
 rcases idx_ex (n := n) (p := p) with ⟨h1, h2⟩ | ⟨j, h1, h2, h3, _⟩
 ·rw [h1]; unfold exB; rw [allB_of fun i hi => by rw [h2 i hi]; rfl]; rfl
 ·rw [h2]; unfold exB; rw [allB_false j h1 (by rw [h3]; rfl)]; simp
section
variable {S : Type} {step : S -> RT S} {r : V}
theorem Ev.st {s : S} (h0 : noAll (step s) = true) (h : evR (Ev step) (step s) r) : Ev step s r := Ev.of h0 h
end
end Go.Dx
namespace Go.Dx
open Go.IntKind (i64 u64 u8)
open Go.Sx
section
variable {S : Type} {step : S -> RT S}
theorem idx_ev {L : Int -> S} {n : Nat} {p : Nat -> Bool} (hn : n <= 9223372036854775807)
 (hst : ∀ i : Nat, step (L i) = .br (decide ((i : Int) < (n : Int))) (.ob (decide (0 <= (i : Int) /\ (i : Int) < (n : Int))) (.obc (.obt (.br (p i) (.ret (.int .i64 i)) (.next [] (L (i64.wrap ((i : Int) + 1))) []))))) (.ret (.int .i64 (-1)))) :
 Ev step (L 0) (.int .i64 (idx n p)) := by
 have key := up_ind (n := n) (P := fun i => (∀ j, j < i -> p j = false) -> Ev step (L i) (.int .i64 (idx n p))) fun i hi ih hj => by
  refine Ev.of (by rw [hst]; rfl) ?_
  rw [hst]
  refine evBr (fun h => ?_) (fun h => ?_)
  ·have hlt : i < n := by simpa using h
   refine evOb (by simpa using hlt) (evObc (evObt (evBr (fun hb => evRet ?_) (fun hb => evNext ?_))))
   ·rw [idx_some hb hlt hj]
   ·rw [wrapS hlt hn]
    exact ih hlt fun j h1 => by
     by_cases e : j = i
     ·subst e; exact hb
     ·exact hj j (by omega)
  ·have : i = n := by have : ¬ i < n := by simpa using h
                      omega
   subst this
   refine evRet ?_
   rw [idx_none hj]
 exact key 0 (Nat.zero_le _) fun j hj => by omega
end
end Go.Dx
namespace Go.Dx
open Go.IntKind (i64 u64 u8)
open Go.Sx
theorem scan {n : Nat} (hn : n <= 9223372036854775807) (p : Nat -> Bool) {P : Int -> Prop} (hstep : ∀ i : Nat, i < n -> (∀ j, j < i -> p j = false) -> (p i = false -> P (i64.wrap ((i : Int) + 1))) -> P i) (hend : (∀ j, j < n -> p j = false) -> P n) : P 0 := by
 have key := up_ind (n := n) (P := fun i => (∀ j, j < i -> p j = false) -> P i) fun i hi ih hj => by
  by_cases hlt : i < n
  ·refine hstep i hlt hj fun hp => ?_
   rw [wrapS hlt hn]
   exact ih hlt fun j h1 => by
    by_cases e : j = i
    ·subst e; exact hp
    ·exact hj j (by omega)
  ·have : i = n := by omega
   subst this; exact hend hj
 exact key 0 (Nat.zero_le _) fun j hj => by omega
section
variable {S : Type} {Nx : S -> V -> Prop} {r : V} {x y : RT S} {i n : Nat}
theorem evBrLt (h : i < n) (hx : evR Nx x r) : evR Nx (.br (decide ((i : Int) < (n : Int))) x y) r := ⟨fun _ => hx, fun k => by have := of_decide_eq_false k; omega⟩
theorem evBrGe (hy : evR Nx y r) : evR Nx (.br (decide ((n : Int) < (n : Int))) x y) r := ⟨(fun k => by have := of_decide_eq_true k; omega), fun _ => hy⟩
theorem evObLt (h : i < n) (hx : evR Nx x r) : evR Nx (.ob (decide (0 <= (i : Int) /\ (i : Int) < (n : Int))) x) r := ⟨decide_eq_true (by omega), hx⟩
theorem evBrT {b : Bool} (h : b = true) (hx : evR Nx x r) : evR Nx (.br b x y) r := ⟨fun _ => hx, fun k => by rw [h] at k; cases k⟩
theorem evBrF {b : Bool} (h : b = false) (hy : evR Nx y r) : evR Nx (.br b x y) r := ⟨(fun k => by rw [h] at k; cases k), fun _ => hy⟩
end
end Go.Dx
namespace Go.Dx
open Go.IntKind (i64 u64 u8)
theorem exB_true {n : Nat} {p : Nat -> Bool} (i : Nat) (hi : i < n) (h : p i = true) : exB n p = true := by
 unfold exB; rw [allB_false i hi (by rw [h]; rfl)]; rfl
theorem exB_false {n : Nat} {p : Nat -> Bool} (h : ∀ i, i < n -> p i = false) : exB n p = false := by
 unfold exB; rw [allB_of fun i hi => by rw [h i hi]; rfl]; rfl
theorem exB_iff {n : Nat} {p : Nat -> Bool} : exB n p = true ↔ ∃ i, i < n /\ p i = true := by
 constructor
 ·intro h
  apply Classical.byContradiction
  intro hn
  rw [exB_false fun i hi => by
   cases hp : p i with
   | false => rfl
   | true => exact (hn ⟨i, hi, hp⟩).elim] at h
  cases h
 ·rintro ⟨i, hi, h⟩; exact exB_true i hi h
end Go.Dx
namespace Go.Dx
open Go.IntKind (i64 u64 u8)
open Go.Sx
def firstI (n : Nat) (c : Nat -> Int) : Int := bif idx n (fun i => c i != 0) == -1 then 0 else idx n fun i => c i != 0
def firstE (n : Nat) (c : Nat -> Int) : Int := bif idx n (fun i => c i != 0) == -1 then 0 else c (idx n fun i => c i != 0).toNat
theorem first_none {n : Nat} {c : Nat -> Int} (h : ∀ j, j < n -> (c j != 0) = false) : firstI n c = 0 /\ firstE n c = 0 := by
 unfold firstI firstE; rw [idx_none h]; exact ⟨rfl, rfl⟩
theorem first_some {n : Nat} {c : Nat -> Int} {i : Nat} (hi : i < n) (hc : (c i != 0) = true) (h : ∀ j, j < i -> (c j != 0) = false) : firstI n c = i /\ firstE n c = c i := by
 unfold firstI firstE; rw [idx_some hc hi h]
 have : ((i : Int) == -1) = false := by rw [beq_eq_false_iff_ne]; omega
 rw [this]; exact ⟨rfl, rfl⟩
section
variable {S : Type} {step : S -> RT S}
theorem first_ev {L : Int -> S} {n : Nat} {c : Nat -> Int} {Q : Nat -> Prop} {ρ : Rho} (W : Nat -> RT S -> RT S) (hW : ∀ i x r, Q i -> evR (Ev step) x r -> evR (Ev step) (W i x) r) (hWn : ∀ i x, noAll (W i x) = noAll x) (hn : n <= 9223372036854775807) (hQ : ∀ i, i < n -> Q i)
 (hst : ∀ i : Nat, step (L i) = .br (decide ((i : Int) < (n : Int))) (.ob (decide (0 <= (i : Int) /\ (i : Int) < (n : Int))) (.ob (decide (0 <= (i : Int) /\ (i : Int) <= (n : Int))) (W i (.br (c i != 0) (.ret (.tup [.int .i64 i, .int .i64 (c i)])) (.next ρ (L (i64.wrap ((i : Int) + 1))) []))))) (.ret (.tup [.int .i64 0, .int .i64 0]))) :
 Ev step (L 0) (.tup [.int .i64 (firstI n c), .int .i64 (firstE n c)]) :=
 scan hn (fun i => c i != 0) (P := fun i => Ev step (L i) (.tup [.int .i64 (firstI n c), .int .i64 (firstE n c)])) (fun i hlt hj next => Ev.of (by rw [hst]; simp only [noAll, hWn, Bool.and_self]) (by
  rw [hst]
  refine evBrLt hlt (evObLt hlt (evOb (decide_eq_true (by omega)) (hW i _ _ (hQ i hlt) (evBr (fun hb => evRet ?_) (fun hb => evNext (next hb))))))
  rw [(first_some hlt hb hj).1, (first_some hlt hb hj).2])) (fun hj => Ev.of (by rw [hst]; simp only [noAll, hWn, Bool.and_self]) (by
  rw [hst]
  refine evBrGe (evRet ?_)
  rw [(first_none hj).1, (first_none hj).2]))
end
def SzOk (n : Nat) (f : Nat -> List V) : Prop := ∀ i, i < n -> (sv (hdV (f i))).size <= 9223372036854775807
end Go.Dx
namespace Go.Dx
open Go.IntKind (i64 u64 u8)
theorem ng {b : Bool} (h : (!!b) = true) : (!b) = false := by cases b <;> first | rfl | cases h
end Go.Dx
namespace Go.Dx
open Go.IntKind (i64 u64 u8)
open Go.Sx Go.Proofs
def ctB3 : CTab := (134, .con C134) :: (135, .con C135) :: (78, .con C78) :: (54, .con C54) :: (48, .con C48) :: (102, .con C102) :: ctB2
theorem tabB3 : TabOk Tryz.prog eqs its ctB3 := .con ok134 (.con ok135 (.con ok78 (.con ok54 (.con ok48 (.con ok102 (tabB2))))))
def m103 (x0 x1 x2 x3 x4 x5 x6 : Int) : RT Empty := .obc (.obt (.obc (.obt (.obc (.obt (.obc (.obt (.br (decide (F85_0 (F84_0 x4 x0) (F84_1 x5 x1) (F84_0 x2 x0) (F84_1 x3 x1) <= 0)) (.obc (.obt (.ret (V.bool (decide (F85_0 (F84_0 x4 x0) (F84_1 x5 x1) (F84_0 x4 x0) (F84_1 x5 x1) <= i64.wrap (x6 * x6))))))) (.br (decide (F85_0 (F84_0 x2 x0) (F84_1 x3 x1) (F84_0 x2 x0) (F84_1 x3 x1) <= F85_0 (F84_0 x4 x0) (F84_1 x5 x1) (F84_0 x2 x0) (F84_1 x3 x1))) (.obc (.obt (.obc (.obt (.ret (V.bool (decide (F85_0 (F84_0 x4 x2) (F84_1 x5 x3) (F84_0 x4 x2) (F84_1 x5 x3) <= i64.wrap (x6 * x6))))))))) (.obc (.obt (.obc (.obt (.obc (.obt (.obc (.obt (.ret (V.bool (F135_0 (F134_0 (max (F127_0 (F84_0 x2 x0) (F84_1 x3 x1) (F84_0 x4 x0) (F84_1 x5 x1)) (i64.wrap (0 - F127_0 (F84_0 x2 x0) (F84_1 x3 x1) (F84_0 x4 x0) (F84_1 x5 x1)))) (max (F127_0 (F84_0 x2 x0) (F84_1 x3 x1) (F84_0 x4 x0) (F84_1 x5 x1)) (i64.wrap (0 - F127_0 (F84_0 x2 x0) (F84_1 x3 x1) (F84_0 x4 x0) (F84_1 x5 x1))))) (F134_1 (max (F127_0 (F84_0 x2 x0) (F84_1 x3 x1) (F84_0 x4 x0) (F84_1 x5 x1)) (i64.wrap (0 - F127_0 (F84_0 x2 x0) (F84_1 x3 x1) (F84_0 x4 x0) (F84_1 x5 x1)))) (max (F127_0 (F84_0 x2 x0) (F84_1 x3 x1) (F84_0 x4 x0) (F84_1 x5 x1)) (i64.wrap (0 - F127_0 (F84_0 x2 x0) (F84_1 x3 x1) (F84_0 x4 x0) (F84_1 x5 x1))))) (F134_0 (i64.wrap (x6 * x6)) (F85_0 (F84_0 x2 x0) (F84_1 x3 x1) (F84_0 x2 x0) (F84_1 x3 x1))) (F134_1 (i64.wrap (x6 * x6)) (F85_0 (F84_0 x2 x0) (F84_1 x3 x1) (F84_0 x2 x0) (F84_1 x3 x1)))))))))))))))))))))))
theorem run103 (x0 x1 x2 x3 x4 x5 x6 : Int) : Fit noD (runL JJ ctB3 u0 s103 [V.agg [vi x0, vi x1, vi x2, vi x3], V.agg [vi x4, vi x5], vi x6]) (m103 x0 x1 x2 x3 x4 x5 x6) := ⟨by kernel_rfl, by kernel_rfl⟩
def F103_0 (x0 x1 x2 x3 x4 x5 x6 : Int) : Bool := bif decide (F85_0 (F84_0 x4 x0) (F84_1 x5 x1) (F84_0 x2 x0) (F84_1 x3 x1) <= 0) then decide (F85_0 (F84_0 x4 x0) (F84_1 x5 x1) (F84_0 x4 x0) (F84_1 x5 x1) <= i64.wrap (x6 * x6)) else bif decide (F85_0 (F84_0 x2 x0) (F84_1 x3 x1) (F84_0 x2 x0) (F84_1 x3 x1) <= F85_0 (F84_0 x4 x0) (F84_1 x5 x1) (F84_0 x2 x0) (F84_1 x3 x1)) then decide (F85_0 (F84_0 x4 x2) (F84_1 x5 x3) (F84_0 x4 x2) (F84_1 x5 x3) <= i64.wrap (x6 * x6)) else F135_0 (F134_0 (max (F127_0 (F84_0 x2 x0) (F84_1 x3 x1) (F84_0 x4 x0) (F84_1 x5 x1)) (i64.wrap (0 - F127_0 (F84_0 x2 x0) (F84_1 x3 x1) (F84_0 x4 x0) (F84_1 x5 x1)))) (max (F127_0 (F84_0 x2 x0) (F84_1 x3 x1) (F84_0 x4 x0) (F84_1 x5 x1)) (i64.wrap (0 - F127_0 (F84_0 x2 x0) (F84_1 x3 x1) (F84_0 x4 x0) (F84_1 x5 x1))))) (F134_1 (max (F127_0 (F84_0 x2 x0) (F84_1 x3 x1) (F84_0 x4 x0) (F84_1 x5 x1)) (i64.wrap (0 - F127_0 (F84_0 x2 x0) (F84_1 x3 x1) (F84_0 x4 x0) (F84_1 x5 x1)))) (max (F127_0 (F84_0 x2 x0) (F84_1 x3 x1) (F84_0 x4 x0) (F84_1 x5 x1)) (i64.wrap (0 - F127_0 (F84_0 x2 x0) (F84_1 x3 x1) (F84_0 x4 x0) (F84_1 x5 x1))))) (F134_0 (i64.wrap (x6 * x6)) (F85_0 (F84_0 x2 x0) (F84_1 x3 x1) (F84_0 x2 x0) (F84_1 x3 x1))) (F134_1 (i64.wrap (x6 * x6)) (F85_0 (F84_0 x2 x0) (F84_1 x3 x1) (F84_0 x2 x0) (F84_1 x3 x1)))
def R103 (x0 x1 x2 x3 x4 x5 x6 : Int) : V := .bool (F103_0 x0 x1 x2 x3 x4 x5 x6)
theorem ev103 (x0 x1 x2 x3 x4 x5 x6 : Int) : evR noE (m103 x0 x1 x2 x3 x4 x5 x6) (R103 x0 x1 x2 x3 x4 x5 x6) := evObc (evObt (evObc (evObt (evObc (evObt (evObc (evObt (evBr (fun h0 => evObc (evObt (evRet (by unfold R103 F103_0; try rw [h0]; rfl)))) (fun h0 => evBr (fun h1 => evObc (evObt (evObc (evObt (evRet (by unfold R103 F103_0; try rw [h0]; try rw [h1]; rfl)))))) (fun h1 => evObc (evObt (evObc (evObt (evObc (evObt (evObc (evObt (evRet (by unfold R103 F103_0; try rw [h0]; try rw [h1]; rfl)))))))))))))))))))
def C103 : PCon := mkC [.agg tp4, .agg tp2, .int .i64] (fun _ => True) fun
 | [.agg [.int _ x0, .int _ x1, .int _ x2, .int _ x3], .agg [.int _ x4, .int _ x5], .int _ x6] => R103 x0 x1 x2 x3 x4 x5 x6
 | _ => .any
theorem ok103 : (vP C103).Ok Tryz.prog 103 := mkE tabB3 Tryz.func103 (by kernel_rfl) fun ds hp => rf0 (run103 ..) (ev103 _ _ _ _ _ _ _)
def F106_0 (x0 x1 x2 x3 x4 x5 x6 : Int) : Bool := bif decide (F92_0 (F93_0 x0 x2) (F93_1 x1 x3) (F93_0 x4 x2) (F93_1 x5 x3) <= 0) then decide (F92_0 (F93_0 x0 x2) (F93_1 x1 x3) (F93_0 x0 x2) (F93_1 x1 x3) <= i64.wrap (x6 * x6)) else bif decide (F92_0 (F93_0 x4 x2) (F93_1 x5 x3) (F93_0 x4 x2) (F93_1 x5 x3) <= F92_0 (F93_0 x0 x2) (F93_1 x1 x3) (F93_0 x4 x2) (F93_1 x5 x3)) then decide (F92_0 (F93_0 x0 x4) (F93_1 x1 x5) (F93_0 x0 x4) (F93_1 x1 x5) <= i64.wrap (x6 * x6)) else !F137_0 (F138_0 (F136_0 (F79_0 (F93_0 x4 x2) (F93_1 x5 x3) (F93_0 x0 x2) (F93_1 x1 x3))) (F136_0 (F79_0 (F93_0 x4 x2) (F93_1 x5 x3) (F93_0 x0 x2) (F93_1 x1 x3)))) (F138_1 (F136_0 (F79_0 (F93_0 x4 x2) (F93_1 x5 x3) (F93_0 x0 x2) (F93_1 x1 x3))) (F136_0 (F79_0 (F93_0 x4 x2) (F93_1 x5 x3) (F93_0 x0 x2) (F93_1 x1 x3)))) (F138_0 (i64.wrap (x6 * x6)) (F92_0 (F93_0 x4 x2) (F93_1 x5 x3) (F93_0 x4 x2) (F93_1 x5 x3))) (F138_1 (i64.wrap (x6 * x6)) (F92_0 (F93_0 x4 x2) (F93_1 x5 x3) (F93_0 x4 x2) (F93_1 x5 x3)))
def F110_0 (x0 x1 x2 x3 x4 x5 x6 x7 : Int) : Bool := bif !F79_0 (F93_0 x4 x2) (F93_1 x5 x3) (F93_0 x6 x2) (F93_1 x7 x3) == 0 then bif bif bif decide (0 <= F144_0 (F79_0 (F93_0 x4 x2) (F93_1 x5 x3) (F93_0 x0 x2) (F93_1 x1 x3))) then decide (0 <= F144_0 (F79_0 (F93_0 x6 x4) (F93_1 x7 x5) (F93_0 x0 x4) (F93_1 x1 x5))) else false then decide (0 <= F144_0 (F79_0 (F93_0 x2 x6) (F93_1 x3 x7) (F93_0 x0 x6) (F93_1 x1 x7))) else false then true else bif bif decide (F144_0 (F79_0 (F93_0 x4 x2) (F93_1 x5 x3) (F93_0 x0 x2) (F93_1 x1 x3)) <= 0) then decide (F144_0 (F79_0 (F93_0 x6 x4) (F93_1 x7 x5) (F93_0 x0 x4) (F93_1 x1 x5)) <= 0) else false then decide (F144_0 (F79_0 (F93_0 x2 x6) (F93_1 x3 x7) (F93_0 x0 x6) (F93_1 x1 x7)) <= 0) else false else false
def m100 (x0 : Int) : RT Empty := .obc (.obt (.ret (V.bool (F86_0 x0 (-100000) 100000))))
theorem run100 (x0 : Int) : Fit noD (runL JJ ctB3 u0 s100 [vi x0]) (m100 x0) := ⟨by kernel_rfl, by kernel_rfl⟩
def F100_0 (x0 : Int) : Bool := F86_0 x0 (-100000) 100000
def R100 (x0 : Int) : V := .bool (F100_0 x0)
theorem ev100 (x0 : Int) : evR noE (m100 x0) (R100 x0) := evObc (evObt (evRet (by unfold R100 F100_0; rfl)))
def C100 : PCon := mkC tp1 (fun _ => True) fun
 | [.int _ x0] => R100 x0
 | _ => .any
theorem ok100 : (vP C100).Ok Tryz.prog 100 := mkE tabB3 Tryz.func100 (by kernel_rfl) fun ds hp => rf0 (run100 ..) (ev100 _)
def ctB4 : CTab := (103, .con C103) :: (100, .con C100) :: ctB3
theorem tabB4 : TabOk Tryz.prog eqs its ctB4 := .con ok103 (.con ok100 (tabB3))
def m112 (s0 : ByteArray) (x1 : Int) (n2 : Nat) (f2 : FnV) (x4 : Int) (s5 : ByteArray) (x6 : Int) (n7 : Nat) (f7 : FnV) (x9 : Int) : RT Empty := .ret (V.bool (s0.toList == s5.toList))
theorem run112 (s0 : ByteArray) (x1 : Int) (n2 : Nat) (f2 : FnV) (x4 : Int) (s5 : ByteArray) (x6 : Int) (n7 : Nat) (f7 : FnV) (x9 : Int) : Fit noD (runL JJ ctB4 u0 s112 [V.agg [V.str s0, vi x1, V.sl n2 (elV tp2 f2), vi x4], V.pd [V.str s5, vi x6, V.sl n7 (elV tp2 f7), vi x9]]) (m112 s0 x1 n2 f2 x4 s5 x6 n7 f7 x9) := ⟨by kernel_rfl, by kernel_rfl⟩
def F112_0 (s0 : ByteArray) (s5 : ByteArray) : Bool := s0.toList == s5.toList
def R112 (s0 : ByteArray) (x1 : Int) (n2 : Nat) (f2 : FnV) (x4 : Int) (s5 : ByteArray) (x6 : Int) (n7 : Nat) (f7 : FnV) (x9 : Int) : V := .bool (F112_0 s0 s5)
theorem ev112 (s0 : ByteArray) (x1 : Int) (n2 : Nat) (f2 : FnV) (x4 : Int) (s5 : ByteArray) (x6 : Int) (n7 : Nat) (f7 : FnV) (x9 : Int) : evR noE (m112 s0 x1 n2 f2 x4 s5 x6 n7 f7 x9) (R112 s0 x1 n2 f2 x4 s5 x6 n7 f7 x9) := evRet (by unfold R112 F112_0; rfl)
def C112 : PCon := mkC [.agg tyR, .pd tyR] (fun _ => True) fun
 | [.agg [.str s0, .int _ x1, .sl n2 f2, .int _ x4], .pd [.str s5, .int _ x6, .sl n7 f7, .int _ x9]] => R112 s0 x1 n2 f2 x4 s5 x6 n7 f7 x9
 | _ => .any
theorem ok112 : (vP C112).Ok Tryz.prog 112 := mkE tabB4 Tryz.func112 (by kernel_rfl) fun ds hp => rf0 (run112 ..) (ev112 _ _ _ _ _ _ _ _ _ _)
def m118 (x0 x1 x2 x3 : Int) : RT Empty := .obc (.obt (.obi (.obi (.obi (.br (!F86_0 x1 1 1000) (.ob (!F86_0 x1 1 1000) (.ob (!F86_0 x1 1 1000) (.obc (.obt (.obi (.br (!F86_0 x0 0 (i64.wrap (x1 - 1))) (.ob (!F86_0 x0 0 (i64.wrap (x1 - 1))) (.obc (.obt (.obi (.obi (.obi (.br (!F86_0 x3 1 1000) (.ob (!F86_0 x3 1 1000) (.ob (!F86_0 x3 1 1000) (.obc (.obt (.ret (V.bool (F86_0 x2 0 (i64.wrap (x3 - 1))))))))) (.ret (V.kb true))))))))) (.ret (V.kb true)))))))) (.ret (V.kb true)))))))
theorem run118 (x0 x1 x2 x3 : Int) : Fit noD (runL JJ ctB4 u0 s118 [V.agg [vi x0, vi x1, vi x2, vi x3]]) (m118 x0 x1 x2 x3) := ⟨by kernel_rfl, by kernel_rfl⟩
def F118_0 (x0 x1 x2 x3 : Int) : Bool := bif !F86_0 x1 1 1000 then bif !F86_0 x0 0 (i64.wrap (x1 - 1)) then bif !F86_0 x3 1 1000 then F86_0 x2 0 (i64.wrap (x3 - 1)) else true else true else true
def R118 (x0 x1 x2 x3 : Int) : V := .bool (F118_0 x0 x1 x2 x3)
theorem ev118 (x0 x1 x2 x3 : Int) : evR noE (m118 x0 x1 x2 x3) (R118 x0 x1 x2 x3) := evObc (evObt (evObi (evObi (evObi (evBr (fun h0 => evOb (by first | assumption | (fail)) (evOb (by first | assumption | (fail)) (evObc (evObt (evObi (evBr (fun h1 => evOb (by first | assumption | (fail)) (evObc (evObt (evObi (evObi (evObi (evBr (fun h2 => evOb (by first | assumption | (fail)) (evOb (by first | assumption | (fail)) (evObc (evObt (evRet (by unfold R118 F118_0; try rw [h0]; try rw [h1]; try rw [h2]; rfl)))))) (fun h2 => evRet (by unfold R118 F118_0; try rw [h0]; try rw [h1]; try rw [h2]; rfl))))))))) (fun h1 => evRet (by unfold R118 F118_0; try rw [h0]; try rw [h1]; rfl)))))))) (fun h0 => evRet (by unfold R118 F118_0; try rw [h0]; rfl)))))))
def C118 : PCon := mkC [.agg tp4] (fun _ => True) fun
 | [.agg [.int _ x0, .int _ x1, .int _ x2, .int _ x3]] => R118 x0 x1 x2 x3
 | _ => .any
theorem ok118 : (vP C118).Ok Tryz.prog 118 := mkE tabB4 Tryz.func118 (by kernel_rfl) fun ds hp => rf0 (run118 ..) (ev118 _ _ _ _)
def m120 (s0 : ByteArray) (x1 x2 x3 x4 x5 : Int) (s6 : ByteArray) (x7 x8 x9 x10 x11 : Int) : RT Empty := .ret (V.bool (s0.toList == s6.toList))
theorem run120 (s0 : ByteArray) (x1 x2 x3 x4 x5 : Int) (s6 : ByteArray) (x7 x8 x9 x10 x11 : Int) : Fit noD (runL JJ ctB4 u0 s120 [V.agg [V.str s0, vi x1, vi x2, vi x3, vi x4, vi x5], V.pd [V.str s6, vi x7, vi x8, vi x9, vi x10, vi x11]]) (m120 s0 x1 x2 x3 x4 x5 s6 x7 x8 x9 x10 x11) := ⟨by kernel_rfl, by kernel_rfl⟩
def F120_0 (s0 : ByteArray) (s6 : ByteArray) : Bool := s0.toList == s6.toList
def R120 (s0 : ByteArray) (x1 x2 x3 x4 x5 : Int) (s6 : ByteArray) (x7 x8 x9 x10 x11 : Int) : V := .bool (F120_0 s0 s6)
theorem ev120 (s0 : ByteArray) (x1 x2 x3 x4 x5 : Int) (s6 : ByteArray) (x7 x8 x9 x10 x11 : Int) : evR noE (m120 s0 x1 x2 x3 x4 x5 s6 x7 x8 x9 x10 x11) (R120 s0 x1 x2 x3 x4 x5 s6 x7 x8 x9 x10 x11) := evRet (by unfold R120 F120_0; rfl)
def C120 : PCon := mkC [.agg tyC, .pd tyC] (fun _ => True) fun
 | [.agg [.str s0, .int _ x1, .int _ x2, .int _ x3, .int _ x4, .int _ x5], .pd [.str s6, .int _ x7, .int _ x8, .int _ x9, .int _ x10, .int _ x11]] => R120 s0 x1 x2 x3 x4 x5 s6 x7 x8 x9 x10 x11
 | _ => .any
theorem ok120 : (vP C120).Ok Tryz.prog 120 := mkE tabB4 Tryz.func120 (by kernel_rfl) fun ds hp => rf0 (run120 ..) (ev120 _ _ _ _ _ _ _ _ _ _ _ _)
def F51 (n0 : Nat) (f0 : FnV) : Bool := allB n0 fun i => F71_0 (jv0 (f0 i)) (-100000) 100000
inductive S133 where
 | L0 (ia0 : Int)
def inv133 (n0 : Nat) (f0 : FnV) : S133 -> Env × List O × Option Ex
 | .L0 ia0 => ([(8, vi ia0), (7, vi (↑n0 : Int)), (6, V.sl n0 (elV tp1 f0)), (4, vi 0), (0, V.sl n0 (elV tp1 f0)), (1, V.fn 100 [] [])], [], none)
def id133 : S133 -> JJ
 | .L0 ia0 => (0, [])
def rl133 (n0 : Nat) (f0 : FnV) : T (Leaf JJ) := runL JJ ctB4 u0 s133 [V.sl n0 (elV tp1 f0), V.fn 100 [] []]
def lp133_0 (n0 : Nat) (f0 : FnV) (cx : List Cx) : Lp JJ := lpT (atT (rl133 n0 f0) [])
def lp133 (n0 : Nat) (f0 : FnV) : JJ -> Lp JJ
 | (0, cx) => lp133_0 n0 f0 cx
 | (_, cx) => lp133_0 n0 f0 cx
def D133 (n0 : Nat) (f0 : FnV) : LD JJ S133 := ⟨id133, lp133 n0 f0, inv133 n0 f0⟩
def st133 (n0 : Nat) (f0 : FnV) : S133 -> RT S133
 | .L0 ia0 => .br (decide (ia0 < (↑n0 : Int))) (.ob (decide (0 <= ia0 /\ ia0 < (↑n0 : Int))) (.obc (.obt (.br (F100_0 (jv0 (f0 ia0.toNat))) (.ret (vi ia0)) (.next [] (S133.L0 (i64.wrap (ia0 + 1))) []))))) (.ret (vi (-1)))
def m133 (n0 : Nat) (f0 : FnV) : RT S133 := .asm (true = true -> n0 <= 9223372036854775807) (.enter [] (S133.L0 (0)) [])
theorem run133 (n0 : Nat) (f0 : FnV) : Fits ctB4 u0 (D133 n0 f0) (rl133 n0 f0) (m133 n0 f0) (st133 n0 f0) := ⟨⟨by kernel_rfl, by kernel_rfl⟩, fun s => by cases s <;> exact ⟨by kernel_rfl, by kernel_rfl⟩⟩
def F133 (n0 : Nat) (f0 : FnV) : Int   := idx n0 fun ii => F100_0 (jv0 (f0 ii))
theorem ev133_0 (n0 : Nat) (f0 : FnV) : evR (Ev (st133 n0 f0)) (m133 n0 f0) (.int .i64 (F133 n0 f0)) := evAsm1 fun hn => evEnter (idx_ev hn fun i => rfl)
theorem ev133 (n0 : Nat) (f0 : FnV) : evR (Ev (st133 n0 f0)) (m133 n0 f0) (.int .i64 (F133 n0 (elV tp1 f0))) := ev133_0 n0 f0
def C133 : PCon := mkC [.sl tp1, .fn 100 [] []] (fun _ => True) fun
 | [.sl n0 f0, .fn _ [] []] => .int .i64 (F133 n0 f0)
 | _ => .any
theorem ok133 : (vP C133).Ok Tryz.prog 133 := mkE tabB4 Tryz.func133 (by kernel_rfl) fun ds hp => rfs (run133 ..) (ev133 _ _)
def ctB5 : CTab := (112, .con C112) :: (118, .con C118) :: (120, .con C120) :: (133, .con C133) :: ctB4
theorem tabB5 : TabOk Tryz.prog eqs its ctB5 := .con ok112 (.con ok118 (.con ok120 (.con ok133 (tabB4))))
def m99 (n0 : Nat) (f0 : FnV) : RT Empty := .obc (.obt (.ret (V.bool (decide (0 <= F133 n0 (elV tp1 f0))))))
theorem run99 (n0 : Nat) (f0 : FnV) : Fit noD (runL JJ ctB5 u0 s99 [V.sl n0 (elV tp1 f0), V.fn 100 [] []]) (m99 n0 f0) := ⟨by kernel_rfl, by kernel_rfl⟩
def F99_0 (n0 : Nat) (f0 : FnV) : Bool := decide (0 <= F133 n0 (elV tp1 f0))
def R99 (n0 : Nat) (f0 : FnV) : V := .bool (F99_0 n0 f0)
theorem ev99 (n0 : Nat) (f0 : FnV) : evR noE (m99 n0 f0) (R99 n0 f0) := evObc (evObt (evRet (by unfold R99 F99_0; rfl)))
def C99 : PCon := mkC [.sl tp1, .fn 100 [] []] (fun _ => True) fun
 | [.sl n0 f0, .fn _ [] []] => R99 n0 f0
 | _ => .any
theorem ok99 : (vP C99).Ok Tryz.prog 99 := mkE tabB5 Tryz.func99 (by kernel_rfl) fun ds hp => rf0 (run99 ..) (ev99 _ _)
inductive S129 where
 | L0 (ia0 : Int)
def inv129 (n0 : Nat) (f0 : FnV) (s2 : ByteArray) (x3 : Int) (n4 : Nat) (f4 : FnV) (x6 : Int) : S129 -> Env × List O × Option Ex
 | .L0 ia0 => ([(8, vi ia0), (7, vi (↑n0 : Int)), (6, V.sl n0 (elV tyR f0)), (4, vi 0), (0, V.sl n0 (elV tyR f0)), (1, V.fn 112 [] [V.pd [V.str s2, vi x3, V.sl n4 (elV tp2 f4), vi x6]])], [], none)
def id129 : S129 -> JJ
 | .L0 ia0 => (0, [])
def rl129 (n0 : Nat) (f0 : FnV) (s2 : ByteArray) (x3 : Int) (n4 : Nat) (f4 : FnV) (x6 : Int) : T (Leaf JJ) := runL JJ ctB5 u0 s129 [V.sl n0 (elV tyR f0), V.fn 112 [] [V.pd [V.str s2, vi x3, V.sl n4 (elV tp2 f4), vi x6]]]
def lp129_0 (n0 : Nat) (f0 : FnV) (s2 : ByteArray) (x3 : Int) (n4 : Nat) (f4 : FnV) (x6 : Int) (cx : List Cx) : Lp JJ := lpT (atT (rl129 n0 f0 s2 x3 n4 f4 x6) [])
def lp129 (n0 : Nat) (f0 : FnV) (s2 : ByteArray) (x3 : Int) (n4 : Nat) (f4 : FnV) (x6 : Int) : JJ -> Lp JJ
 | (0, cx) => lp129_0 n0 f0 s2 x3 n4 f4 x6 cx
 | (_, cx) => lp129_0 n0 f0 s2 x3 n4 f4 x6 cx
def D129 (n0 : Nat) (f0 : FnV) (s2 : ByteArray) (x3 : Int) (n4 : Nat) (f4 : FnV) (x6 : Int) : LD JJ S129 := ⟨id129, lp129 n0 f0 s2 x3 n4 f4 x6, inv129 n0 f0 s2 x3 n4 f4 x6⟩
def st129 (n0 : Nat) (f0 : FnV) (s2 : ByteArray) (x3 : Int) (n4 : Nat) (f4 : FnV) (x6 : Int) : S129 -> RT S129
 | .L0 ia0 => .br (decide (ia0 < (↑n0 : Int))) (.ob (decide (0 <= ia0 /\ ia0 < (↑n0 : Int))) (.obc (.obt (.br (F112_0 (sv (hdV (f0 ia0.toNat))) s2) (.ret (vi ia0)) (.next [] (S129.L0 (i64.wrap (ia0 + 1))) []))))) (.ret (vi (-1)))
def m129 (n0 : Nat) (f0 : FnV) (s2 : ByteArray) (x3 : Int) (n4 : Nat) (f4 : FnV) (x6 : Int) : RT S129 := .asm (true = true -> n0 <= 9223372036854775807) (.enter [] (S129.L0 (0)) [])
theorem run129 (n0 : Nat) (f0 : FnV) (s2 : ByteArray) (x3 : Int) (n4 : Nat) (f4 : FnV) (x6 : Int) : Fits ctB5 u0 (D129 n0 f0 s2 x3 n4 f4 x6) (rl129 n0 f0 s2 x3 n4 f4 x6) (m129 n0 f0 s2 x3 n4 f4 x6) (st129 n0 f0 s2 x3 n4 f4 x6) := ⟨⟨by kernel_rfl, by kernel_rfl⟩, fun s => by cases s <;> exact ⟨by kernel_rfl, by kernel_rfl⟩⟩
def F129 (n0 : Nat) (f0 : FnV) (s2 : ByteArray) : Int   := idx n0 fun ii => F112_0 (sv (hdV (f0 ii))) s2
theorem ev129_0 (n0 : Nat) (f0 : FnV) (s2 : ByteArray) (x3 : Int) (n4 : Nat) (f4 : FnV) (x6 : Int) : evR (Ev (st129 n0 f0 s2 x3 n4 f4 x6)) (m129 n0 f0 s2 x3 n4 f4 x6) (.int .i64 (F129 n0 f0 s2)) := evAsm1 fun hn => evEnter (idx_ev hn fun i => rfl)
theorem ev129 (n0 : Nat) (f0 : FnV) (s2 : ByteArray) (x3 : Int) (n4 : Nat) (f4 : FnV) (x6 : Int) : evR (Ev (st129 n0 f0 s2 x3 n4 f4 x6)) (m129 n0 f0 s2 x3 n4 f4 x6) (.int .i64 (F129 n0 (elV tyR f0) s2)) := ev129_0 n0 f0 s2 x3 n4 f4 x6
def C129 : PCon := mkC [.sl tyR, .fn 112 [] [.pd tyR]] (fun _ => True) fun
 | [.sl n0 f0, .fn _ [] [.pd [.str s2, .int _ x3, .sl n4 f4, .int _ x6]]] => .int .i64 (F129 n0 f0 s2)
 | _ => .any
theorem ok129 : (vP C129).Ok Tryz.prog 129 := mkE tabB5 Tryz.func129 (by kernel_rfl) fun ds hp => rfs (run129 ..) (ev129 _ _ _ _ _ _ _)
inductive S148 where
 | L0 (ia0 : Int)
def inv148 (n0 : Nat) (f0 : FnV) : S148 -> Env × List O × Option Ex
 | .L0 ia0 => ([(8, vi ia0), (7, vi (↑n0 : Int)), (6, V.sl n0 (elV tp4 f0)), (4, vi 0), (0, V.sl n0 (elV tp4 f0)), (1, V.fn 118 [] [])], [], none)
def id148 : S148 -> JJ
 | .L0 ia0 => (0, [])
def rl148 (n0 : Nat) (f0 : FnV) : T (Leaf JJ) := runL JJ ctB5 u0 s148 [V.sl n0 (elV tp4 f0), V.fn 118 [] []]
def lp148_0 (n0 : Nat) (f0 : FnV) (cx : List Cx) : Lp JJ := lpT (atT (rl148 n0 f0) [])
def lp148 (n0 : Nat) (f0 : FnV) : JJ -> Lp JJ
 | (0, cx) => lp148_0 n0 f0 cx
 | (_, cx) => lp148_0 n0 f0 cx
def D148 (n0 : Nat) (f0 : FnV) : LD JJ S148 := ⟨id148, lp148 n0 f0, inv148 n0 f0⟩
def st148 (n0 : Nat) (f0 : FnV) : S148 -> RT S148
 | .L0 ia0 => .br (decide (ia0 < (↑n0 : Int))) (.ob (decide (0 <= ia0 /\ ia0 < (↑n0 : Int))) (.obc (.obt (.br (F118_0 (jv0 (f0 ia0.toNat)) (jv1 (f0 ia0.toNat)) (jv2 (f0 ia0.toNat)) (jv3 (f0 ia0.toNat))) (.ret (vi ia0)) (.next [] (S148.L0 (i64.wrap (ia0 + 1))) []))))) (.ret (vi (-1)))
def m148 (n0 : Nat) (f0 : FnV) : RT S148 := .asm (true = true -> n0 <= 9223372036854775807) (.enter [] (S148.L0 (0)) [])
theorem run148 (n0 : Nat) (f0 : FnV) : Fits ctB5 u0 (D148 n0 f0) (rl148 n0 f0) (m148 n0 f0) (st148 n0 f0) := ⟨⟨by kernel_rfl, by kernel_rfl⟩, fun s => by cases s <;> exact ⟨by kernel_rfl, by kernel_rfl⟩⟩
def F148 (n0 : Nat) (f0 : FnV) : Int   := idx n0 fun ii => F118_0 (jv0 (f0 ii)) (jv1 (f0 ii)) (jv2 (f0 ii)) (jv3 (f0 ii))
theorem ev148_0 (n0 : Nat) (f0 : FnV) : evR (Ev (st148 n0 f0)) (m148 n0 f0) (.int .i64 (F148 n0 f0)) := evAsm1 fun hn => evEnter (idx_ev hn fun i => rfl)
theorem ev148 (n0 : Nat) (f0 : FnV) : evR (Ev (st148 n0 f0)) (m148 n0 f0) (.int .i64 (F148 n0 (elV tp4 f0))) := ev148_0 n0 f0
def C148 : PCon := mkC [.sl tp4, .fn 118 [] []] (fun _ => True) fun
 | [.sl n0 f0, .fn _ [] []] => .int .i64 (F148 n0 f0)
 | _ => .any
theorem ok148 : (vP C148).Ok Tryz.prog 148 := mkE tabB5 Tryz.func148 (by kernel_rfl) fun ds hp => rfs (run148 ..) (ev148 _ _)
inductive S149 where
 | L0 (ia0 : Int)
def inv149 (n0 : Nat) (f0 : FnV) (s2 : ByteArray) (x3 x4 x5 x6 x7 : Int) : S149 -> Env × List O × Option Ex
 | .L0 ia0 => ([(8, vi ia0), (7, vi (↑n0 : Int)), (6, V.sl n0 (elV tyC f0)), (4, vi 0), (0, V.sl n0 (elV tyC f0)), (1, V.fn 120 [] [V.pd [V.str s2, vi x3, vi x4, vi x5, vi x6, vi x7]])], [], none)
def id149 : S149 -> JJ
 | .L0 ia0 => (0, [])
def rl149 (n0 : Nat) (f0 : FnV) (s2 : ByteArray) (x3 x4 x5 x6 x7 : Int) : T (Leaf JJ) := runL JJ ctB5 u0 s149 [V.sl n0 (elV tyC f0), V.fn 120 [] [V.pd [V.str s2, vi x3, vi x4, vi x5, vi x6, vi x7]]]
def lp149_0 (n0 : Nat) (f0 : FnV) (s2 : ByteArray) (x3 x4 x5 x6 x7 : Int) (cx : List Cx) : Lp JJ := lpT (atT (rl149 n0 f0 s2 x3 x4 x5 x6 x7) [])
def lp149 (n0 : Nat) (f0 : FnV) (s2 : ByteArray) (x3 x4 x5 x6 x7 : Int) : JJ -> Lp JJ
 | (0, cx) => lp149_0 n0 f0 s2 x3 x4 x5 x6 x7 cx
 | (_, cx) => lp149_0 n0 f0 s2 x3 x4 x5 x6 x7 cx
def D149 (n0 : Nat) (f0 : FnV) (s2 : ByteArray) (x3 x4 x5 x6 x7 : Int) : LD JJ S149 := ⟨id149, lp149 n0 f0 s2 x3 x4 x5 x6 x7, inv149 n0 f0 s2 x3 x4 x5 x6 x7⟩
def st149 (n0 : Nat) (f0 : FnV) (s2 : ByteArray) (x3 x4 x5 x6 x7 : Int) : S149 -> RT S149
 | .L0 ia0 => .br (decide (ia0 < (↑n0 : Int))) (.ob (decide (0 <= ia0 /\ ia0 < (↑n0 : Int))) (.obc (.obt (.br (F120_0 (sv (hdV (f0 ia0.toNat))) s2) (.ret (vi ia0)) (.next [] (S149.L0 (i64.wrap (ia0 + 1))) []))))) (.ret (vi (-1)))
def m149 (n0 : Nat) (f0 : FnV) (s2 : ByteArray) (x3 x4 x5 x6 x7 : Int) : RT S149 := .asm (true = true -> n0 <= 9223372036854775807) (.enter [] (S149.L0 (0)) [])
theorem run149 (n0 : Nat) (f0 : FnV) (s2 : ByteArray) (x3 x4 x5 x6 x7 : Int) : Fits ctB5 u0 (D149 n0 f0 s2 x3 x4 x5 x6 x7) (rl149 n0 f0 s2 x3 x4 x5 x6 x7) (m149 n0 f0 s2 x3 x4 x5 x6 x7) (st149 n0 f0 s2 x3 x4 x5 x6 x7) := ⟨⟨by kernel_rfl, by kernel_rfl⟩, fun s => by cases s <;> exact ⟨by kernel_rfl, by kernel_rfl⟩⟩
def F149 (n0 : Nat) (f0 : FnV) (s2 : ByteArray) : Int   := idx n0 fun ii => F120_0 (sv (hdV (f0 ii))) s2
theorem ev149_0 (n0 : Nat) (f0 : FnV) (s2 : ByteArray) (x3 x4 x5 x6 x7 : Int) : evR (Ev (st149 n0 f0 s2 x3 x4 x5 x6 x7)) (m149 n0 f0 s2 x3 x4 x5 x6 x7) (.int .i64 (F149 n0 f0 s2)) := evAsm1 fun hn => evEnter (idx_ev hn fun i => rfl)
theorem ev149 (n0 : Nat) (f0 : FnV) (s2 : ByteArray) (x3 x4 x5 x6 x7 : Int) : evR (Ev (st149 n0 f0 s2 x3 x4 x5 x6 x7)) (m149 n0 f0 s2 x3 x4 x5 x6 x7) (.int .i64 (F149 n0 (elV tyC f0) s2)) := ev149_0 n0 f0 s2 x3 x4 x5 x6 x7
def C149 : PCon := mkC [.sl tyC, .fn 120 [] [.pd tyC]] (fun _ => True) fun
 | [.sl n0 f0, .fn _ [] [.pd [.str s2, .int _ x3, .int _ x4, .int _ x5, .int _ x6, .int _ x7]]] => .int .i64 (F149 n0 f0 s2)
 | _ => .any
theorem ok149 : (vP C149).Ok Tryz.prog 149 := mkE tabB5 Tryz.func149 (by kernel_rfl) fun ds hp => rfs (run149 ..) (ev149 _ _ _ _ _ _ _ _)
def ctB6 : CTab := (99, .con C99) :: (129, .con C129) :: (148, .con C148) :: (149, .con C149) :: ctB5
theorem tabB6 : TabOk Tryz.prog eqs its ctB6 := .con ok99 (.con ok129 (.con ok148 (.con ok149 (tabB5))))
def m45 (n0 : Nat) (f0 : FnV) : RT Empty := .obc (.obt (.ret (V.bool (F99_0 n0 (elV tp1 f0)))))
theorem run45 (n0 : Nat) (f0 : FnV) : Fit noD (runL JJ ctB6 u0 s45 [V.sl n0 (elV tp1 f0)]) (m45 n0 f0) := ⟨by kernel_rfl, by kernel_rfl⟩
def F45_0 (n0 : Nat) (f0 : FnV) : Bool := F99_0 n0 (elV tp1 f0)
def R45 (n0 : Nat) (f0 : FnV) : V := .bool (F45_0 n0 f0)
theorem ev45 (n0 : Nat) (f0 : FnV) : evR noE (m45 n0 f0) (R45 n0 f0) := evObc (evObt (evRet (by unfold R45 F45_0; rfl)))
def C45 : PCon := mkC [.sl tp1] (fun _ => True) fun
 | [.sl n0 f0] => R45 n0 f0
 | _ => .any
theorem ok45 : (vP C45).Ok Tryz.prog 45 := mkE tabB6 Tryz.func45 (by kernel_rfl) fun ds hp => rf0 (run45 ..) (ev45 _ _)
def m90 (n0 : Nat) (f0 : FnV) (s2 : ByteArray) (x3 : Int) (n4 : Nat) (f4 : FnV) (x6 : Int) : RT Empty := .obc (.obt (.ret (V.bool (decide (0 <= F129 n0 (elV tyR f0) s2)))))
theorem run90 (n0 : Nat) (f0 : FnV) (s2 : ByteArray) (x3 : Int) (n4 : Nat) (f4 : FnV) (x6 : Int) : Fit noD (runL JJ ctB6 u0 s90 [V.sl n0 (elV tyR f0), V.fn 112 [] [V.pd [V.str s2, vi x3, V.sl n4 (elV tp2 f4), vi x6]]]) (m90 n0 f0 s2 x3 n4 f4 x6) := ⟨by kernel_rfl, by kernel_rfl⟩
def F90_0 (n0 : Nat) (f0 : FnV) (s2 : ByteArray) : Bool := decide (0 <= F129 n0 (elV tyR f0) s2)
def R90 (n0 : Nat) (f0 : FnV) (s2 : ByteArray) (x3 : Int) (n4 : Nat) (f4 : FnV) (x6 : Int) : V := .bool (F90_0 n0 f0 s2)
theorem ev90 (n0 : Nat) (f0 : FnV) (s2 : ByteArray) (x3 : Int) (n4 : Nat) (f4 : FnV) (x6 : Int) : evR noE (m90 n0 f0 s2 x3 n4 f4 x6) (R90 n0 f0 s2 x3 n4 f4 x6) := evObc (evObt (evRet (by unfold R90 F90_0; rfl)))
def C90 : PCon := mkC [.sl tyR, .fn 112 [] [.pd tyR]] (fun _ => True) fun
 | [.sl n0 f0, .fn _ [] [.pd [.str s2, .int _ x3, .sl n4 f4, .int _ x6]]] => R90 n0 f0 s2 x3 n4 f4 x6
 | _ => .any
theorem ok90 : (vP C90).Ok Tryz.prog 90 := mkE tabB6 Tryz.func90 (by kernel_rfl) fun ds hp => rf0 (run90 ..) (ev90 _ _ _ _ _ _ _)
def m119 (n0 : Nat) (f0 : FnV) : RT Empty := .obc (.obt (.ret (V.bool (decide (0 <= F148 n0 (elV tp4 f0))))))
theorem run119 (n0 : Nat) (f0 : FnV) : Fit noD (runL JJ ctB6 u0 s119 [V.sl n0 (elV tp4 f0), V.fn 118 [] []]) (m119 n0 f0) := ⟨by kernel_rfl, by kernel_rfl⟩
def F119_0 (n0 : Nat) (f0 : FnV) : Bool := decide (0 <= F148 n0 (elV tp4 f0))
def R119 (n0 : Nat) (f0 : FnV) : V := .bool (F119_0 n0 f0)
theorem ev119 (n0 : Nat) (f0 : FnV) : evR noE (m119 n0 f0) (R119 n0 f0) := evObc (evObt (evRet (by unfold R119 F119_0; rfl)))
def C119 : PCon := mkC [.sl tp4, .fn 118 [] []] (fun _ => True) fun
 | [.sl n0 f0, .fn _ [] []] => R119 n0 f0
 | _ => .any
theorem ok119 : (vP C119).Ok Tryz.prog 119 := mkE tabB6 Tryz.func119 (by kernel_rfl) fun ds hp => rf0 (run119 ..) (ev119 _ _)
def m121 (n0 : Nat) (f0 : FnV) (s2 : ByteArray) (x3 x4 x5 x6 x7 : Int) : RT Empty := .obc (.obt (.ret (V.bool (decide (0 <= F149 n0 (elV tyC f0) s2)))))
theorem run121 (n0 : Nat) (f0 : FnV) (s2 : ByteArray) (x3 x4 x5 x6 x7 : Int) : Fit noD (runL JJ ctB6 u0 s121 [V.sl n0 (elV tyC f0), V.fn 120 [] [V.pd [V.str s2, vi x3, vi x4, vi x5, vi x6, vi x7]]]) (m121 n0 f0 s2 x3 x4 x5 x6 x7) := ⟨by kernel_rfl, by kernel_rfl⟩
def F121_0 (n0 : Nat) (f0 : FnV) (s2 : ByteArray) : Bool := decide (0 <= F149 n0 (elV tyC f0) s2)
def R121 (n0 : Nat) (f0 : FnV) (s2 : ByteArray) (x3 x4 x5 x6 x7 : Int) : V := .bool (F121_0 n0 f0 s2)
theorem ev121 (n0 : Nat) (f0 : FnV) (s2 : ByteArray) (x3 x4 x5 x6 x7 : Int) : evR noE (m121 n0 f0 s2 x3 x4 x5 x6 x7) (R121 n0 f0 s2 x3 x4 x5 x6 x7) := evObc (evObt (evRet (by unfold R121 F121_0; rfl)))
def C121 : PCon := mkC [.sl tyC, .fn 120 [] [.pd tyC]] (fun _ => True) fun
 | [.sl n0 f0, .fn _ [] [.pd [.str s2, .int _ x3, .int _ x4, .int _ x5, .int _ x6, .int _ x7]]] => R121 n0 f0 s2 x3 x4 x5 x6 x7
 | _ => .any
theorem ok121 : (vP C121).Ok Tryz.prog 121 := mkE tabB6 Tryz.func121 (by kernel_rfl) fun ds hp => rf0 (run121 ..) (ev121 _ _ _ _ _ _ _ _)
def ctB7 : CTab := (45, .con C45) :: (90, .con C90) :: (119, .con C119) :: (121, .con C121) :: ctB6
theorem tabB7 : TabOk Tryz.prog eqs its ctB7 := .con ok45 (.con ok90 (.con ok119 (.con ok121 (tabB6))))
def m113 (x0 x1 : Int) : RT Empty := .obt (.obt (.obc (.obt (.ret (V.bool (F45_0 2 (elV tp1 (secF [vi x0, vi x1] 0 1))))))))
theorem run113 (x0 x1 : Int) : Fit noD (runL JJ ctB7 u0 s113 [V.agg [vi x0, vi x1]]) (m113 x0 x1) := ⟨by kernel_rfl, by kernel_rfl⟩
def F113_0 (x0 x1 : Int) : Bool := F45_0 2 (elV tp1 (secF [vi x0, vi x1] 0 1))
def R113 (x0 x1 : Int) : V := .bool (F113_0 x0 x1)
theorem ev113 (x0 x1 : Int) : evR noE (m113 x0 x1) (R113 x0 x1) := evObt (evObt (evObc (evObt (evRet (by unfold R113 F113_0; rfl)))))
def C113 : PCon := mkC [.agg tp2] (fun _ => True) fun
 | [.agg [.int _ x0, .int _ x1]] => R113 x0 x1
 | _ => .any
theorem ok113 : (vP C113).Ok Tryz.prog 113 := mkE tabB7 Tryz.func113 (by kernel_rfl) fun ds hp => rf0 (run113 ..) (ev113 _ _)
def m65 (n0 : Nat) (f0 : FnV) (x2 x3 x4 x5 x6 : Int) : RT Empty := .obc (.obt (.obi (.br (!F45_0 2 (elV tp1 (secF [vi x2, vi x3] 0 1))) (.ob (!F45_0 2 (elV tp1 (secF [vi x2, vi x3] 0 1))) (.obc (.obt (.obi (.obi (.obi (.br (!F86_0 x4 1 20000) (.ob (!F86_0 x4 1 20000) (.ob (!F86_0 x4 1 20000) (.obc (.obt (.obi (.br (!F86_0 x5 0 (i64.wrap (x6 - 1))) (.ob (!F86_0 x5 0 (i64.wrap (x6 - 1))) (.obc (.obt (.br (F86_0 x6 1 1000) (.ret (vi 7)) (.ret (vi 0)))))) (.ret (vi 7)))))))) (.ret (vi 7))))))))) (.ret (vi 7)))))
theorem run65 (n0 : Nat) (f0 : FnV) (x2 x3 x4 x5 x6 : Int) : Fit noD (runL JJ ctB7 u0 s65 [V.sl n0 (elV tyT f0), V.agg [vi x2, vi x3, vi x4, vi x5, vi x6]]) (m65 n0 f0 x2 x3 x4 x5 x6) := ⟨by kernel_rfl, by kernel_rfl⟩
def F65_0 (x2 x3 x4 x5 x6 : Int) : Int := bif !F45_0 2 (elV tp1 (secF [vi x2, vi x3] 0 1)) then bif !F86_0 x4 1 20000 then bif !F86_0 x5 0 (i64.wrap (x6 - 1)) then bif F86_0 x6 1 1000 then 7 else 0 else 7 else 7 else 7
def R65 (n0 : Nat) (f0 : FnV) (x2 x3 x4 x5 x6 : Int) : V := .int i64 (F65_0 x2 x3 x4 x5 x6)
theorem ev65 (n0 : Nat) (f0 : FnV) (x2 x3 x4 x5 x6 : Int) : evR noE (m65 n0 f0 x2 x3 x4 x5 x6) (R65 n0 f0 x2 x3 x4 x5 x6) := evObc (evObt (evObi (evBr (fun h0 => evOb (by first | assumption | (fail)) (evObc (evObt (evObi (evObi (evObi (evBr (fun h1 => evOb (by first | assumption | (fail)) (evOb (by first | assumption | (fail)) (evObc (evObt (evObi (evBr (fun h2 => evOb (by first | assumption | (fail)) (evObc (evObt (evBr (fun h3 => evRet (by unfold R65 F65_0; try rw [h0]; try rw [h1]; try rw [h2]; try rw [h3]; rfl)) (fun h3 => evRet (by unfold R65 F65_0; try rw [h0]; try rw [h1]; try rw [h2]; try rw [h3]; rfl)))))) (fun h2 => evRet (by unfold R65 F65_0; try rw [h0]; try rw [h1]; try rw [h2]; rfl)))))))) (fun h1 => evRet (by unfold R65 F65_0; try rw [h0]; try rw [h1]; rfl))))))))) (fun h0 => evRet (by unfold R65 F65_0; try rw [h0]; rfl)))))
def C65 : PCon := mkC [.sl tyT, .agg tyT] (fun _ => True) fun
 | [.sl n0 f0, .agg [.int _ x2, .int _ x3, .int _ x4, .int _ x5, .int _ x6]] => R65 n0 f0 x2 x3 x4 x5 x6
 | _ => .any
theorem ok65 : (vP C65).Ok Tryz.prog 65 := mkE tabB7 Tryz.func65 (by kernel_rfl) fun ds hp => rf0 (run65 ..) (ev65 _ _ _ _ _ _ _)
def m67 (n0 : Nat) (f0 : FnV) (x2 x3 x4 x5 : Int) (n6 : Nat) (f6 : FnV) : RT Empty := .obt (.obt (.obt (.obt (.obc (.obt (.br (F45_0 4 (elV tp1 (secF [vi x2, vi x3, vi x4, vi x5] 0 1))) (.ret (vi 7)) (.br (x2 == x4 && (x3 == x5 && true)) (.ret (vi 2)) (.asm (true = true -> n6 <= 9223372036854775807) (.br (decide (6 < (↑n6 : Int))) (.ret (vi 3)) (.obc (.obt (.br (F119_0 n6 (elV tp4 f6)) (.ret (vi 7)) (.ret (vi 0))))))))))))))
theorem run67 (n0 : Nat) (f0 : FnV) (x2 x3 x4 x5 : Int) (n6 : Nat) (f6 : FnV) : Fit noD (runL JJ ctB7 u0 s67 [V.sl n0 (elV tyF f0), V.agg [vi x2, vi x3, vi x4, vi x5, V.sl n6 (elV tp4 f6)]]) (m67 n0 f0 x2 x3 x4 x5 n6 f6) := ⟨by kernel_rfl, by kernel_rfl⟩
def F67_0 (x2 x3 x4 x5 : Int) (n6 : Nat) (f6 : FnV) : Int := bif F45_0 4 (elV tp1 (secF [vi x2, vi x3, vi x4, vi x5] 0 1)) then 7 else bif x2 == x4 && (x3 == x5 && true) then 2 else bif decide (6 < (↑n6 : Int)) then 3 else bif F119_0 n6 (elV tp4 f6) then 7 else 0
def R67 (n0 : Nat) (f0 : FnV) (x2 x3 x4 x5 : Int) (n6 : Nat) (f6 : FnV) : V := .int i64 (F67_0 x2 x3 x4 x5 n6 f6)
theorem ev67 (n0 : Nat) (f0 : FnV) (x2 x3 x4 x5 : Int) (n6 : Nat) (f6 : FnV) : evR noE (m67 n0 f0 x2 x3 x4 x5 n6 f6) (R67 n0 f0 x2 x3 x4 x5 n6 f6) := evObt (evObt (evObt (evObt (evObc (evObt (evBr (fun h0 => evRet (by unfold R67 F67_0; try rw [h0]; rfl)) (fun h0 => evBr (fun h1 => evRet (by unfold R67 F67_0; try rw [h0]; try rw [h1]; rfl)) (fun h1 => evAsm (fun a2 => evBr (fun h2 => evRet (by unfold R67 F67_0; try rw [h0]; try rw [h1]; try rw [h2]; rfl)) (fun h2 => evObc (evObt (evBr (fun h3 => evRet (by unfold R67 F67_0; try rw [h0]; try rw [h1]; try rw [h2]; try rw [h3]; rfl)) (fun h3 => evRet (by unfold R67 F67_0; try rw [h0]; try rw [h1]; try rw [h2]; try rw [h3]; rfl))))))))))))))
def C67 : PCon := mkC [.sl tyF, .agg tyF] (fun _ => True) fun
 | [.sl n0 f0, .agg [.int _ x2, .int _ x3, .int _ x4, .int _ x5, .sl n6 f6]] => R67 n0 f0 x2 x3 x4 x5 n6 f6
 | _ => .any
theorem ok67 : (vP C67).Ok Tryz.prog 67 := mkE tabB7 Tryz.func67 (by kernel_rfl) fun ds hp => rf0 (run67 ..) (ev67 _ _ _ _ _ _ _ _)
def m53 (x0 x1 x2 x3 : Int) : RT Empty := .obc (.obt (.obi (.obi (.obi (.obi (.obi (.obi (.obi (.obi (.obi (.obi (.ret (V.bool (bif bif F45_0 4 (elV tp1 (secF [vi x0, vi x1, vi x2, vi x3] 0 1)) then true else decide (x2 < x0) then true else decide (x3 < x1)))))))))))))))
theorem run53 (x0 x1 x2 x3 : Int) : Fit noD (runL JJ ctB7 u0 s53 [V.agg [vi x0, vi x1, vi x2, vi x3]]) (m53 x0 x1 x2 x3) := ⟨by kernel_rfl, by kernel_rfl⟩
def F53_0 (x0 x1 x2 x3 : Int) : Bool := bif bif F45_0 4 (elV tp1 (secF [vi x0, vi x1, vi x2, vi x3] 0 1)) then true else decide (x2 < x0) then true else decide (x3 < x1)
def R53 (x0 x1 x2 x3 : Int) : V := .bool (F53_0 x0 x1 x2 x3)
theorem ev53 (x0 x1 x2 x3 : Int) : evR noE (m53 x0 x1 x2 x3) (R53 x0 x1 x2 x3) := evObc (evObt (evObi (evObi (evObi (evObi (evObi (evObi (evObi (evObi (evObi (evObi (evRet (by unfold R53 F53_0; rfl)))))))))))))
def C53 : PCon := mkC [.agg tp4] (fun _ => True) fun
 | [.agg [.int _ x0, .int _ x1, .int _ x2, .int _ x3]] => R53 x0 x1 x2 x3
 | _ => .any
theorem ok53 : (vP C53).Ok Tryz.prog 53 := mkE tabB7 Tryz.func53 (by kernel_rfl) fun ds hp => rf0 (run53 ..) (ev53 _ _ _ _)
def F58_0 (x0 x1 x2 x3 : Int) : Bool := bif bif F51 4 (elV tp1 (secF [vi x0, vi x1, vi x2, vi x3] 0 1)) then decide (x0 <= x2) else false then decide (x1 <= x3) else false
def badN (s0 : ByteArray) (i : Nat) : Bool := bif !bif decide (97 <= ((s0.data.toList.getD i 0).toNat : Int)) then decide (((s0.data.toList.getD i 0).toNat : Int) <= 122) else false then bif (i : Int) == 0 then true else bif !bif decide (48 <= ((s0.data.toList.getD i 0).toNat : Int)) then decide (((s0.data.toList.getD i 0).toNat : Int) <= 57) else false then ((s0.data.toList.getD i 0).toNat : Int) != 45 else false else false
def F122 (s0 : ByteArray) : Bool := allB s0.size (fun i => !badN s0 i) && bif decide (0 < (s0.size : Int)) then decide ((s0.size : Int) <= 24) else false
def badW (l : List V) : Bool := bif bif bif bif bif decide (jv0 l < 0) then true else decide (jv1 l <= jv0 l) then true else decide (1000 < jv1 l) then true else decide (jv2 l < 0) then true else decide (jv3 l <= jv2 l) then true else decide (1000 < jv3 l)
def F72 (x0 x1 x2 x3 : Int) (n4 : Nat) (f4 : FnV) : Int := bif !F51 4 (elV tp1 (secF [V.int .i64 x0, V.int .i64 x1, V.int .i64 x2, V.int .i64 x3] 0 ((1 + 1 + 1 + 1 - 0) / 4))) then 7 else bif x0 == x2 && (x1 == x3 && true) then 2 else bif decide (6 < (n4 : Int)) then 3 else bif exB n4 (fun i => badW (f4 i)) then 7 else 0
def ctB8 : CTab := (113, .con C113) :: (65, .con C65) :: (67, .con C67) :: (53, .con C53) :: ctB7
theorem tabB8 : TabOk Tryz.prog eqs its ctB8 := .con ok113 (.con ok65 (.con ok67 (.con ok53 (tabB7))))
inductive S147 where
 | L0 (ia0 : Int)
def inv147 (n0 : Nat) (f0 : FnV) : S147 -> Env × List O × Option Ex
 | .L0 ia0 => ([(8, vi ia0), (7, vi (↑n0 : Int)), (6, V.sl n0 (elV tp2 f0)), (4, vi 0), (0, V.sl n0 (elV tp2 f0)), (1, V.fn 113 [] [])], [], none)
def id147 : S147 -> JJ
 | .L0 ia0 => (0, [])
def rl147 (n0 : Nat) (f0 : FnV) : T (Leaf JJ) := runL JJ ctB8 u0 s147 [V.sl n0 (elV tp2 f0), V.fn 113 [] []]
def lp147_0 (n0 : Nat) (f0 : FnV) (cx : List Cx) : Lp JJ := lpT (atT (rl147 n0 f0) [])
def lp147 (n0 : Nat) (f0 : FnV) : JJ -> Lp JJ
 | (0, cx) => lp147_0 n0 f0 cx
 | (_, cx) => lp147_0 n0 f0 cx
def D147 (n0 : Nat) (f0 : FnV) : LD JJ S147 := ⟨id147, lp147 n0 f0, inv147 n0 f0⟩
def st147 (n0 : Nat) (f0 : FnV) : S147 -> RT S147
 | .L0 ia0 => .br (decide (ia0 < (↑n0 : Int))) (.ob (decide (0 <= ia0 /\ ia0 < (↑n0 : Int))) (.obc (.obt (.br (F113_0 (jv0 (f0 ia0.toNat)) (jv1 (f0 ia0.toNat))) (.ret (vi ia0)) (.next [] (S147.L0 (i64.wrap (ia0 + 1))) []))))) (.ret (vi (-1)))
def m147 (n0 : Nat) (f0 : FnV) : RT S147 := .asm (true = true -> n0 <= 9223372036854775807) (.enter [] (S147.L0 (0)) [])
theorem run147 (n0 : Nat) (f0 : FnV) : Fits ctB8 u0 (D147 n0 f0) (rl147 n0 f0) (m147 n0 f0) (st147 n0 f0) := ⟨⟨by kernel_rfl, by kernel_rfl⟩, fun s => by cases s <;> exact ⟨by kernel_rfl, by kernel_rfl⟩⟩
def F147 (n0 : Nat) (f0 : FnV) : Int   := idx n0 fun ii => F113_0 (jv0 (f0 ii)) (jv1 (f0 ii))
theorem ev147_0 (n0 : Nat) (f0 : FnV) : evR (Ev (st147 n0 f0)) (m147 n0 f0) (.int .i64 (F147 n0 f0)) := evAsm1 fun hn => evEnter (idx_ev hn fun i => rfl)
theorem ev147 (n0 : Nat) (f0 : FnV) : evR (Ev (st147 n0 f0)) (m147 n0 f0) (.int .i64 (F147 n0 (elV tp2 f0))) := ev147_0 n0 f0
def C147 : PCon := mkC [.sl tp2, .fn 113 [] []] (fun _ => True) fun
 | [.sl n0 f0, .fn _ [] []] => .int .i64 (F147 n0 f0)
 | _ => .any
theorem ok147 : (vP C147).Ok Tryz.prog 147 := mkE tabB8 Tryz.func147 (by kernel_rfl) fun ds hp => rfs (run147 ..) (ev147 _ _)
inductive S64 where
 | L0 (ia0 : Int)
def inv64 (n0 : Nat) (f0 : FnV) : S64 -> Env × List O × Option Ex
 | .L0 ia0 => ([(11, vi ia0), (10, vi (↑n0 : Int)), (9, V.sl n0 (elV tyT f0)), (5, vi 0), (4, vi 0), (0, V.sl n0 (elV tyT f0)), (1, V.fn 65 [] [])], [], none)
def id64 : S64 -> JJ
 | .L0 ia0 => (0, [])
def rl64 (n0 : Nat) (f0 : FnV) : T (Leaf JJ) := runL JJ ctB8 u0 s64 [V.sl n0 (elV tyT f0), V.fn 65 [] []]
def lp64_0 (n0 : Nat) (f0 : FnV) (cx : List Cx) : Lp JJ := lpT (atT (rl64 n0 f0) [])
def lp64 (n0 : Nat) (f0 : FnV) : JJ -> Lp JJ
 | (0, cx) => lp64_0 n0 f0 cx
 | (_, cx) => lp64_0 n0 f0 cx
def D64 (n0 : Nat) (f0 : FnV) : LD JJ S64 := ⟨id64, lp64 n0 f0, inv64 n0 f0⟩
def st64 (n0 : Nat) (f0 : FnV) : S64 -> RT S64
 | .L0 ia0 => .br (decide (ia0 < (↑n0 : Int))) (.ob (decide (0 <= ia0 /\ ia0 < (↑n0 : Int))) (.ob (decide (0 <= ia0 /\ ia0 <= (↑n0 : Int))) (.obc (.obt (.br (F65_0 (jv0 (f0 ia0.toNat)) (jv1 (f0 ia0.toNat)) (jv2 (f0 ia0.toNat)) (jv3 (f0 ia0.toNat)) (jv4 (f0 ia0.toNat)) != 0) (.ret (V.tup [vi ia0, vi (F65_0 (jv0 (f0 ia0.toNat)) (jv1 (f0 ia0.toNat)) (jv2 (f0 ia0.toNat)) (jv3 (f0 ia0.toNat)) (jv4 (f0 ia0.toNat)))])) (.next [] (S64.L0 (i64.wrap (ia0 + 1))) [])))))) (.ret (V.tup [vi 0, vi 0]))
def m64 (n0 : Nat) (f0 : FnV) : RT S64 := .asm (true = true -> n0 <= 9223372036854775807) (.enter [] (S64.L0 (0)) [])
theorem run64 (n0 : Nat) (f0 : FnV) : Fits ctB8 u0 (D64 n0 f0) (rl64 n0 f0) (m64 n0 f0) (st64 n0 f0) := ⟨⟨by kernel_rfl, by kernel_rfl⟩, fun s => by cases s <;> exact ⟨by kernel_rfl, by kernel_rfl⟩⟩
def c64 (n0 : Nat) (f0 : FnV) (ii : Nat) : Int := (F65_0 (jv0 (f0 ii)) (jv1 (f0 ii)) (jv2 (f0 ii)) (jv3 (f0 ii)) (jv4 (f0 ii)))
def F64_0 (n0 : Nat) (f0 : FnV) : Int := firstI n0 (c64 n0 f0)
def F64_1 (n0 : Nat) (f0 : FnV) : Int := firstE n0 (c64 n0 f0)
theorem ev64_0 (n0 : Nat) (f0 : FnV) : evR (Ev (st64 n0 f0)) (m64 n0 f0) (.tup [.int .i64 (F64_0 n0 f0), .int .i64 (F64_1 n0 f0)]) := evAsm1 fun hn => evEnter (first_ev (Q := fun _ => True) (fun _ x => .obc (.obt x)) (fun i x r h hx => evObc (evObt hx)) (fun _ _ => rfl) hn (fun _ _ => trivial) fun i => rfl)
theorem ev64 (n0 : Nat) (f0 : FnV) : evR (Ev (st64 n0 f0)) (m64 n0 f0) (.tup [.int .i64 (F64_0 n0 (elV tyT f0)), .int .i64 (F64_1 n0 (elV tyT f0))]) := ev64_0 n0 f0
def C64 : PCon := mkC [.sl tyT, .fn 65 [] []] (fun _ => True) fun
 | [.sl n0 f0, .fn _ [] []] => .tup [.int .i64 (F64_0 n0 f0), .int .i64 (F64_1 n0 f0)]
 | _ => .any
theorem ok64 : (vP C64).Ok Tryz.prog 64 := mkE tabB8 Tryz.func64 (by kernel_rfl) fun ds hp => rfs (run64 ..) (ev64 _ _)
inductive S66 where
 | L0 (ia0 : Int)
def inv66 (n0 : Nat) (f0 : FnV) : S66 -> Env × List O × Option Ex
 | .L0 ia0 => ([(11, vi ia0), (10, vi (↑n0 : Int)), (9, V.sl n0 (elV tyF f0)), (5, vi 0), (4, vi 0), (0, V.sl n0 (elV tyF f0)), (1, V.fn 67 [] [])], [], none)
def id66 : S66 -> JJ
 | .L0 ia0 => (0, [])
def rl66 (n0 : Nat) (f0 : FnV) : T (Leaf JJ) := runL JJ ctB8 u0 s66 [V.sl n0 (elV tyF f0), V.fn 67 [] []]
def lp66_0 (n0 : Nat) (f0 : FnV) (cx : List Cx) : Lp JJ := lpT (atT (rl66 n0 f0) [])
def lp66 (n0 : Nat) (f0 : FnV) : JJ -> Lp JJ
 | (0, cx) => lp66_0 n0 f0 cx
 | (_, cx) => lp66_0 n0 f0 cx
def D66 (n0 : Nat) (f0 : FnV) : LD JJ S66 := ⟨id66, lp66 n0 f0, inv66 n0 f0⟩
def st66 (n0 : Nat) (f0 : FnV) : S66 -> RT S66
 | .L0 ia0 => .br (decide (ia0 < (↑n0 : Int))) (.ob (decide (0 <= ia0 /\ ia0 < (↑n0 : Int))) (.ob (decide (0 <= ia0 /\ ia0 <= (↑n0 : Int))) (.obc (.obt (.br ((F67_0 (jv0 (f0 ia0.toNat)) (jv1 (f0 ia0.toNat)) (jv2 (f0 ia0.toNat)) (jv3 (f0 ia0.toNat)) (lenV (hdV (tlV (tlV (tlV (tlV (f0 ia0.toNat))))))) fun i => views tp4 (atV (hdV (tlV (tlV (tlV (tlV (f0 ia0.toNat)))))) i)) != 0) (.ret (V.tup [vi ia0, vi (F67_0 (jv0 (f0 ia0.toNat)) (jv1 (f0 ia0.toNat)) (jv2 (f0 ia0.toNat)) (jv3 (f0 ia0.toNat)) (lenV (hdV (tlV (tlV (tlV (tlV (f0 ia0.toNat))))))) fun i => views tp4 (atV (hdV (tlV (tlV (tlV (tlV (f0 ia0.toNat)))))) i))])) (.next [] (S66.L0 (i64.wrap (ia0 + 1))) [])))))) (.ret (V.tup [vi 0, vi 0]))
def m66 (n0 : Nat) (f0 : FnV) : RT S66 := .asm (true = true -> n0 <= 9223372036854775807) (.enter [] (S66.L0 (0)) [])
theorem run66 (n0 : Nat) (f0 : FnV) : Fits ctB8 u0 (D66 n0 f0) (rl66 n0 f0) (m66 n0 f0) (st66 n0 f0) := ⟨⟨by kernel_rfl, by kernel_rfl⟩, fun s => by cases s <;> exact ⟨by kernel_rfl, by kernel_rfl⟩⟩
def c66 (n0 : Nat) (f0 : FnV) (ii : Nat) : Int := (F67_0 (jv0 (f0 ii)) (jv1 (f0 ii)) (jv2 (f0 ii)) (jv3 (f0 ii)) (lenV (hdV (tlV (tlV (tlV (tlV (f0 ii))))))) fun i => views tp4 (atV (hdV (tlV (tlV (tlV (tlV (f0 ii)))))) i))
def F66_0 (n0 : Nat) (f0 : FnV) : Int := firstI n0 (c66 n0 f0)
def F66_1 (n0 : Nat) (f0 : FnV) : Int := firstE n0 (c66 n0 f0)
theorem ev66_0 (n0 : Nat) (f0 : FnV) : evR (Ev (st66 n0 f0)) (m66 n0 f0) (.tup [.int .i64 (F66_0 n0 f0), .int .i64 (F66_1 n0 f0)]) := evAsm1 fun hn => evEnter (first_ev (Q := fun _ => True) (fun _ x => .obc (.obt x)) (fun i x r h hx => evObc (evObt hx)) (fun _ _ => rfl) hn (fun _ _ => trivial) fun i => rfl)
theorem ev66 (n0 : Nat) (f0 : FnV) : evR (Ev (st66 n0 f0)) (m66 n0 f0) (.tup [.int .i64 (F66_0 n0 (elV tyF f0)), .int .i64 (F66_1 n0 (elV tyF f0))]) := ev66_0 n0 f0
def C66 : PCon := mkC [.sl tyF, .fn 67 [] []] (fun _ => True) fun
 | [.sl n0 f0, .fn _ [] []] => .tup [.int .i64 (F66_0 n0 f0), .int .i64 (F66_1 n0 f0)]
 | _ => .any
theorem ok66 : (vP C66).Ok Tryz.prog 66 := mkE tabB8 Tryz.func66 (by kernel_rfl) fun ds hp => rfs (run66 ..) (ev66 _ _)
end Go.Dx
namespace Go.Proofs
open Go.Shelf
def Tryz.lays160_ren : Go.Shelf.Ren := ⟨fun | 160 => 146 | 232 => 165 | 231 => 164 | 227 => 166 | 234 => 168 | 233 => 167 | 236 => 170 | 235 => 169 | 228 => 185 | 271 => 188 | 151 => 187 | 197 => 186 | 120 => 195 | 152 => 194 | 260 => 193 | 137 => 197 | 119 => 198 | 224 => 199 | 225 => 200 | 217 => 201 | 266 => 202 | n => n, fun | 9 => 9 | 4 => 4 | 3 => 3 | 5 => 5 | 117 => 228 | 116 => 227 | 0 => 0 | 124 => 231 | 21 => 21 | 105 => 245 | 46 => 188 | 119 => 254 | 139 => 257 | 138 => 256 | n => n, fun | 3 => 0 | 4 => 1 | n => n⟩
theorem Tryz.lays160 : Go.Proofs.Lays.n160 Tryz.prog Tryz.lays160_ren := {
 mixed := by kernel_rfl
 f119 := Tryz.func198.trans (congrArg some (by kernel_rfl))
 f120 := Tryz.func195.trans (congrArg some (by kernel_rfl))
 f137 := Tryz.func197.trans (congrArg some (by kernel_rfl))
 f151 := Tryz.func187.trans (congrArg some (by kernel_rfl))
 f152 := Tryz.func194.trans (congrArg some (by kernel_rfl))
 f160 := Tryz.func146.trans (congrArg some (by kernel_rfl))
 f197 := Tryz.func186.trans (congrArg some (by kernel_rfl))
 f217 := Tryz.func201.trans (congrArg some (by kernel_rfl))
 f224 := Tryz.func199.trans (congrArg some (by kernel_rfl))
 f225 := Tryz.func200.trans (congrArg some (by kernel_rfl))
 f227 := Tryz.func166.trans (congrArg some (by kernel_rfl))
 f228 := Tryz.func185.trans (congrArg some (by kernel_rfl))
 f231 := Tryz.func164.trans (congrArg some (by kernel_rfl))
 f232 := Tryz.func165.trans (congrArg some (by kernel_rfl))
 f233 := Tryz.func167.trans (congrArg some (by kernel_rfl))
 f234 := Tryz.func168.trans (congrArg some (by kernel_rfl))
 f235 := Tryz.func169.trans (congrArg some (by kernel_rfl))
 f236 := Tryz.func170.trans (congrArg some (by kernel_rfl))
 f260 := Tryz.func193.trans (congrArg some (by kernel_rfl))
 f266 := Tryz.func202.trans (congrArg some (by kernel_rfl))
 f271 := Tryz.func188.trans (congrArg some (by kernel_rfl))
 t0 := Tryz.underlying0
 a0 := Tryz.isAgg0
 z0 := Tryz.sizeOf0
 v0 := Tryz.zeroValue0
 t3 := Tryz.underlying3
 a3 := Tryz.isAgg3
 z3 := Tryz.sizeOf3
 v3 := Tryz.zeroValue3
 t4 := Tryz.underlying4
 a4 := Tryz.isAgg4
 z4 := Tryz.sizeOf4
 v4 := Tryz.zeroValue4
 t5 := Tryz.underlying5
 a5 := Tryz.isAgg5
 z5 := Tryz.sizeOf5
 v5 := Tryz.zeroValue5
 t9 := Tryz.underlying9
 a9 := Tryz.isAgg9
 z9 := Tryz.sizeOf9
 v9 := Tryz.zeroValue9
 t21 := Tryz.underlying21
 a21 := Tryz.isAgg21
 z21 := Tryz.sizeOf21
 v21 := Tryz.zeroValue21
 t46 := Tryz.underlying188
 a46 := Tryz.isAgg188
 z46 := Tryz.sizeOf188
 v46 := Tryz.zeroValue188
 t105 := Tryz.underlying245
 a105 := Tryz.isAgg245
 z105 := Tryz.sizeOf245
 v105 := Tryz.zeroValue245
 t116 := Tryz.underlying227
 a116 := Tryz.isAgg227
 z116 := Tryz.sizeOf227
 t117 := Tryz.underlying228
 a117 := Tryz.isAgg228
 z117 := Tryz.sizeOf228
 v117 := Tryz.zeroValue228
 t119 := Tryz.underlying254
 a119 := Tryz.isAgg254
 z119 := Tryz.sizeOf254
 t124 := Tryz.underlying231
 a124 := Tryz.isAgg231
 z124 := Tryz.sizeOf231
 v124 := Tryz.zeroValue231
 t138 := Tryz.underlying256
 a138 := Tryz.isAgg256
 z138 := Tryz.sizeOf256
 v138 := Tryz.zeroValue256
 t139 := Tryz.underlying257
 a139 := Tryz.isAgg257
 z139 := Tryz.sizeOf257
 v139 := Tryz.zeroValue257
 g3 := by kernel_rfl
 g4 := by kernel_rfl }
end Go.Proofs
namespace Go.Dx
open Go.IntKind (i64 u64 u8)
open Go.Sx Go.Proofs Go.Shelf Go.RowKit
def cutN : ByteArray := ⟨#[97, 98, 99, 100, 101, 102, 103, 104, 105, 106, 107, 108, 109, 110, 111, 112, 113, 114, 115, 116, 117, 118, 119, 120, 121, 122, 48, 49, 50, 51, 52, 53, 54, 55, 56, 57, 45]⟩
def F146 (s c : ByteArray) : ByteArray := ⟨(Lib.trimS s.data.toList c.data.toList).toArray⟩
def C146 : PCon := mkC [.str, .str] (fun
 | [.str s, .str c] => s.size <= 9223372036854775807 /\ c = cutN
 | _ => False) fun
 | [.str s, .str c] => .str (F146 s c)
 | _ => .any
theorem trim_calls (s : ByteArray) (w : World) (hs : s.size <= 9223372036854775807) : Calls Tryz.prog 146 #[.string s, .string cutN] w fun e w' => e = .returned (.string (F146 s cutN)) /\ Below w.heap.size w w' :=
 Any.strings_Trim_laid Tryz.lays160 (by kernel_rfl) s cutN w hs (by decide) (ascii_of_all (by decide))
theorem HRel.below {B : Base} {m : Names} {lh : List LObj} {w w' : World} (h : HRel B m lh w) (hb : Below w.heap.size w w') : HRel B m lh w' := by
 obtain ⟨h1, h2, h3, h4, h5⟩ := hb
 have hsz : B.w0.heap.size <= w'.heap.size := Nat.le_trans h.size h4
 refine ⟨h1.trans h.os, h2.trans h.tape, h3.trans h.output, hsz, fun b hb => (h5 b (Nat.lt_of_lt_of_le hb h.size)).trans (h.old b hb), Nat.le_trans h.fsize h4, fun b hb ho => (h5 b (Nat.lt_of_lt_of_le hb h.fsize)).trans (h.kept b hb ho), fun k cs ty hk => ?_, h.inj, h.dom, h.dead, fun k b hk => Nat.lt_of_lt_of_le (h.rng k b hk) h4⟩
 obtain ⟨b, vs, g1, g2, g3, g4⟩ := h.loc k cs ty hk
 exact ⟨b, vs, g1, g2, (h5 b (h.rng k b g1)).trans g3, g4⟩
theorem ok146 : (vP C146).Ok Tryz.prog 146 := by
 refine ⟨fun B m lh w args vs K hrel hargs hsp => ?_, fun _ _ _ _ _ hk ⟨ds, d, p, r, h1, h2, h3, h4, h5⟩ => ⟨ds, d, p, r, h1, h2, h3, h4, hk _ _ h5⟩, fun _ _ _ _ ⟨_, _, _, _, _, _, _, _, h⟩ => h⟩
 obtain ⟨ds, d, p, r, h1, h2, ⟨h30, h3⟩, h4, h5⟩ := hsp
 simp only [C146, mkC, Option.some.injEq, Prod.mk.injEq] at h2
 obtain ⟨rfl, rfl, rfl⟩ := h2
 have hty := (fxs_ok [.str, .str] ds [] [] rfl h30).1
 simp only [hasTys, hasTy] at hty
 obtain ⟨e1, e2, e3, e4, e5⟩ := hty
 rw [e5] at e3
 rw [e3, e2, e4] at e1
 generalize sv (hdV ds) = s at e1
 generalize sv (hdV (tlV ds)) = c at e1
 subst e1
 simp only [unqs, unq] at h3 h4 h5
 obtain ⟨hs, rfl⟩ := h3
 simp only [vrs, vr] at h1
 obtain ⟨_, _, rfl, rfl, _, _, rfl, rfl, rfl⟩ := h1
 simp only [vrels, vrel] at hargs
 obtain ⟨_, _, rfl, rfl, _, _, rfl, rfl, rfl⟩ := hargs
 refine ⟨⟨_, Tryz.func146, by kernel_rfl, by kernel_rfl⟩, (trim_calls s w hs).mono fun e w' ⟨he, hb⟩ => ?_⟩
 exact ⟨_, _, m, lh, he, by simp only [toA, vrel], Ext.refl _ _, HRel.below hrel hb, h5⟩
theorem str_pos (s : ByteArray) (h : (!s.toList == (⟨#[]⟩ : ByteArray).toList) = true) : (0 : Int) < (s.size : Int) := by
 have e : (⟨#[]⟩ : ByteArray).toList = [] := by decide +kernel
 by_cases hz : s.size = 0
 ·have : s = ⟨#[]⟩ := by
   cases s with | mk d => 
   have : d = #[] := Array.eq_empty_of_size_eq_zero hz
   rw [this]
  rw [this, e] at h; cases h
 ·omega
end Go.Dx
namespace Go.Dx
open Go.IntKind (i64 u64 u8)
open Go.Sx Go.Proofs
def ctB9 : CTab := [(147, .con C147), (64, .con C64), (66, .con C66), (113, .con C113), (65, .con C65), (67, .con C67), (53, .con C53), (45, .con C45), (90, .con C90), (119, .con C119), (121, .con C121), (99, .con C99), (129, .con C129), (148, .con C148), (149, .con C149), (112, .con C112), (118, .con C118), (120, .con C120), (133, .con C133), (103, .con C103), (100, .con C100), (134, .con C134), (135, .con C135), (78, .con C78), (54, .con C54), (48, .con C48), (102, .con C102), (84, .con C84), (85, .con C85), (127, .con C127), (101, .con C101), (86, .con C86), (162, .con C162), (146, .con C146)]
theorem tabB9 : TabOk Tryz.prog eqs its ctB9 := .con ok147 (.con ok64 (.con ok66 (.con ok113 (.con ok65 (.con ok67 (.con ok53 (.con ok45 (.con ok90 (.con ok119 (.con ok121 (.con ok99 (.con ok129 (.con ok148 (.con ok149 (.con ok112 (.con ok118 (.con ok120 (.con ok133 (.con ok103 (.con ok100 (.con ok134 (.con ok135 (.con ok78 (.con ok54 (.con ok48 (.con ok102 (.con ok84 (.con ok85 (.con ok127 (.con ok101 (.con ok86 (.con ok162 (.con ok146 (.nil))))))))))))))))))))))))))))))))))
def m115 (n0 : Nat) (f0 : FnV) : RT Empty := .obc (.obt (.ret (V.bool (decide (0 <= F147 n0 (elV tp2 f0))))))
theorem run115 (n0 : Nat) (f0 : FnV) : Fit noD (runL JJ ctB9 u0 s115 [V.sl n0 (elV tp2 f0), V.fn 113 [] []]) (m115 n0 f0) := ⟨by kernel_rfl, by kernel_rfl⟩
def F115_0 (n0 : Nat) (f0 : FnV) : Bool := decide (0 <= F147 n0 (elV tp2 f0))
def R115 (n0 : Nat) (f0 : FnV) : V := .bool (F115_0 n0 f0)
theorem ev115 (n0 : Nat) (f0 : FnV) : evR noE (m115 n0 f0) (R115 n0 f0) := evObc (evObt (evRet (by unfold R115 F115_0; rfl)))
def C115 : PCon := mkC [.sl tp2, .fn 113 [] []] (fun _ => True) fun
 | [.sl n0 f0, .fn _ [] []] => R115 n0 f0
 | _ => .any
theorem ok115 : (vP C115).Ok Tryz.prog 115 := mkE tabB9 Tryz.func115 (by kernel_rfl) fun ds hp => rf0 (run115 ..) (ev115 _ _)
def m114 (s0 : ByteArray) : RT Empty := .obp (s0.size <= (9223372036854775807 : Nat) /\ ByteArray.mk (Array.mk [(97 : UInt8), (98 : UInt8), (99 : UInt8), (100 : UInt8), (101 : UInt8), (102 : UInt8), (103 : UInt8), (104 : UInt8), (105 : UInt8), (106 : UInt8), (107 : UInt8), (108 : UInt8), (109 : UInt8), (110 : UInt8), (111 : UInt8), (112 : UInt8), (113 : UInt8), (114 : UInt8), (115 : UInt8), (116 : UInt8), (117 : UInt8), (118 : UInt8), (119 : UInt8), (120 : UInt8), (121 : UInt8), (122 : UInt8), (48 : UInt8), (49 : UInt8), (50 : UInt8), (51 : UInt8), (52 : UInt8), (53 : UInt8), (54 : UInt8), (55 : UInt8), (56 : UInt8), (57 : UInt8), (45 : UInt8)]) = ByteArray.mk (Array.mk [(97 : UInt8), (98 : UInt8), (99 : UInt8), (100 : UInt8), (101 : UInt8), (102 : UInt8), (103 : UInt8), (104 : UInt8), (105 : UInt8), (106 : UInt8), (107 : UInt8), (108 : UInt8), (109 : UInt8), (110 : UInt8), (111 : UInt8), (112 : UInt8), (113 : UInt8), (114 : UInt8), (115 : UInt8), (116 : UInt8), (117 : UInt8), (118 : UInt8), (119 : UInt8), (120 : UInt8), (121 : UInt8), (122 : UInt8), (48 : UInt8), (49 : UInt8), (50 : UInt8), (51 : UInt8), (52 : UInt8), (53 : UInt8), (54 : UInt8), (55 : UInt8), (56 : UInt8), (57 : UInt8), (45 : UInt8)])) (.obt (.obi (.obi (.obi (.obi (.obi (.obi (.obj (bif bif !s0.toList == (ByteArray.mk (Array.mk [])).toList then decide ((↑s0.size : Int) <= 24) else false then (F146 s0 (ByteArray.mk (Array.mk [97, 98, 99, 100, 101, 102, 103, 104, 105, 106, 107, 108, 109, 110, 111, 112, 113, 114, 115, 116, 117, 118, 119, 120, 121, 122, 48, 49, 50, 51, 52, 53, 54, 55, 56, 57, 45]))).toList == (ByteArray.mk (Array.mk [])).toList else false) (decide ((0 : Int) <= 0 /\ 0 < (↑s0.size : Int))) (.obi (.obi (.obi (.obj (bif bif bif !s0.toList == (ByteArray.mk (Array.mk [])).toList then decide ((↑s0.size : Int) <= 24) else false then (F146 s0 (ByteArray.mk (Array.mk [97, 98, 99, 100, 101, 102, 103, 104, 105, 106, 107, 108, 109, 110, 111, 112, 113, 114, 115, 116, 117, 118, 119, 120, 121, 122, 48, 49, 50, 51, 52, 53, 54, 55, 56, 57, 45]))).toList == (ByteArray.mk (Array.mk [])).toList else false then decide (97 <= (↑(s0.data.1.getD 0 0).toNat : Int)) else false) (decide ((0 : Int) <= 0 /\ 0 < (↑s0.size : Int))) (.obi (.obi (.ret (V.bool (bif bif bif bif !s0.toList == (ByteArray.mk (Array.mk [])).toList then decide ((↑s0.size : Int) <= 24) else false then (F146 s0 (ByteArray.mk (Array.mk [97, 98, 99, 100, 101, 102, 103, 104, 105, 106, 107, 108, 109, 110, 111, 112, 113, 114, 115, 116, 117, 118, 119, 120, 121, 122, 48, 49, 50, 51, 52, 53, 54, 55, 56, 57, 45]))).toList == (ByteArray.mk (Array.mk [])).toList else false then decide (97 <= (↑(s0.data.1.getD 0 0).toNat : Int)) else false then decide ((↑(s0.data.1.getD 0 0).toNat : Int) <= 122) else false)))))))))))))))))
theorem run114 (s0 : ByteArray) : Fit noD (runL JJ ctB9 u0 s114 [V.str s0]) (m114 s0) := ⟨by kernel_rfl, by kernel_rfl⟩
def F114_0 (s0 : ByteArray) : Bool := bif bif bif bif !s0.toList == (ByteArray.mk (Array.mk [])).toList then decide ((↑s0.size : Int) <= 24) else false then (F146 s0 (ByteArray.mk (Array.mk [97, 98, 99, 100, 101, 102, 103, 104, 105, 106, 107, 108, 109, 110, 111, 112, 113, 114, 115, 116, 117, 118, 119, 120, 121, 122, 48, 49, 50, 51, 52, 53, 54, 55, 56, 57, 45]))).toList == (ByteArray.mk (Array.mk [])).toList else false then decide (97 <= (↑(s0.data.1.getD 0 0).toNat : Int)) else false then decide ((↑(s0.data.1.getD 0 0).toNat : Int) <= 122) else false
def R114 (s0 : ByteArray) : V := .bool (F114_0 s0)
theorem ev114 (s0 : ByteArray) (hp : s0.size <= 9223372036854775807) : evR noE (m114 s0) (R114 s0) := evObp (by first | assumption | (exact ⟨hp, rfl⟩)) (evObt (evObi (evObi (evObi (evObi (evObi (evObi (evObj (by first | assumption | (intro h; refine dqt ⟨Int.le_refl 0, str_pos s0 ?_⟩; cases hb : (!s0.toList == (⟨#[]⟩ : ByteArray).toList) with | true => rfl | false => (rw [hb] at h; simp at h))) (evObi (evObi (evObi (evObj (by first | assumption | (intro h; refine dqt ⟨Int.le_refl 0, str_pos s0 ?_⟩; cases hb : (!s0.toList == (⟨#[]⟩ : ByteArray).toList) with | true => rfl | false => (rw [hb] at h; simp at h))) (evObi (evObi (evRet (by unfold R114 F114_0; rfl))))))))))))))))
def C114 : PCon := mkC [.str] (fun
 | [.str s0] => s0.size <= 9223372036854775807
 | _ => False) fun
 | [.str s0] => R114 s0
 | _ => .any
theorem ok114 : (vP C114).Ok Tryz.prog 114 := mkE tabB9 Tryz.func114 (by kernel_rfl) fun ds hp => rf0 (run114 ..) (ev114 _ hp)
def colE (x y h dx dy : Int) : Int := bif bif bif bif !F51 2 (elV tp1 (secF [V.int .i64 x, V.int .i64 y] 0 ((1 + 1 - 0) / 2))) then true else !F71_0 h 1 200 then true else !F71_0 dx (-1000) 1000 then true else !F71_0 dy (-1000) 1000 then 7 else bif bif dx == 0 then dy == 0 else false then 2 else 0
def F73 (n6 : Nat) (f6 : FnV) (x8 : Int) : Int := bif !F122 (sv (hdV (f6 x8.toNat))) then 6 else bif exB x8.toNat (fun k => (sv (hdV (f6 k))).toList == (sv (hdV (f6 x8.toNat))).toList) then 5 else colE (jv1 (f6 x8.toNat)) (jv2 (f6 x8.toNat)) (jv3 (f6 x8.toNat)) (jv4 (f6 x8.toNat)) (jv5 (f6 x8.toNat))
def ctB10 : CTab := (117, .inl s117 u0) :: (116, .inl s116 u0) :: (115, .con C115) :: (114, .con C114) :: ctB9
theorem tabB10 : TabOk Tryz.prog eqs its ctB10 := .inl Tryz.func117 (by kernel_rfl) (by kernel_rfl) (by kernel_rfl) (.inl Tryz.func116 (by kernel_rfl) (by kernel_rfl) (by kernel_rfl) (.con ok115 (.con ok114 (tabB9))))
inductive S63 where
 | L0 (ia0 : Int) (fa1 : Nat -> List V)
 | L1 (ib0 : Int) (fb1 : Nat -> List V)
 | L2 (ic0 : Int) (fc1 : Nat -> List V)
 | L3 (id0 : Int) (fd1 : Nat -> List V)
 | L4 (ie0 : Int) (ne1 ne2 : Nat) (ie3 ie4 ie5 : Int) (ne6 : Nat) (ie7 ie8 ie9 ie10 : Int) (fe11 : Nat -> List V)
 | L5 (if0 : Int) (nf1 nf2 : Nat) (if3 if4 if5 : Int) (nf6 : Nat) (if7 if8 if9 if10 : Int) (ff11 : Nat -> List V)
 | L6 (ig0 : Int) (ng1 ng2 : Nat) (ig3 ig4 ig5 : Int) (ng6 : Nat) (ig7 ig8 ig9 ig10 : Int) (fg11 : Nat -> List V)
 | L7 (ih0 : Int) (nh1 nh2 : Nat) (ih3 ih4 ih5 : Int) (nh6 : Nat) (ih7 ih8 ih9 ih10 : Int) (fh11 : Nat -> List V)
def inv63 (n0 : Nat) (f0 : FnV) (s2 : ByteArray) (x3 : Int) (n4 : Nat) (f4 : FnV) (x6 : Int) : S63 -> Env × List O × Option Ex
 | .L0 ia0 fa1 => ([(3, vi ia0), (8, V.kb false), (7, vi (↑n4 : Int)), (6, V.gs 2 n4), (2, V.ns), (0, V.gs 2 n4)], [O.cells [V.str s2, vi x3, V.sl n4 (elV tp2 f4), vi x6] 54, O.hid, O.gl 2 n4 (elV tp2 fa1) 72], none)
 | .L1 ib0 fb1 => ([(3, vi ib0), (8, V.kb false), (7, vi (↑n4 : Int)), (6, V.gs 2 n4), (2, V.ns), (0, V.gs 2 n4)], [O.cells [V.str s2, vi x3, V.sl n4 (elV tp2 f4), vi x6] 54, O.hid, O.gl 2 n4 (elV tp2 fb1) 72], none)
 | .L2 ic0 fc1 => ([(3, vi ic0), (8, V.kb false), (7, vi (↑n4 : Int)), (6, V.gs 2 n4), (2, V.ns), (0, V.gs 2 n4)], [O.cells [V.str s2, vi x3, V.sl n4 (elV tp2 f4), vi x6] 54, O.hid, O.gl 2 n4 (elV tp2 fc1) 72], none)
 | .L3 id0 fd1 => ([(3, vi id0), (8, V.kb false), (7, vi (↑n4 : Int)), (6, V.gs 2 n4), (2, V.ns), (0, V.gs 2 n4)], [O.cells [V.str s2, vi x3, V.sl n4 (elV tp2 f4), vi x6] 54, O.hid, O.gl 2 n4 (elV tp2 fd1) 72], none)
 | .L4 ie0 ne1 ne2 ie3 ie4 ie5 ne6 ie7 ie8 ie9 ie10 fe11 => ([(5, vi ie0), (4, V.go 2 ne1 ne2), (28, V.go 2 ne1 ne2), (27, vi ie3), (26, V.gs 2 n4), (25, V.kb true), (24, V.agg [vi ie4, vi ie5]), (23, V.pe 2 ne6 0), (22, vi ie7), (21, vi ie3), (20, V.gs 2 n4), (19, V.agg [vi ie8, vi ie9]), (18, V.pe 2 ne1 0), (17, vi ie3), (16, V.gs 2 n4), (13, V.kb true), (12, vi (↑n4 : Int)), (11, V.gs 2 n4), (10, vi ie3), (3, vi ie10), (8, V.kb false), (7, vi (↑n4 : Int)), (6, V.gs 2 n4), (2, V.ns), (0, V.gs 2 n4)], [O.cells [V.str s2, vi x3, V.sl n4 (elV tp2 f4), vi x6] 54, O.hid, O.gl 2 n4 (elV tp2 fe11) 72], none)
 | .L5 if0 nf1 nf2 if3 if4 if5 nf6 if7 if8 if9 if10 ff11 => ([(5, vi if0), (4, V.go 2 nf1 nf2), (28, V.go 2 nf1 nf2), (27, vi if3), (26, V.gs 2 n4), (25, V.kb true), (24, V.agg [vi if4, vi if5]), (23, V.pe 2 nf6 0), (22, vi if7), (21, vi if3), (20, V.gs 2 n4), (19, V.agg [vi if8, vi if9]), (18, V.pe 2 nf1 0), (17, vi if3), (16, V.gs 2 n4), (13, V.kb true), (12, vi (↑n4 : Int)), (11, V.gs 2 n4), (10, vi if3), (3, vi if10), (8, V.kb false), (7, vi (↑n4 : Int)), (6, V.gs 2 n4), (2, V.ns), (0, V.gs 2 n4)], [O.cells [V.str s2, vi x3, V.sl n4 (elV tp2 f4), vi x6] 54, O.hid, O.gl 2 n4 (elV tp2 ff11) 72], none)
 | .L6 ig0 ng1 ng2 ig3 ig4 ig5 ng6 ig7 ig8 ig9 ig10 fg11 => ([(5, vi ig0), (4, V.go 2 ng1 ng2), (28, V.go 2 ng1 ng2), (27, vi ig3), (26, V.gs 2 n4), (25, V.kb true), (24, V.agg [vi ig4, vi ig5]), (23, V.pe 2 ng6 0), (22, vi ig7), (21, vi ig3), (20, V.gs 2 n4), (19, V.agg [vi ig8, vi ig9]), (18, V.pe 2 ng1 0), (17, vi ig3), (16, V.gs 2 n4), (13, V.kb true), (12, vi (↑n4 : Int)), (11, V.gs 2 n4), (10, vi ig3), (3, vi ig10), (8, V.kb false), (7, vi (↑n4 : Int)), (6, V.gs 2 n4), (2, V.ns), (0, V.gs 2 n4)], [O.cells [V.str s2, vi x3, V.sl n4 (elV tp2 f4), vi x6] 54, O.hid, O.gl 2 n4 (elV tp2 fg11) 72], none)
 | .L7 ih0 nh1 nh2 ih3 ih4 ih5 nh6 ih7 ih8 ih9 ih10 fh11 => ([(5, vi ih0), (4, V.go 2 nh1 nh2), (28, V.go 2 nh1 nh2), (27, vi ih3), (26, V.gs 2 n4), (25, V.kb true), (24, V.agg [vi ih4, vi ih5]), (23, V.pe 2 nh6 0), (22, vi ih7), (21, vi ih3), (20, V.gs 2 n4), (19, V.agg [vi ih8, vi ih9]), (18, V.pe 2 nh1 0), (17, vi ih3), (16, V.gs 2 n4), (13, V.kb true), (12, vi (↑n4 : Int)), (11, V.gs 2 n4), (10, vi ih3), (3, vi ih10), (8, V.kb false), (7, vi (↑n4 : Int)), (6, V.gs 2 n4), (2, V.ns), (0, V.gs 2 n4)], [O.cells [V.str s2, vi x3, V.sl n4 (elV tp2 f4), vi x6] 54, O.hid, O.gl 2 n4 (elV tp2 fh11) 72], none)
def id63 : S63 -> JJ
 | .L0 ia0 fa1 => (0, [])
 | .L1 ib0 fb1 => (1, [])
 | .L2 ic0 fc1 => (2, [])
 | .L3 id0 fd1 => (3, [])
 | .L4 ie0 ne1 ne2 ie3 ie4 ie5 ne6 ie7 ie8 ie9 ie10 fe11 => (4, [])
 | .L5 if0 nf1 nf2 if3 if4 if5 nf6 if7 if8 if9 if10 ff11 => (5, [])
 | .L6 ig0 ng1 ng2 ig3 ig4 ig5 ng6 ig7 ig8 ig9 ig10 fg11 => (6, [])
 | .L7 ih0 nh1 nh2 ih3 ih4 ih5 nh6 ih7 ih8 ih9 ih10 fh11 => (7, [])
def rl63 (n0 : Nat) (f0 : FnV) (s2 : ByteArray) (x3 : Int) (n4 : Nat) (f4 : FnV) (x6 : Int) : T (Leaf JJ) := runL JJ ctB10 u0 s63 [V.sl n0 (elV tyR f0), V.agg [V.str s2, vi x3, V.sl n4 (elV tp2 f4), vi x6]]
def lp63_0 (n0 : Nat) (f0 : FnV) (s2 : ByteArray) (x3 : Int) (n4 : Nat) (f4 : FnV) (x6 : Int) (cx : List Cx) : Lp JJ := lpT (atT (rl63 n0 f0 s2 x3 n4 f4 x6) [false, false, false, false, false, true, false, true, true, false, true, false])
def lp63_1 (n0 : Nat) (f0 : FnV) (s2 : ByteArray) (x3 : Int) (n4 : Nat) (f4 : FnV) (x6 : Int) (cx : List Cx) : Lp JJ := lpT (atT (rl63 n0 f0 s2 x3 n4 f4 x6) [false, false, false, false, false, true, false, true, true, false, false, false])
def lp63_2 (n0 : Nat) (f0 : FnV) (s2 : ByteArray) (x3 : Int) (n4 : Nat) (f4 : FnV) (x6 : Int) (cx : List Cx) : Lp JJ := lpT (atT (rl63 n0 f0 s2 x3 n4 f4 x6) [false, false, false, false, false, true, false, true, false, false, false])
def lp63_3 (n0 : Nat) (f0 : FnV) (s2 : ByteArray) (x3 : Int) (n4 : Nat) (f4 : FnV) (x6 : Int) (cx : List Cx) : Lp JJ := lpT (atT (rl63 n0 f0 s2 x3 n4 f4 x6) [false, false, false, false, false, true, false, false, false, false])
def lp63_4 (n0 : Nat) (f0 : FnV) (s2 : ByteArray) (x3 : Int) (n4 : Nat) (f4 : FnV) (x6 : Int) (cx : List Cx) : Lp JJ := lpT (atT (rdP ctB10 u0 (0, []) (lp63_0 n0 f0 s2 x3 n4 f4 x6 []) (inv63 n0 f0 s2 x3 n4 f4 x6 (.L0 (0 : Int) (fun _ => [])))) [true, true])
def lp63_5 (n0 : Nat) (f0 : FnV) (s2 : ByteArray) (x3 : Int) (n4 : Nat) (f4 : FnV) (x6 : Int) (cx : List Cx) : Lp JJ := lpT (atT (rdP ctB10 u0 (1, []) (lp63_1 n0 f0 s2 x3 n4 f4 x6 []) (inv63 n0 f0 s2 x3 n4 f4 x6 (.L1 (0 : Int) (fun _ => [])))) [true, true])
def lp63_6 (n0 : Nat) (f0 : FnV) (s2 : ByteArray) (x3 : Int) (n4 : Nat) (f4 : FnV) (x6 : Int) (cx : List Cx) : Lp JJ := lpT (atT (rdP ctB10 u0 (2, []) (lp63_2 n0 f0 s2 x3 n4 f4 x6 []) (inv63 n0 f0 s2 x3 n4 f4 x6 (.L2 (0 : Int) (fun _ => [])))) [true, true])
def lp63_7 (n0 : Nat) (f0 : FnV) (s2 : ByteArray) (x3 : Int) (n4 : Nat) (f4 : FnV) (x6 : Int) (cx : List Cx) : Lp JJ := lpT (atT (rdP ctB10 u0 (3, []) (lp63_3 n0 f0 s2 x3 n4 f4 x6 []) (inv63 n0 f0 s2 x3 n4 f4 x6 (.L3 (0 : Int) (fun _ => [])))) [true, true])
def lp63 (n0 : Nat) (f0 : FnV) (s2 : ByteArray) (x3 : Int) (n4 : Nat) (f4 : FnV) (x6 : Int) : JJ -> Lp JJ
 | (0, cx) => lp63_0 n0 f0 s2 x3 n4 f4 x6 cx
 | (1, cx) => lp63_1 n0 f0 s2 x3 n4 f4 x6 cx
 | (2, cx) => lp63_2 n0 f0 s2 x3 n4 f4 x6 cx
 | (3, cx) => lp63_3 n0 f0 s2 x3 n4 f4 x6 cx
 | (4, cx) => lp63_4 n0 f0 s2 x3 n4 f4 x6 cx
 | (5, cx) => lp63_5 n0 f0 s2 x3 n4 f4 x6 cx
 | (6, cx) => lp63_6 n0 f0 s2 x3 n4 f4 x6 cx
 | (7, cx) => lp63_7 n0 f0 s2 x3 n4 f4 x6 cx
 | (_, cx) => lp63_0 n0 f0 s2 x3 n4 f4 x6 cx
def D63 (n0 : Nat) (f0 : FnV) (s2 : ByteArray) (x3 : Int) (n4 : Nat) (f4 : FnV) (x6 : Int) : LD JJ S63 := ⟨id63, lp63 n0 f0 s2 x3 n4 f4 x6, inv63 n0 f0 s2 x3 n4 f4 x6⟩
def st63 (n0 : Nat) (f0 : FnV) (s2 : ByteArray) (x3 : Int) (n4 : Nat) (f4 : FnV) (x6 : Int) : S63 -> RT S63
 | .L0 ia0 fa1 => .br (decide (ia0 < (↑n4 : Int))) (.ob (decide (0 <= ia0 /\ ia0 < (↑n4 : Int) /\ n4 <= n4)) (.ob (decide (ia0.toNat < n4)) (.ob (decide (0 <= i64.wrap (ia0 - 1) /\ i64.wrap (ia0 - 1) < (↑n4 : Int) /\ n4 <= n4)) (.ob (decide ((i64.wrap (ia0 - 1)).toNat < n4)) (.br (jv0 (fa1 ia0.toNat) == jv0 (fa1 (i64.wrap (ia0 - 1)).toNat) && (jv1 (fa1 ia0.toNat) == jv1 (fa1 (i64.wrap (ia0 - 1)).toNat) && true)) (.ob (decide (0 <= ia0 /\ ia0 <= (↑n4 : Int))) (.enter (iR 0 3 []) (S63.L4 (1) (ia0.toNat) (n4 - ia0.toNat) (ia0) (jv0 (fa1 (i64.wrap (ia0 - 1)).toNat)) (jv1 (fa1 (i64.wrap (ia0 - 1)).toNat)) ((i64.wrap (ia0 - 1)).toNat) (i64.wrap (ia0 - 1)) (jv0 (fa1 ia0.toNat)) (jv1 (fa1 ia0.toNat)) (ia0) (elV tp2 fa1)) [⟨2, tp2, n4, elV tp2 fa1, vf_view rfl _ _⟩])) (.next (iR 0 3 []) (S63.L0 (i64.wrap (ia0 + 1)) (elV tp2 fa1)) [⟨2, tp2, n4, elV tp2 fa1, vf_view rfl _ _⟩])))))) (.asm (true = true -> n4 <= 9223372036854775807) (.br (decide ((↑n4 : Int) < (↑n4 : Int))) (.ret (vi 2)) (.obi (.obi (.asm ((x3 == 3) = true -> n4 <= 9223372036854775807) (.obi (.obi (.br (bif x3 == 3 then decide (2 < (↑n4 : Int)) else false) (.ret (vi 2)) (.ret (vi 0))))))))))
 | .L1 ib0 fb1 => .br (decide (ib0 < (↑n4 : Int))) (.ob (decide (0 <= ib0 /\ ib0 < (↑n4 : Int) /\ n4 <= n4)) (.ob (decide (ib0.toNat < n4)) (.ob (decide (0 <= i64.wrap (ib0 - 1) /\ i64.wrap (ib0 - 1) < (↑n4 : Int) /\ n4 <= n4)) (.ob (decide ((i64.wrap (ib0 - 1)).toNat < n4)) (.br (jv0 (fb1 ib0.toNat) == jv0 (fb1 (i64.wrap (ib0 - 1)).toNat) && (jv1 (fb1 ib0.toNat) == jv1 (fb1 (i64.wrap (ib0 - 1)).toNat) && true)) (.ob (decide (0 <= ib0 /\ ib0 <= (↑n4 : Int))) (.enter (iR 0 3 []) (S63.L5 (1) (ib0.toNat) (n4 - ib0.toNat) (ib0) (jv0 (fb1 (i64.wrap (ib0 - 1)).toNat)) (jv1 (fb1 (i64.wrap (ib0 - 1)).toNat)) ((i64.wrap (ib0 - 1)).toNat) (i64.wrap (ib0 - 1)) (jv0 (fb1 ib0.toNat)) (jv1 (fb1 ib0.toNat)) (ib0) (elV tp2 fb1)) [⟨2, tp2, n4, elV tp2 fb1, vf_view rfl _ _⟩])) (.next (iR 0 3 []) (S63.L1 (i64.wrap (ib0 + 1)) (elV tp2 fb1)) [⟨2, tp2, n4, elV tp2 fb1, vf_view rfl _ _⟩])))))) (.br (decide ((↑n4 : Int) < (↑n4 : Int))) (.ret (vi 2)) (.obi (.obi (.asm ((x3 == 3) = true -> n4 <= 9223372036854775807) (.obi (.obi (.br (bif x3 == 3 then decide (2 < (↑n4 : Int)) else false) (.ret (vi 2)) (.ret (vi 0)))))))))
 | .L2 ic0 fc1 => .br (decide (ic0 < (↑n4 : Int))) (.ob (decide (0 <= ic0 /\ ic0 < (↑n4 : Int) /\ n4 <= n4)) (.ob (decide (ic0.toNat < n4)) (.ob (decide (0 <= i64.wrap (ic0 - 1) /\ i64.wrap (ic0 - 1) < (↑n4 : Int) /\ n4 <= n4)) (.ob (decide ((i64.wrap (ic0 - 1)).toNat < n4)) (.br (jv0 (fc1 ic0.toNat) == jv0 (fc1 (i64.wrap (ic0 - 1)).toNat) && (jv1 (fc1 ic0.toNat) == jv1 (fc1 (i64.wrap (ic0 - 1)).toNat) && true)) (.ob (decide (0 <= ic0 /\ ic0 <= (↑n4 : Int))) (.enter (iR 0 3 []) (S63.L6 (1) (ic0.toNat) (n4 - ic0.toNat) (ic0) (jv0 (fc1 (i64.wrap (ic0 - 1)).toNat)) (jv1 (fc1 (i64.wrap (ic0 - 1)).toNat)) ((i64.wrap (ic0 - 1)).toNat) (i64.wrap (ic0 - 1)) (jv0 (fc1 ic0.toNat)) (jv1 (fc1 ic0.toNat)) (ic0) (elV tp2 fc1)) [⟨2, tp2, n4, elV tp2 fc1, vf_view rfl _ _⟩])) (.next (iR 0 3 []) (S63.L2 (i64.wrap (ic0 + 1)) (elV tp2 fc1)) [⟨2, tp2, n4, elV tp2 fc1, vf_view rfl _ _⟩])))))) (.br (decide ((↑n4 : Int) < (↑n4 : Int))) (.ret (vi 2)) (.obi (.obi (.asm ((x3 == 3) = true -> n4 <= 9223372036854775807) (.obi (.obi (.br (bif x3 == 3 then decide (2 < (↑n4 : Int)) else false) (.ret (vi 2)) (.ret (vi 0)))))))))
 | .L3 id0 fd1 => .br (decide (id0 < (↑n4 : Int))) (.ob (decide (0 <= id0 /\ id0 < (↑n4 : Int) /\ n4 <= n4)) (.ob (decide (id0.toNat < n4)) (.ob (decide (0 <= i64.wrap (id0 - 1) /\ i64.wrap (id0 - 1) < (↑n4 : Int) /\ n4 <= n4)) (.ob (decide ((i64.wrap (id0 - 1)).toNat < n4)) (.br (jv0 (fd1 id0.toNat) == jv0 (fd1 (i64.wrap (id0 - 1)).toNat) && (jv1 (fd1 id0.toNat) == jv1 (fd1 (i64.wrap (id0 - 1)).toNat) && true)) (.ob (decide (0 <= id0 /\ id0 <= (↑n4 : Int))) (.enter (iR 0 3 []) (S63.L7 (1) (id0.toNat) (n4 - id0.toNat) (id0) (jv0 (fd1 (i64.wrap (id0 - 1)).toNat)) (jv1 (fd1 (i64.wrap (id0 - 1)).toNat)) ((i64.wrap (id0 - 1)).toNat) (i64.wrap (id0 - 1)) (jv0 (fd1 id0.toNat)) (jv1 (fd1 id0.toNat)) (id0) (elV tp2 fd1)) [⟨2, tp2, n4, elV tp2 fd1, vf_view rfl _ _⟩])) (.next (iR 0 3 []) (S63.L3 (i64.wrap (id0 + 1)) (elV tp2 fd1)) [⟨2, tp2, n4, elV tp2 fd1, vf_view rfl _ _⟩])))))) (.br (decide ((↑n4 : Int) < (↑n4 : Int))) (.ret (vi 2)) (.obi (.obi (.asm ((x3 == 3) = true -> n4 <= 9223372036854775807) (.obi (.obi (.br (bif x3 == 3 then decide (2 < (↑n4 : Int)) else false) (.ret (vi 2)) (.ret (vi 0)))))))))
 | .L4 ie0 ne1 ne2 ie3 ie4 ie5 ne6 ie7 ie8 ie9 ie10 fe11 => .br (decide (ie0 < (↑ne2 : Int))) (.ob (decide (0 <= ie0 /\ ie0 < (↑ne2 : Int) /\ ne1 + ne2 <= n4)) (.ob (decide (ne1 + ie0.toNat < n4)) (.ob (decide (0 <= i64.wrap (ie0 - 1) /\ i64.wrap (ie0 - 1) < (↑ne2 : Int) /\ ne1 + ne2 <= n4)) (.ob (decide (ne1 + (i64.wrap (ie0 - 1)).toNat < n4)) (.br (!(jv0 (fe11 (ne1 + ie0.toNat)) == jv0 (fe11 (ne1 + (i64.wrap (ie0 - 1)).toNat)) && (jv1 (fe11 (ne1 + ie0.toNat)) == jv1 (fe11 (ne1 + (i64.wrap (ie0 - 1)).toNat)) && true))) (.ob (decide (0 <= ie0 /\ ie0 < (↑ne2 : Int) /\ ne1 + ne2 <= n4)) (.ob (decide (ne1 + ie0.toNat < n4)) (.ob (decide (0 <= ie10 /\ ie10 < (↑n4 : Int) /\ n4 <= n4)) (.ob (decide (ie10.toNat < n4)) (.next (iR 0 3 []) (S63.L4 (i64.wrap (ie0 + 1)) (ne1) (ne2) (ie3) (ie4) (ie5) (ne6) (ie7) (ie8) (ie9) (i64.wrap (ie10 + 1)) (fun i' => bif i'.beq ie10.toNat then [vi (jv0 (fe11 (ne1 + ie0.toNat))), vi (jv1 (fe11 (ne1 + ie0.toNat)))] else elV tp2 fe11 i')) [⟨2, tp2, n4, fun i' => bif i'.beq ie10.toNat then [vi (jv0 (fe11 (ne1 + ie0.toNat))), vi (jv1 (fe11 (ne1 + ie0.toNat)))] else elV tp2 fe11 i', vf_set rfl (vf_view rfl _ _) rfl⟩]))))) (.next (iR 0 3 []) (S63.L4 (i64.wrap (ie0 + 1)) (ne1) (ne2) (ie3) (ie4) (ie5) (ne6) (ie7) (ie8) (ie9) (ie10) (elV tp2 fe11)) [⟨2, tp2, n4, elV tp2 fe11, vf_view rfl _ _⟩])))))) (.ob (decide (0 <= ie10 /\ ie10 <= (↑n4 : Int))) (.ob (decide (0 < n4 - ie10.toNat /\ ie10.toNat + (n4 - ie10.toNat) <= n4)) (.ob (decide (0 <= ie10 /\ ie10 <= (↑n4 : Int))) (.asm (true = true -> n4 <= 9223372036854775807) (.br (decide ((↑ie10.toNat : Int) < (↑n4 : Int))) (.ret (vi 2)) (.obi (.obi (.asm ((x3 == 3) = true -> n4 <= 9223372036854775807) (.obi (.obi (.br (bif x3 == 3 then decide (2 < (↑n4 : Int)) else false) (.ret (vi 2)) (.ret (vi 0)))))))))))))
 | .L5 if0 nf1 nf2 if3 if4 if5 nf6 if7 if8 if9 if10 ff11 => .br (decide (if0 < (↑nf2 : Int))) (.ob (decide (0 <= if0 /\ if0 < (↑nf2 : Int) /\ nf1 + nf2 <= n4)) (.ob (decide (nf1 + if0.toNat < n4)) (.ob (decide (0 <= i64.wrap (if0 - 1) /\ i64.wrap (if0 - 1) < (↑nf2 : Int) /\ nf1 + nf2 <= n4)) (.ob (decide (nf1 + (i64.wrap (if0 - 1)).toNat < n4)) (.br (!(jv0 (ff11 (nf1 + if0.toNat)) == jv0 (ff11 (nf1 + (i64.wrap (if0 - 1)).toNat)) && (jv1 (ff11 (nf1 + if0.toNat)) == jv1 (ff11 (nf1 + (i64.wrap (if0 - 1)).toNat)) && true))) (.ob (decide (0 <= if0 /\ if0 < (↑nf2 : Int) /\ nf1 + nf2 <= n4)) (.ob (decide (nf1 + if0.toNat < n4)) (.ob (decide (0 <= if10 /\ if10 < (↑n4 : Int) /\ n4 <= n4)) (.ob (decide (if10.toNat < n4)) (.next (iR 0 3 []) (S63.L5 (i64.wrap (if0 + 1)) (nf1) (nf2) (if3) (if4) (if5) (nf6) (if7) (if8) (if9) (i64.wrap (if10 + 1)) (fun i' => bif i'.beq if10.toNat then [vi (jv0 (ff11 (nf1 + if0.toNat))), vi (jv1 (ff11 (nf1 + if0.toNat)))] else elV tp2 ff11 i')) [⟨2, tp2, n4, fun i' => bif i'.beq if10.toNat then [vi (jv0 (ff11 (nf1 + if0.toNat))), vi (jv1 (ff11 (nf1 + if0.toNat)))] else elV tp2 ff11 i', vf_set rfl (vf_view rfl _ _) rfl⟩]))))) (.next (iR 0 3 []) (S63.L5 (i64.wrap (if0 + 1)) (nf1) (nf2) (if3) (if4) (if5) (nf6) (if7) (if8) (if9) (if10) (elV tp2 ff11)) [⟨2, tp2, n4, elV tp2 ff11, vf_view rfl _ _⟩])))))) (.ob (decide (0 <= if10 /\ if10 <= (↑n4 : Int))) (.ob (decide (0 < n4 - if10.toNat /\ if10.toNat + (n4 - if10.toNat) <= n4)) (.ob (decide (0 <= if10 /\ if10 <= (↑n4 : Int))) (.br (decide ((↑if10.toNat : Int) < (↑n4 : Int))) (.ret (vi 2)) (.obi (.obi (.asm ((x3 == 3) = true -> n4 <= 9223372036854775807) (.obi (.obi (.br (bif x3 == 3 then decide (2 < (↑n4 : Int)) else false) (.ret (vi 2)) (.ret (vi 0))))))))))))
 | .L6 ig0 ng1 ng2 ig3 ig4 ig5 ng6 ig7 ig8 ig9 ig10 fg11 => .br (decide (ig0 < (↑ng2 : Int))) (.ob (decide (0 <= ig0 /\ ig0 < (↑ng2 : Int) /\ ng1 + ng2 <= n4)) (.ob (decide (ng1 + ig0.toNat < n4)) (.ob (decide (0 <= i64.wrap (ig0 - 1) /\ i64.wrap (ig0 - 1) < (↑ng2 : Int) /\ ng1 + ng2 <= n4)) (.ob (decide (ng1 + (i64.wrap (ig0 - 1)).toNat < n4)) (.br (!(jv0 (fg11 (ng1 + ig0.toNat)) == jv0 (fg11 (ng1 + (i64.wrap (ig0 - 1)).toNat)) && (jv1 (fg11 (ng1 + ig0.toNat)) == jv1 (fg11 (ng1 + (i64.wrap (ig0 - 1)).toNat)) && true))) (.ob (decide (0 <= ig0 /\ ig0 < (↑ng2 : Int) /\ ng1 + ng2 <= n4)) (.ob (decide (ng1 + ig0.toNat < n4)) (.ob (decide (0 <= ig10 /\ ig10 < (↑n4 : Int) /\ n4 <= n4)) (.ob (decide (ig10.toNat < n4)) (.next (iR 0 3 []) (S63.L6 (i64.wrap (ig0 + 1)) (ng1) (ng2) (ig3) (ig4) (ig5) (ng6) (ig7) (ig8) (ig9) (i64.wrap (ig10 + 1)) (fun i' => bif i'.beq ig10.toNat then [vi (jv0 (fg11 (ng1 + ig0.toNat))), vi (jv1 (fg11 (ng1 + ig0.toNat)))] else elV tp2 fg11 i')) [⟨2, tp2, n4, fun i' => bif i'.beq ig10.toNat then [vi (jv0 (fg11 (ng1 + ig0.toNat))), vi (jv1 (fg11 (ng1 + ig0.toNat)))] else elV tp2 fg11 i', vf_set rfl (vf_view rfl _ _) rfl⟩]))))) (.next (iR 0 3 []) (S63.L6 (i64.wrap (ig0 + 1)) (ng1) (ng2) (ig3) (ig4) (ig5) (ng6) (ig7) (ig8) (ig9) (ig10) (elV tp2 fg11)) [⟨2, tp2, n4, elV tp2 fg11, vf_view rfl _ _⟩])))))) (.ob (decide (0 <= ig10 /\ ig10 <= (↑n4 : Int))) (.ob (decide (0 < n4 - ig10.toNat /\ ig10.toNat + (n4 - ig10.toNat) <= n4)) (.ob (decide (0 <= ig10 /\ ig10 <= (↑n4 : Int))) (.br (decide ((↑ig10.toNat : Int) < (↑n4 : Int))) (.ret (vi 2)) (.obi (.obi (.asm ((x3 == 3) = true -> n4 <= 9223372036854775807) (.obi (.obi (.br (bif x3 == 3 then decide (2 < (↑n4 : Int)) else false) (.ret (vi 2)) (.ret (vi 0))))))))))))
 | .L7 ih0 nh1 nh2 ih3 ih4 ih5 nh6 ih7 ih8 ih9 ih10 fh11 => .br (decide (ih0 < (↑nh2 : Int))) (.ob (decide (0 <= ih0 /\ ih0 < (↑nh2 : Int) /\ nh1 + nh2 <= n4)) (.ob (decide (nh1 + ih0.toNat < n4)) (.ob (decide (0 <= i64.wrap (ih0 - 1) /\ i64.wrap (ih0 - 1) < (↑nh2 : Int) /\ nh1 + nh2 <= n4)) (.ob (decide (nh1 + (i64.wrap (ih0 - 1)).toNat < n4)) (.br (!(jv0 (fh11 (nh1 + ih0.toNat)) == jv0 (fh11 (nh1 + (i64.wrap (ih0 - 1)).toNat)) && (jv1 (fh11 (nh1 + ih0.toNat)) == jv1 (fh11 (nh1 + (i64.wrap (ih0 - 1)).toNat)) && true))) (.ob (decide (0 <= ih0 /\ ih0 < (↑nh2 : Int) /\ nh1 + nh2 <= n4)) (.ob (decide (nh1 + ih0.toNat < n4)) (.ob (decide (0 <= ih10 /\ ih10 < (↑n4 : Int) /\ n4 <= n4)) (.ob (decide (ih10.toNat < n4)) (.next (iR 0 3 []) (S63.L7 (i64.wrap (ih0 + 1)) (nh1) (nh2) (ih3) (ih4) (ih5) (nh6) (ih7) (ih8) (ih9) (i64.wrap (ih10 + 1)) (fun i' => bif i'.beq ih10.toNat then [vi (jv0 (fh11 (nh1 + ih0.toNat))), vi (jv1 (fh11 (nh1 + ih0.toNat)))] else elV tp2 fh11 i')) [⟨2, tp2, n4, fun i' => bif i'.beq ih10.toNat then [vi (jv0 (fh11 (nh1 + ih0.toNat))), vi (jv1 (fh11 (nh1 + ih0.toNat)))] else elV tp2 fh11 i', vf_set rfl (vf_view rfl _ _) rfl⟩]))))) (.next (iR 0 3 []) (S63.L7 (i64.wrap (ih0 + 1)) (nh1) (nh2) (ih3) (ih4) (ih5) (nh6) (ih7) (ih8) (ih9) (ih10) (elV tp2 fh11)) [⟨2, tp2, n4, elV tp2 fh11, vf_view rfl _ _⟩])))))) (.ob (decide (0 <= ih10 /\ ih10 <= (↑n4 : Int))) (.ob (decide (0 < n4 - ih10.toNat /\ ih10.toNat + (n4 - ih10.toNat) <= n4)) (.ob (decide (0 <= ih10 /\ ih10 <= (↑n4 : Int))) (.br (decide ((↑ih10.toNat : Int) < (↑n4 : Int))) (.ret (vi 2)) (.obi (.obi (.asm ((x3 == 3) = true -> n4 <= 9223372036854775807) (.obi (.obi (.br (bif x3 == 3 then decide (2 < (↑n4 : Int)) else false) (.ret (vi 2)) (.ret (vi 0))))))))))))
def m63 (n0 : Nat) (f0 : FnV) (s2 : ByteArray) (x3 : Int) (n4 : Nat) (f4 : FnV) (x6 : Int) : RT S63 := .obp (s2.size <= (9223372036854775807 : Nat)) (.obt (.br (!F114_0 s2) (.ret (vi 6)) (.obc (.obt (.br (F90_0 n0 (elV tyR f0) s2) (.ret (vi 5)) (.obc (.obt (.br (F86_0 x3 0 3) (.ret (vi 2)) (.asm (true = true -> n4 <= 9223372036854775807) (.br (decide ((↑n4 : Int) < 2)) (.ret (vi 4)) (.asm (true = true -> n4 <= 9223372036854775807) (.br (decide (8 < (↑n4 : Int))) (.ret (vi 3)) (.obc (.obt (.obi (.br (!F115_0 n4 (elV tp2 f4)) (.ob (!F115_0 n4 (elV tp2 f4)) (.obc (.obt (.br (F86_0 x6 100 30000) (.ret (vi 7)) (.und (.und (.und (.asm (n4 = 0) (.und (.brt (.asm (true = true -> n4 <= 9223372036854775807) (.br (decide (0 < (↑n4 : Int))) (.ret (vi 2)) (.obi (.obi (.asm ((x3 == 3) = true -> n4 <= 9223372036854775807) (.obi (.obi (.br (bif x3 == 3 then decide (2 < (↑n4 : Int)) else false) (.ret (vi 2)) (.ret (vi 0))))))))))) (.asm (true = true -> n4 <= 9223372036854775807) (.brt (.br (decide (0 < (↑n4 : Int))) (.ret (vi 2)) (.obi (.obi (.asm ((x3 == 3) = true -> n4 <= 9223372036854775807) (.obi (.obi (.br (bif x3 == 3 then decide (2 < (↑n4 : Int)) else false) (.ret (vi 2)) (.ret (vi 0))))))))))))) (.obv (allB n4 fun i => okE 2 (elV tp2 f4 i)) (allB_el rfl _ _) (.ob (decide (n4 * 16 <= 140737488355328) && !Nat.beq 16 0) (.und (.br (decide ((↑n4 : Int) < 2)) (.asm (true = true -> n4 <= 9223372036854775807) (.br (decide ((↑n4 : Int) < (↑n4 : Int))) (.ret (vi 2)) (.obi (.obi (.asm ((x3 == 3) = true -> n4 <= 9223372036854775807) (.obi (.obi (.br (bif x3 == 3 then decide (2 < (↑n4 : Int)) else false) (.ret (vi 2)) (.ret (vi 0)))))))))) (.enter (iR 0 3 []) (S63.L0 (1) (elV tp2 f4)) [⟨2, tp2, n4, elV tp2 f4, vf_view rfl _ _⟩])) (.asm (true = true -> n4 <= 9223372036854775807) (.br (decide ((↑n4 : Int) < 2)) (.br (decide ((↑n4 : Int) < (↑n4 : Int))) (.ret (vi 2)) (.obi (.obi (.asm ((x3 == 3) = true -> n4 <= 9223372036854775807) (.obi (.obi (.br (bif x3 == 3 then decide (2 < (↑n4 : Int)) else false) (.ret (vi 2)) (.ret (vi 0))))))))) (.enter (iR 0 3 []) (S63.L1 (1) (elV tp2 f4)) [⟨2, tp2, n4, elV tp2 f4, vf_view rfl _ _⟩]))))))) (.asm (true = true -> n4 <= 9223372036854775807) (.und (.asm (n4 = 0) (.brt (.br (decide (0 < (↑n4 : Int))) (.ret (vi 2)) (.obi (.obi (.asm ((x3 == 3) = true -> n4 <= 9223372036854775807) (.obi (.obi (.br (bif x3 == 3 then decide (2 < (↑n4 : Int)) else false) (.ret (vi 2)) (.ret (vi 0))))))))))) (.obv (allB n4 fun i => okE 2 (elV tp2 f4 i)) (allB_el rfl _ _) (.ob (decide (n4 * 16 <= 140737488355328) && !Nat.beq 16 0) (.br (decide ((↑n4 : Int) < 2)) (.br (decide ((↑n4 : Int) < (↑n4 : Int))) (.ret (vi 2)) (.obi (.obi (.asm ((x3 == 3) = true -> n4 <= 9223372036854775807) (.obi (.obi (.br (bif x3 == 3 then decide (2 < (↑n4 : Int)) else false) (.ret (vi 2)) (.ret (vi 0))))))))) (.enter (iR 0 3 []) (S63.L2 (1) (elV tp2 f4)) [⟨2, tp2, n4, elV tp2 f4, vf_view rfl _ _⟩]))))))) (.asm (true = true -> n4 <= 9223372036854775807) (.und (.asm (n4 = 0) (.brt (.br (decide (0 < (↑n4 : Int))) (.ret (vi 2)) (.obi (.obi (.asm ((x3 == 3) = true -> n4 <= 9223372036854775807) (.obi (.obi (.br (bif x3 == 3 then decide (2 < (↑n4 : Int)) else false) (.ret (vi 2)) (.ret (vi 0))))))))))) (.obv (allB n4 fun i => okE 2 (elV tp2 f4 i)) (allB_el rfl _ _) (.ob (decide (n4 * 16 <= 140737488355328) && !Nat.beq 16 0) (.br (decide ((↑n4 : Int) < 2)) (.br (decide ((↑n4 : Int) < (↑n4 : Int))) (.ret (vi 2)) (.obi (.obi (.asm ((x3 == 3) = true -> n4 <= 9223372036854775807) (.obi (.obi (.br (bif x3 == 3 then decide (2 < (↑n4 : Int)) else false) (.ret (vi 2)) (.ret (vi 0))))))))) (.enter (iR 0 3 []) (S63.L3 (1) (elV tp2 f4)) [⟨2, tp2, n4, elV tp2 f4, vf_view rfl _ _⟩]))))))))))) (.ret (vi 7))))))))))))))))))
theorem run63 (n0 : Nat) (f0 : FnV) (s2 : ByteArray) (x3 : Int) (n4 : Nat) (f4 : FnV) (x6 : Int) : Fits ctB10 u0 (D63 n0 f0 s2 x3 n4 f4 x6) (rl63 n0 f0 s2 x3 n4 f4 x6) (m63 n0 f0 s2 x3 n4 f4 x6) (st63 n0 f0 s2 x3 n4 f4 x6) := ⟨⟨by kernel_rfl, by kernel_rfl⟩, fun s => by cases s <;> exact ⟨by kernel_rfl, by kernel_rfl⟩⟩
def eqP (f : Nat -> List V) (i j : Nat) : Bool := jv0 (f i) == jv0 (f j) && (jv1 (f i) == jv1 (f j) && true)
def adjP (n : Nat) (f : Nat -> List V) : Bool := exB n fun i => decide (0 < i) && eqP f i (i - 1)
def tail63 (x3 : Int) (n4 : Nat) : Int := bif bif x3 == 3 then decide (2 < (n4 : Int)) else false then 2 else 0
def F63 (n0 : Nat) (f0 : FnV) (s2 : ByteArray) (x3 : Int) (n4 : Nat) (f4 : FnV) (x6 : Int) : Int := bif !F114_0 s2 then 6 else bif F90_0 n0 f0 s2 then 5 else bif F86_0 x3 0 3 then 2 else bif decide ((n4 : Int) < 2) then 4 else bif decide (8 < (n4 : Int)) then 3 else bif !!F115_0 n4 f4 then 7 else bif F86_0 x6 100 30000 then 7 else bif adjP n4 f4 then 2 else tail63 x3 n4
theorem tail63_ev {S : Type} {Nx : S -> V -> Prop} {x3 : Int} {n4 : Nat} {q : Prop} : evR Nx (.obi (.obi (.asm q (.obi (.obi (.br (bif x3 == 3 then decide (2 < (n4 : Int)) else false) (.ret (.int .i64 2)) (.ret (.int .i64 0)))))))) (.int .i64 (tail63 x3 n4)) := by
 refine evObi (evObi (evAsm fun _ => evObi (evObi (evBr (fun h => evRet ?_) (fun h => evRet ?_))))) <;> (unfold tail63; rw [h]; rfl)
theorem c63_4 (n0 : Nat) (f0 : FnV) (s2 : ByteArray) (x3 : Int) (n4 : Nat) (f4 : FnV) (x6 : Int) (h8 : n4 <= 8) (k0 : Nat) (hk : 1 <= k0) (hk' : k0 < n4) (t1 t2 t3 : Int) (t4 : Nat) (t5 t6 t7 : Int) : ∀ k2 : Nat, k2 <= n4 - k0 -> 1 <= k2 -> ∀ (k : Nat) (f : Nat -> List V), k + 1 <= k0 + k2 -> Ev (st63 n0 f0 s2 x3 n4 f4 x6) (.L4 k2 k0 (n4 - k0) t1 t2 t3 t4 t5 t6 t7 k f) (.int .i64 2) := by
 refine up_ind fun k2 hk2 ih h1 k f hkk => Ev.of rfl ?_
 have w1 : i64.wrap ((k2 : Int) - 1) = ((k2 - 1 : Nat) : Int) := by rw [wrapI (by omega) (by omega)]; omega
 have w2 : i64.wrap ((k2 : Int) + 1) = ((k2 + 1 : Nat) : Int) := by rw [wrapI (by omega) (by omega)]; omega
 have w3 : i64.wrap ((k : Int) + 1) = ((k + 1 : Nat) : Int) := by rw [wrapI (by omega) (by omega)]; omega
 refine evBr (fun h => ?_) (fun h => ?_)
 ·have hlt : k2 < n4 - k0 := by have := of_decide_eq_true h; omega
  refine evOb (dqt (by omega)) (evOb (dqt (by omega)) (evOb (dqt (by rw [w1]; omega)) (evOb (dqt (by rw [w1]; omega)) (evBr (fun _ => ?_) (fun _ => ?_)))))
  ·refine evOb (dqt (by omega)) (evOb (dqt (by omega)) (evOb (dqt (by omega)) (evOb (dqt (by omega)) (evNext ?_))))
   rw [w2, w3]
   exact ih hlt (by omega) (k + 1) _ (by omega)
  ·refine evNext ?_
   rw [w2]
   exact ih hlt (by omega) k _ (by omega)
 ·have hge : ¬ k2 < n4 - k0 := by have := of_decide_eq_false h; omega
  refine evOb (dqt (by omega)) (evOb (dqt (by omega)) (evOb (dqt (by omega)) ?_))
  try refine evAsm fun _ => ?_
  exact evBrT (dqt (by omega)) (evRet rfl)
theorem c63_0 (n0 : Nat) (f0 : FnV) (s2 : ByteArray) (x3 : Int) (n4 : Nat) (f4 : FnV) (x6 : Int) (h8 : n4 <= 8) (h2 : 2 <= n4) : ∀ i : Nat, i <= n4 -> 1 <= i -> (∀ j, j < i -> (decide (0 < j) && eqP f4 j (j - 1)) = false) -> ∀ f : Nat -> List V, (∀ i j, eqP f i j = eqP f4 i j) -> Ev (st63 n0 f0 s2 x3 n4 f4 x6) (.L0 i f) (.int .i64 (bif adjP n4 f4 then 2 else tail63 x3 n4)) := by
 refine up_ind fun i hi ih h1 hj f hf => Ev.of rfl ?_
 have w1 : i64.wrap ((i : Int) - 1) = ((i - 1 : Nat) : Int) := by rw [wrapI (by omega) (by omega)]; omega
 have w2 : i64.wrap ((i : Int) + 1) = ((i + 1 : Nat) : Int) := by rw [wrapI (by omega) (by omega)]; omega
 refine evBr (fun h => ?_) (fun h => ?_)
 ·have hlt : i < n4 := by have := of_decide_eq_true h; omega
  refine evOb (dqt (by omega)) (evOb (dqt (by omega)) (evOb (dqt (by rw [w1]; omega)) (evOb (dqt (by rw [w1]; omega)) (evBr (fun hb => ?_) (fun hb => ?_)))))
  ·have hb' : eqP f4 i (i - 1) = true := by
    rw [← hf]; rw [w1] at hb; simpa only [Int.toNat_natCast, eqP] using hb
   rw [show adjP n4 f4 = true from exB_true i hlt (by rw [hb']; simp; omega), cond_true]
   refine evOb (dqt (by omega)) (evEnter ?_)
   have := c63_4 n0 f0 s2 x3 n4 f4 x6 h8 i h1 hlt
   simp only [Int.toNat_natCast]
   exact this _ _ _ _ _ _ _ 1 (by omega) (by omega) i _ (by omega)
  ·have hb' : eqP f4 i (i - 1) = false := by
    rw [← hf]; rw [w1] at hb; simpa only [Int.toNat_natCast, eqP] using hb
   refine evNext ?_
   rw [w2]
   refine ih hlt (by omega) (fun j h3 => ?_) _ (fun a b => hf a b)
   by_cases e : j = i
   ·subst e; rw [hb', Bool.and_false]
   ·exact hj j (by omega)
 ·have : i = n4 := by have := of_decide_eq_false h; omega
  subst this
  rw [show adjP i f4 = false from exB_false hj, cond_false]
  try refine evAsm fun _ => ?_
  exact evBrGe tail63_ev
theorem c63_0' (n0 : Nat) (f0 : FnV) (s2 : ByteArray) (x3 : Int) (n4 : Nat) (f4 : FnV) (x6 : Int) (h8 : n4 <= 8) (h2 : 2 <= n4) (f : Nat -> List V) (hf : ∀ i j, eqP f i j = eqP f4 i j) : Ev (st63 n0 f0 s2 x3 n4 f4 x6) (.L0 1 f) (.int .i64 (bif adjP n4 f4 then 2 else tail63 x3 n4)) := c63_0 n0 f0 s2 x3 n4 f4 x6 h8 h2 1 (by omega) (Nat.le_refl _) (fun j hj => by
 have : j = 0 := by omega
 subst this; rfl) f hf
theorem c63_5 (n0 : Nat) (f0 : FnV) (s2 : ByteArray) (x3 : Int) (n4 : Nat) (f4 : FnV) (x6 : Int) (h8 : n4 <= 8) (k0 : Nat) (hk : 1 <= k0) (hk' : k0 < n4) (t1 t2 t3 : Int) (t4 : Nat) (t5 t6 t7 : Int) : ∀ k2 : Nat, k2 <= n4 - k0 -> 1 <= k2 -> ∀ (k : Nat) (f : Nat -> List V), k + 1 <= k0 + k2 -> Ev (st63 n0 f0 s2 x3 n4 f4 x6) (.L5 k2 k0 (n4 - k0) t1 t2 t3 t4 t5 t6 t7 k f) (.int .i64 2) := by
 refine up_ind fun k2 hk2 ih h1 k f hkk => Ev.of rfl ?_
 have w1 : i64.wrap ((k2 : Int) - 1) = ((k2 - 1 : Nat) : Int) := by rw [wrapI (by omega) (by omega)]; omega
 have w2 : i64.wrap ((k2 : Int) + 1) = ((k2 + 1 : Nat) : Int) := by rw [wrapI (by omega) (by omega)]; omega
 have w3 : i64.wrap ((k : Int) + 1) = ((k + 1 : Nat) : Int) := by rw [wrapI (by omega) (by omega)]; omega
 refine evBr (fun h => ?_) (fun h => ?_)
 ·have hlt : k2 < n4 - k0 := by have := of_decide_eq_true h; omega
  refine evOb (dqt (by omega)) (evOb (dqt (by omega)) (evOb (dqt (by rw [w1]; omega)) (evOb (dqt (by rw [w1]; omega)) (evBr (fun _ => ?_) (fun _ => ?_)))))
  ·refine evOb (dqt (by omega)) (evOb (dqt (by omega)) (evOb (dqt (by omega)) (evOb (dqt (by omega)) (evNext ?_))))
   rw [w2, w3]
   exact ih hlt (by omega) (k + 1) _ (by omega)
  ·refine evNext ?_
   rw [w2]
   exact ih hlt (by omega) k _ (by omega)
 ·have hge : ¬ k2 < n4 - k0 := by have := of_decide_eq_false h; omega
  refine evOb (dqt (by omega)) (evOb (dqt (by omega)) (evOb (dqt (by omega)) ?_))
  try refine evAsm fun _ => ?_
  exact evBrT (dqt (by omega)) (evRet rfl)
theorem c63_1 (n0 : Nat) (f0 : FnV) (s2 : ByteArray) (x3 : Int) (n4 : Nat) (f4 : FnV) (x6 : Int) (h8 : n4 <= 8) (h2 : 2 <= n4) : ∀ i : Nat, i <= n4 -> 1 <= i -> (∀ j, j < i -> (decide (0 < j) && eqP f4 j (j - 1)) = false) -> ∀ f : Nat -> List V, (∀ i j, eqP f i j = eqP f4 i j) -> Ev (st63 n0 f0 s2 x3 n4 f4 x6) (.L1 i f) (.int .i64 (bif adjP n4 f4 then 2 else tail63 x3 n4)) := by
 refine up_ind fun i hi ih h1 hj f hf => Ev.of rfl ?_
 have w1 : i64.wrap ((i : Int) - 1) = ((i - 1 : Nat) : Int) := by rw [wrapI (by omega) (by omega)]; omega
 have w2 : i64.wrap ((i : Int) + 1) = ((i + 1 : Nat) : Int) := by rw [wrapI (by omega) (by omega)]; omega
 refine evBr (fun h => ?_) (fun h => ?_)
 ·have hlt : i < n4 := by have := of_decide_eq_true h; omega
  refine evOb (dqt (by omega)) (evOb (dqt (by omega)) (evOb (dqt (by rw [w1]; omega)) (evOb (dqt (by rw [w1]; omega)) (evBr (fun hb => ?_) (fun hb => ?_)))))
  ·have hb' : eqP f4 i (i - 1) = true := by
    rw [← hf]; rw [w1] at hb; simpa only [Int.toNat_natCast, eqP] using hb
   rw [show adjP n4 f4 = true from exB_true i hlt (by rw [hb']; simp; omega), cond_true]
   refine evOb (dqt (by omega)) (evEnter ?_)
   have := c63_5 n0 f0 s2 x3 n4 f4 x6 h8 i h1 hlt
   simp only [Int.toNat_natCast]
   exact this _ _ _ _ _ _ _ 1 (by omega) (by omega) i _ (by omega)
  ·have hb' : eqP f4 i (i - 1) = false := by
    rw [← hf]; rw [w1] at hb; simpa only [Int.toNat_natCast, eqP] using hb
   refine evNext ?_
   rw [w2]
   refine ih hlt (by omega) (fun j h3 => ?_) _ (fun a b => hf a b)
   by_cases e : j = i
   ·subst e; rw [hb', Bool.and_false]
   ·exact hj j (by omega)
 ·have : i = n4 := by have := of_decide_eq_false h; omega
  subst this
  rw [show adjP i f4 = false from exB_false hj, cond_false]
  try refine evAsm fun _ => ?_
  exact evBrGe tail63_ev
theorem c63_1' (n0 : Nat) (f0 : FnV) (s2 : ByteArray) (x3 : Int) (n4 : Nat) (f4 : FnV) (x6 : Int) (h8 : n4 <= 8) (h2 : 2 <= n4) (f : Nat -> List V) (hf : ∀ i j, eqP f i j = eqP f4 i j) : Ev (st63 n0 f0 s2 x3 n4 f4 x6) (.L1 1 f) (.int .i64 (bif adjP n4 f4 then 2 else tail63 x3 n4)) := c63_1 n0 f0 s2 x3 n4 f4 x6 h8 h2 1 (by omega) (Nat.le_refl _) (fun j hj => by
 have : j = 0 := by omega
 subst this; rfl) f hf
theorem c63_6 (n0 : Nat) (f0 : FnV) (s2 : ByteArray) (x3 : Int) (n4 : Nat) (f4 : FnV) (x6 : Int) (h8 : n4 <= 8) (k0 : Nat) (hk : 1 <= k0) (hk' : k0 < n4) (t1 t2 t3 : Int) (t4 : Nat) (t5 t6 t7 : Int) : ∀ k2 : Nat, k2 <= n4 - k0 -> 1 <= k2 -> ∀ (k : Nat) (f : Nat -> List V), k + 1 <= k0 + k2 -> Ev (st63 n0 f0 s2 x3 n4 f4 x6) (.L6 k2 k0 (n4 - k0) t1 t2 t3 t4 t5 t6 t7 k f) (.int .i64 2) := by
 refine up_ind fun k2 hk2 ih h1 k f hkk => Ev.of rfl ?_
 have w1 : i64.wrap ((k2 : Int) - 1) = ((k2 - 1 : Nat) : Int) := by rw [wrapI (by omega) (by omega)]; omega
 have w2 : i64.wrap ((k2 : Int) + 1) = ((k2 + 1 : Nat) : Int) := by rw [wrapI (by omega) (by omega)]; omega
 have w3 : i64.wrap ((k : Int) + 1) = ((k + 1 : Nat) : Int) := by rw [wrapI (by omega) (by omega)]; omega
 refine evBr (fun h => ?_) (fun h => ?_)
 ·have hlt : k2 < n4 - k0 := by have := of_decide_eq_true h; omega
  refine evOb (dqt (by omega)) (evOb (dqt (by omega)) (evOb (dqt (by rw [w1]; omega)) (evOb (dqt (by rw [w1]; omega)) (evBr (fun _ => ?_) (fun _ => ?_)))))
  ·refine evOb (dqt (by omega)) (evOb (dqt (by omega)) (evOb (dqt (by omega)) (evOb (dqt (by omega)) (evNext ?_))))
   rw [w2, w3]
   exact ih hlt (by omega) (k + 1) _ (by omega)
  ·refine evNext ?_
   rw [w2]
   exact ih hlt (by omega) k _ (by omega)
 ·have hge : ¬ k2 < n4 - k0 := by have := of_decide_eq_false h; omega
  refine evOb (dqt (by omega)) (evOb (dqt (by omega)) (evOb (dqt (by omega)) ?_))
  try refine evAsm fun _ => ?_
  exact evBrT (dqt (by omega)) (evRet rfl)
theorem c63_2 (n0 : Nat) (f0 : FnV) (s2 : ByteArray) (x3 : Int) (n4 : Nat) (f4 : FnV) (x6 : Int) (h8 : n4 <= 8) (h2 : 2 <= n4) : ∀ i : Nat, i <= n4 -> 1 <= i -> (∀ j, j < i -> (decide (0 < j) && eqP f4 j (j - 1)) = false) -> ∀ f : Nat -> List V, (∀ i j, eqP f i j = eqP f4 i j) -> Ev (st63 n0 f0 s2 x3 n4 f4 x6) (.L2 i f) (.int .i64 (bif adjP n4 f4 then 2 else tail63 x3 n4)) := by
 refine up_ind fun i hi ih h1 hj f hf => Ev.of rfl ?_
 have w1 : i64.wrap ((i : Int) - 1) = ((i - 1 : Nat) : Int) := by rw [wrapI (by omega) (by omega)]; omega
 have w2 : i64.wrap ((i : Int) + 1) = ((i + 1 : Nat) : Int) := by rw [wrapI (by omega) (by omega)]; omega
 refine evBr (fun h => ?_) (fun h => ?_)
 ·have hlt : i < n4 := by have := of_decide_eq_true h; omega
  refine evOb (dqt (by omega)) (evOb (dqt (by omega)) (evOb (dqt (by rw [w1]; omega)) (evOb (dqt (by rw [w1]; omega)) (evBr (fun hb => ?_) (fun hb => ?_)))))
  ·have hb' : eqP f4 i (i - 1) = true := by
    rw [← hf]; rw [w1] at hb; simpa only [Int.toNat_natCast, eqP] using hb
   rw [show adjP n4 f4 = true from exB_true i hlt (by rw [hb']; simp; omega), cond_true]
   refine evOb (dqt (by omega)) (evEnter ?_)
   have := c63_6 n0 f0 s2 x3 n4 f4 x6 h8 i h1 hlt
   simp only [Int.toNat_natCast]
   exact this _ _ _ _ _ _ _ 1 (by omega) (by omega) i _ (by omega)
  ·have hb' : eqP f4 i (i - 1) = false := by
    rw [← hf]; rw [w1] at hb; simpa only [Int.toNat_natCast, eqP] using hb
   refine evNext ?_
   rw [w2]
   refine ih hlt (by omega) (fun j h3 => ?_) _ (fun a b => hf a b)
   by_cases e : j = i
   ·subst e; rw [hb', Bool.and_false]
   ·exact hj j (by omega)
 ·have : i = n4 := by have := of_decide_eq_false h; omega
  subst this
  rw [show adjP i f4 = false from exB_false hj, cond_false]
  try refine evAsm fun _ => ?_
  exact evBrGe tail63_ev
theorem c63_2' (n0 : Nat) (f0 : FnV) (s2 : ByteArray) (x3 : Int) (n4 : Nat) (f4 : FnV) (x6 : Int) (h8 : n4 <= 8) (h2 : 2 <= n4) (f : Nat -> List V) (hf : ∀ i j, eqP f i j = eqP f4 i j) : Ev (st63 n0 f0 s2 x3 n4 f4 x6) (.L2 1 f) (.int .i64 (bif adjP n4 f4 then 2 else tail63 x3 n4)) := c63_2 n0 f0 s2 x3 n4 f4 x6 h8 h2 1 (by omega) (Nat.le_refl _) (fun j hj => by
 have : j = 0 := by omega
 subst this; rfl) f hf
theorem c63_7 (n0 : Nat) (f0 : FnV) (s2 : ByteArray) (x3 : Int) (n4 : Nat) (f4 : FnV) (x6 : Int) (h8 : n4 <= 8) (k0 : Nat) (hk : 1 <= k0) (hk' : k0 < n4) (t1 t2 t3 : Int) (t4 : Nat) (t5 t6 t7 : Int) : ∀ k2 : Nat, k2 <= n4 - k0 -> 1 <= k2 -> ∀ (k : Nat) (f : Nat -> List V), k + 1 <= k0 + k2 -> Ev (st63 n0 f0 s2 x3 n4 f4 x6) (.L7 k2 k0 (n4 - k0) t1 t2 t3 t4 t5 t6 t7 k f) (.int .i64 2) := by
 refine up_ind fun k2 hk2 ih h1 k f hkk => Ev.of rfl ?_
 have w1 : i64.wrap ((k2 : Int) - 1) = ((k2 - 1 : Nat) : Int) := by rw [wrapI (by omega) (by omega)]; omega
 have w2 : i64.wrap ((k2 : Int) + 1) = ((k2 + 1 : Nat) : Int) := by rw [wrapI (by omega) (by omega)]; omega
 have w3 : i64.wrap ((k : Int) + 1) = ((k + 1 : Nat) : Int) := by rw [wrapI (by omega) (by omega)]; omega
 refine evBr (fun h => ?_) (fun h => ?_)
 ·have hlt : k2 < n4 - k0 := by have := of_decide_eq_true h; omega
  refine evOb (dqt (by omega)) (evOb (dqt (by omega)) (evOb (dqt (by rw [w1]; omega)) (evOb (dqt (by rw [w1]; omega)) (evBr (fun _ => ?_) (fun _ => ?_)))))
  ·refine evOb (dqt (by omega)) (evOb (dqt (by omega)) (evOb (dqt (by omega)) (evOb (dqt (by omega)) (evNext ?_))))
   rw [w2, w3]
   exact ih hlt (by omega) (k + 1) _ (by omega)
  ·refine evNext ?_
   rw [w2]
   exact ih hlt (by omega) k _ (by omega)
 ·have hge : ¬ k2 < n4 - k0 := by have := of_decide_eq_false h; omega
  refine evOb (dqt (by omega)) (evOb (dqt (by omega)) (evOb (dqt (by omega)) ?_))
  try refine evAsm fun _ => ?_
  exact evBrT (dqt (by omega)) (evRet rfl)
theorem c63_3 (n0 : Nat) (f0 : FnV) (s2 : ByteArray) (x3 : Int) (n4 : Nat) (f4 : FnV) (x6 : Int) (h8 : n4 <= 8) (h2 : 2 <= n4) : ∀ i : Nat, i <= n4 -> 1 <= i -> (∀ j, j < i -> (decide (0 < j) && eqP f4 j (j - 1)) = false) -> ∀ f : Nat -> List V, (∀ i j, eqP f i j = eqP f4 i j) -> Ev (st63 n0 f0 s2 x3 n4 f4 x6) (.L3 i f) (.int .i64 (bif adjP n4 f4 then 2 else tail63 x3 n4)) := by
 refine up_ind fun i hi ih h1 hj f hf => Ev.of rfl ?_
 have w1 : i64.wrap ((i : Int) - 1) = ((i - 1 : Nat) : Int) := by rw [wrapI (by omega) (by omega)]; omega
 have w2 : i64.wrap ((i : Int) + 1) = ((i + 1 : Nat) : Int) := by rw [wrapI (by omega) (by omega)]; omega
 refine evBr (fun h => ?_) (fun h => ?_)
 ·have hlt : i < n4 := by have := of_decide_eq_true h; omega
  refine evOb (dqt (by omega)) (evOb (dqt (by omega)) (evOb (dqt (by rw [w1]; omega)) (evOb (dqt (by rw [w1]; omega)) (evBr (fun hb => ?_) (fun hb => ?_)))))
  ·have hb' : eqP f4 i (i - 1) = true := by
    rw [← hf]; rw [w1] at hb; simpa only [Int.toNat_natCast, eqP] using hb
   rw [show adjP n4 f4 = true from exB_true i hlt (by rw [hb']; simp; omega), cond_true]
   refine evOb (dqt (by omega)) (evEnter ?_)
   have := c63_7 n0 f0 s2 x3 n4 f4 x6 h8 i h1 hlt
   simp only [Int.toNat_natCast]
   exact this _ _ _ _ _ _ _ 1 (by omega) (by omega) i _ (by omega)
  ·have hb' : eqP f4 i (i - 1) = false := by
    rw [← hf]; rw [w1] at hb; simpa only [Int.toNat_natCast, eqP] using hb
   refine evNext ?_
   rw [w2]
   refine ih hlt (by omega) (fun j h3 => ?_) _ (fun a b => hf a b)
   by_cases e : j = i
   ·subst e; rw [hb', Bool.and_false]
   ·exact hj j (by omega)
 ·have : i = n4 := by have := of_decide_eq_false h; omega
  subst this
  rw [show adjP i f4 = false from exB_false hj, cond_false]
  try refine evAsm fun _ => ?_
  exact evBrGe tail63_ev
theorem c63_3' (n0 : Nat) (f0 : FnV) (s2 : ByteArray) (x3 : Int) (n4 : Nat) (f4 : FnV) (x6 : Int) (h8 : n4 <= 8) (h2 : 2 <= n4) (f : Nat -> List V) (hf : ∀ i j, eqP f i j = eqP f4 i j) : Ev (st63 n0 f0 s2 x3 n4 f4 x6) (.L3 1 f) (.int .i64 (bif adjP n4 f4 then 2 else tail63 x3 n4)) := c63_3 n0 f0 s2 x3 n4 f4 x6 h8 h2 1 (by omega) (Nat.le_refl _) (fun j hj => by
 have : j = 0 := by omega
 subst this; rfl) f hf
theorem ev63_0 (n0 : Nat) (f0 : FnV) (s2 : ByteArray) (x3 : Int) (n4 : Nat) (f4 : FnV) (x6 : Int) (hp : s2.size <= 9223372036854775807) : evR (Ev (st63 n0 f0 s2 x3 n4 f4 x6)) (m63 n0 f0 s2 x3 n4 f4 x6) (.int .i64 (F63 n0 f0 s2 x3 n4 f4 x6)) := by
 unfold F63
 refine evObp hp (evObt ?_)
 refine evBr (fun h => evRet (by rw [h]; rfl)) (fun h => ?_)
 rw [h, cond_false]
 refine evObc (evObt (evBr (fun h => evRet (by rw [show F90_0 n0 f0 s2 = true from h]; rfl)) (fun h => ?_)))
 rw [show F90_0 n0 f0 s2 = false from h, cond_false]
 refine evObc (evObt (evBr (fun h => evRet (by rw [h]; rfl)) (fun h => ?_)))
 rw [h, cond_false]
 refine evAsm1 fun hn => evBr (fun h => evRet (by rw [h]; rfl)) (fun h2 => ?_)
 rw [h2, cond_false]
 refine evAsm1 fun hn => evBr (fun h => evRet (by rw [h]; rfl)) (fun h8 => ?_)
 rw [h8, cond_false]
 have h2 : 2 <= n4 := by have := of_decide_eq_false h2; omega
 have h8 : n4 <= 8 := by have := of_decide_eq_false h8; omega
 have e2 : decide ((n4 : Int) < 2) = false := dqf (by omega)
 refine evObc (evObt (evObi (evBr (fun h => ?_) (fun h => evRet (by rw [show (!!F115_0 n4 f4) = true from by rw [show (!F115_0 n4 f4) = false from h]; rfl]; rfl)))))
 rw [show (!!F115_0 n4 f4) = false from by rw [show (!F115_0 n4 f4) = true from h]; rfl, cond_false]
 refine evOb h (evObc (evObt (evBr (fun h => evRet (by rw [h]; rfl)) (fun h => ?_))))
 rw [h, cond_false]
 have h16 : (decide (n4 * 16 <= 140737488355328) && !Nat.beq 16 0) = true := by rw [dqt (show n4 * 16 <= 140737488355328 by omega)]; rfl
 have hne : n4 = 0 -> False := by omega
 have hi : ∀ i j, eqP (elV tp2 f4) i j = eqP f4 i j := fun _ _ => rfl
 repeat' (first
  | exact evAsm (fun h0 => (hne h0).elim)
  | exact evEnter (c63_0' _ _ _ _ _ _ _ h8 h2 _ hi)
  | exact evEnter (c63_1' _ _ _ _ _ _ _ h8 h2 _ hi)
  | exact evEnter (c63_2' _ _ _ _ _ _ _ h8 h2 _ hi)
  | exact evEnter (c63_3' _ _ _ _ _ _ _ h8 h2 _ hi)
  | refine evUnd ?_ ?_
  | refine evAsm (fun _ => ?_)
  | refine evObv ?_
  | refine evOb h16 ?_
  | refine evBrF e2 ?_
  | refine evBrF rfl ?_
  | refine evBrT rfl ?_)
theorem ev63 (n0 : Nat) (f0 : FnV) (s2 : ByteArray) (x3 : Int) (n4 : Nat) (f4 : FnV) (x6 : Int) (hp : s2.size <= 9223372036854775807) : evR (Ev (st63 n0 f0 s2 x3 n4 f4 x6)) (m63 n0 f0 s2 x3 n4 f4 x6) (.int .i64 (F63 n0 (elV tyR f0) s2 x3 n4 (elV tp2 f4) x6)) := ev63_0 n0 f0 s2 x3 n4 f4 x6 hp
def C63 : PCon := mkC [.sl tyR, .agg tyR] (fun
 | [.sl n0 f0, .agg [.str s2, .int _ x3, .sl n4 f4, .int _ x6]] => s2.size <= 9223372036854775807
 | _ => False) fun
 | [.sl n0 f0, .agg [.str s2, .int _ x3, .sl n4 f4, .int _ x6]] => .int .i64 (F63 n0 f0 s2 x3 n4 f4 x6)
 | _ => .any
theorem ok63 : (vP C63).Ok Tryz.prog 63 := mkE tabB10 Tryz.func63 (by kernel_rfl) fun ds hp => rfs (run63 ..) (ev63 _ _ _ _ _ _ _ hp)
def m69 (n0 : Nat) (f0 : FnV) (s2 : ByteArray) (x3 x4 x5 x6 x7 : Int) : RT Empty := .obp (s2.size <= (9223372036854775807 : Nat)) (.obt (.br (!F114_0 s2) (.ret (vi 6)) (.obc (.obt (.br (F121_0 n0 (elV tyC f0) s2) (.ret (vi 5)) (.obc (.obt (.obi (.br (!F45_0 2 (elV tp1 (secF [vi x3, vi x4] 0 1))) (.ob (!F45_0 2 (elV tp1 (secF [vi x3, vi x4] 0 1))) (.obc (.obt (.obi (.br (!F86_0 x5 1 200) (.ob (!F86_0 x5 1 200) (.obc (.obt (.obi (.br (!F86_0 x6 (-1000) 1000) (.ob (!F86_0 x6 (-1000) 1000) (.obc (.obt (.br (F86_0 x7 (-1000) 1000) (.ret (vi 7)) (.obi (.obi (.obi (.br (bif x6 == 0 then x7 == 0 else false) (.ret (vi 2)) (.ret (vi 0)))))))))) (.ret (vi 7))))))) (.ret (vi 7))))))) (.ret (vi 7)))))))))))
theorem run69 (n0 : Nat) (f0 : FnV) (s2 : ByteArray) (x3 x4 x5 x6 x7 : Int) : Fit noD (runL JJ ctB10 u0 s69 [V.sl n0 (elV tyC f0), V.agg [V.str s2, vi x3, vi x4, vi x5, vi x6, vi x7]]) (m69 n0 f0 s2 x3 x4 x5 x6 x7) := ⟨by kernel_rfl, by kernel_rfl⟩
def F69_0 (n0 : Nat) (f0 : FnV) (s2 : ByteArray) (x3 x4 x5 x6 x7 : Int) : Int := bif !F114_0 s2 then 6 else bif F121_0 n0 (elV tyC f0) s2 then 5 else bif !F45_0 2 (elV tp1 (secF [vi x3, vi x4] 0 1)) then bif !F86_0 x5 1 200 then bif !F86_0 x6 (-1000) 1000 then bif F86_0 x7 (-1000) 1000 then 7 else bif bif x6 == 0 then x7 == 0 else false then 2 else 0 else 7 else 7 else 7
def R69 (n0 : Nat) (f0 : FnV) (s2 : ByteArray) (x3 x4 x5 x6 x7 : Int) : V := .int i64 (F69_0 n0 f0 s2 x3 x4 x5 x6 x7)
theorem ev69 (n0 : Nat) (f0 : FnV) (s2 : ByteArray) (x3 x4 x5 x6 x7 : Int) (hp : s2.size <= 9223372036854775807) : evR noE (m69 n0 f0 s2 x3 x4 x5 x6 x7) (R69 n0 f0 s2 x3 x4 x5 x6 x7) := evObp (by first | assumption | (exact hp)) (evObt (evBr (fun h0 => evRet (by unfold R69 F69_0; try rw [h0]; rfl)) (fun h0 => evObc (evObt (evBr (fun h1 => evRet (by unfold R69 F69_0; try rw [h0]; try rw [h1]; rfl)) (fun h1 => evObc (evObt (evObi (evBr (fun h2 => evOb (by first | assumption | (fail)) (evObc (evObt (evObi (evBr (fun h3 => evOb (by first | assumption | (fail)) (evObc (evObt (evObi (evBr (fun h4 => evOb (by first | assumption | (fail)) (evObc (evObt (evBr (fun h5 => evRet (by unfold R69 F69_0; try rw [h0]; try rw [h1]; try rw [h2]; try rw [h3]; try rw [h4]; try rw [h5]; rfl)) (fun h5 => evObi (evObi (evObi (evBr (fun h6 => evRet (by unfold R69 F69_0; try rw [h0]; try rw [h1]; try rw [h2]; try rw [h3]; try rw [h4]; try rw [h5]; try rw [h6]; rfl)) (fun h6 => evRet (by unfold R69 F69_0; try rw [h0]; try rw [h1]; try rw [h2]; try rw [h3]; try rw [h4]; try rw [h5]; try rw [h6]; rfl)))))))))) (fun h4 => evRet (by unfold R69 F69_0; try rw [h0]; try rw [h1]; try rw [h2]; try rw [h3]; try rw [h4]; rfl))))))) (fun h3 => evRet (by unfold R69 F69_0; try rw [h0]; try rw [h1]; try rw [h2]; try rw [h3]; rfl))))))) (fun h2 => evRet (by unfold R69 F69_0; try rw [h0]; try rw [h1]; try rw [h2]; rfl)))))))))))
def C69 : PCon := mkC [.sl tyC, .agg tyC] (fun
 | [.sl n0 f0, .agg [.str s2, .int _ x3, .int _ x4, .int _ x5, .int _ x6, .int _ x7]] => s2.size <= 9223372036854775807
 | _ => False) fun
 | [.sl n0 f0, .agg [.str s2, .int _ x3, .int _ x4, .int _ x5, .int _ x6, .int _ x7]] => R69 n0 f0 s2 x3 x4 x5 x6 x7
 | _ => .any
theorem ok69 : (vP C69).Ok Tryz.prog 69 := mkE tabB10 Tryz.func69 (by kernel_rfl) fun ds hp => rf0 (run69 ..) (ev69 _ _ _ _ _ _ _ _ hp)
noncomputable section
def ctB11 : CTab := (63, .con C63) :: (69, .con C69) :: ctB10
theorem tabB11 : TabOk Tryz.prog eqs its ctB11 := .con ok63 (.con ok69 (tabB10))
def ptOk (x y : Int) : Bool := F51 2 (elV tp1 (secF [V.int .i64 x, V.int .i64 y] 0 ((1 + 1 - 0) / 2)))
def roadE (k : Int) (n : Nat) (f : Nat -> List V) (h : Int) : Int := bif !F71_0 k 0 3 then 2 else bif decide ((n : Int) < 2) then 4 else bif decide (8 < (n : Int)) then 3 else bif exB n (fun i => !ptOk (jv0 (f i)) (jv1 (f i))) then 7 else bif !F71_0 h 100 30000 then 7 else bif adjP n f then 2 else tail63 k n
def F70 (n0 : Nat) (f0 : FnV) (x8 : Int) : Int := bif !F122 (sv (hdV (f0 x8.toNat))) then 6 else bif exB x8.toNat (fun k => (sv (hdV (f0 k))).toList == (sv (hdV (f0 x8.toNat))).toList) then 5 else roadE (jv1 (f0 x8.toNat)) (lenV (hdV (tlV (tlV (f0 x8.toNat))))) (atV (hdV (tlV (tlV (f0 x8.toNat))))) (jv3 (f0 x8.toNat))
inductive S62 where
 | L0 (ia0 : Int)
def inv62 (n0 : Nat) (f0 : FnV) : S62 -> Env × List O × Option Ex
 | .L0 ia0 => ([(11, vi ia0), (10, vi (↑n0 : Int)), (9, V.sl n0 (elV tyR f0)), (5, vi 0), (4, vi 0), (0, V.sl n0 (elV tyR f0)), (1, V.fn 63 [] [])], [], none)
def id62 : S62 -> JJ
 | .L0 ia0 => (0, [])
def rl62 (n0 : Nat) (f0 : FnV) : T (Leaf JJ) := runL JJ ctB11 u0 s62 [V.sl n0 (elV tyR f0), V.fn 63 [] []]
def lp62_0 (n0 : Nat) (f0 : FnV) (cx : List Cx) : Lp JJ := lpT (atT (rl62 n0 f0) [])
def lp62 (n0 : Nat) (f0 : FnV) : JJ -> Lp JJ
 | (0, cx) => lp62_0 n0 f0 cx
 | (_, cx) => lp62_0 n0 f0 cx
def D62 (n0 : Nat) (f0 : FnV) : LD JJ S62 := ⟨id62, lp62 n0 f0, inv62 n0 f0⟩
def st62 (n0 : Nat) (f0 : FnV) : S62 -> RT S62
 | .L0 ia0 => .br (decide (ia0 < (↑n0 : Int))) (.ob (decide (0 <= ia0 /\ ia0 < (↑n0 : Int))) (.ob (decide (0 <= ia0 /\ ia0 <= (↑n0 : Int))) (.obp ((sv (hdV (f0 ia0.toNat))).size <= (9223372036854775807 : Nat)) (.obt (.br (F63 (ia0.toNat - 0) (fun i => elV tyR f0 (0 + i)) (sv (hdV (f0 ia0.toNat))) (jv1 (f0 ia0.toNat)) (lenV (hdV (tlV (tlV (f0 ia0.toNat))))) (fun i => views tp2 (atV (hdV (tlV (tlV (f0 ia0.toNat)))) i)) (jv3 (f0 ia0.toNat)) != 0) (.ret (V.tup [vi ia0, vi (F63 (ia0.toNat - 0) (fun i => elV tyR f0 (0 + i)) (sv (hdV (f0 ia0.toNat))) (jv1 (f0 ia0.toNat)) (lenV (hdV (tlV (tlV (f0 ia0.toNat))))) (fun i => views tp2 (atV (hdV (tlV (tlV (f0 ia0.toNat)))) i)) (jv3 (f0 ia0.toNat)))])) (.next [] (S62.L0 (i64.wrap (ia0 + 1))) [])))))) (.ret (V.tup [vi 0, vi 0]))
def m62 (n0 : Nat) (f0 : FnV) : RT S62 := .asm (true = true -> n0 <= 9223372036854775807) (.enter [] (S62.L0 (0)) [])
theorem run62 (n0 : Nat) (f0 : FnV) : Fits ctB11 u0 (D62 n0 f0) (rl62 n0 f0) (m62 n0 f0) (st62 n0 f0) := ⟨⟨by kernel_rfl, by kernel_rfl⟩, fun s => by cases s <;> exact ⟨by kernel_rfl, by kernel_rfl⟩⟩
def c62 (n0 : Nat) (f0 : FnV) (ii : Nat) : Int := (F63 (ii - 0) (fun i => elV tyR f0 (0 + i)) (sv (hdV (f0 ii))) (jv1 (f0 ii)) (lenV (hdV (tlV (tlV (f0 ii))))) (fun i => views tp2 (atV (hdV (tlV (tlV (f0 ii)))) i)) (jv3 (f0 ii)))
def F62_0 (n0 : Nat) (f0 : FnV) : Int := firstI n0 (c62 n0 f0)
def F62_1 (n0 : Nat) (f0 : FnV) : Int := firstE n0 (c62 n0 f0)
theorem ev62_0 (n0 : Nat) (f0 : FnV) (hp : SzOk n0 f0) : evR (Ev (st62 n0 f0)) (m62 n0 f0) (.tup [.int .i64 (F62_0 n0 f0), .int .i64 (F62_1 n0 f0)]) := evAsm1 fun hn => evEnter (first_ev (Q := fun i => (sv (hdV (f0 i))).size <= 9223372036854775807) (fun i x => .obp ((sv (hdV (f0 i))).size <= 9223372036854775807) (.obt x)) (fun i x r h hx => evObp h (evObt hx)) (fun _ _ => rfl) hn hp fun i => rfl)
theorem ev62 (n0 : Nat) (f0 : FnV) (hp : SzOk n0 (elV tyR f0)) : evR (Ev (st62 n0 f0)) (m62 n0 f0) (.tup [.int .i64 (F62_0 n0 (elV tyR f0)), .int .i64 (F62_1 n0 (elV tyR f0))]) := ev62_0 n0 f0 hp
def C62 : PCon := mkC [.sl tyR, .fn 63 [] []] (fun
 | [.sl n0 f0, .fn _ [] []] => SzOk n0 f0
 | _ => False) fun
 | [.sl n0 f0, .fn _ [] []] => .tup [.int .i64 (F62_0 n0 f0), .int .i64 (F62_1 n0 f0)]
 | _ => .any
theorem ok62 : (vP C62).Ok Tryz.prog 62 := mkE tabB11 Tryz.func62 (by kernel_rfl) fun ds hp => rfs (run62 ..) (ev62 _ _ hp)
inductive S68 where
 | L0 (ia0 : Int)
def inv68 (n0 : Nat) (f0 : FnV) : S68 -> Env × List O × Option Ex
 | .L0 ia0 => ([(11, vi ia0), (10, vi (↑n0 : Int)), (9, V.sl n0 (elV tyC f0)), (5, vi 0), (4, vi 0), (0, V.sl n0 (elV tyC f0)), (1, V.fn 69 [] [])], [], none)
def id68 : S68 -> JJ
 | .L0 ia0 => (0, [])
def rl68 (n0 : Nat) (f0 : FnV) : T (Leaf JJ) := runL JJ ctB11 u0 s68 [V.sl n0 (elV tyC f0), V.fn 69 [] []]
def lp68_0 (n0 : Nat) (f0 : FnV) (cx : List Cx) : Lp JJ := lpT (atT (rl68 n0 f0) [])
def lp68 (n0 : Nat) (f0 : FnV) : JJ -> Lp JJ
 | (0, cx) => lp68_0 n0 f0 cx
 | (_, cx) => lp68_0 n0 f0 cx
def D68 (n0 : Nat) (f0 : FnV) : LD JJ S68 := ⟨id68, lp68 n0 f0, inv68 n0 f0⟩
def st68 (n0 : Nat) (f0 : FnV) : S68 -> RT S68
 | .L0 ia0 => .br (decide (ia0 < (↑n0 : Int))) (.ob (decide (0 <= ia0 /\ ia0 < (↑n0 : Int))) (.ob (decide (0 <= ia0 /\ ia0 <= (↑n0 : Int))) (.obp ((sv (hdV (f0 ia0.toNat))).size <= (9223372036854775807 : Nat)) (.obt (.br (F69_0 (ia0.toNat - 0) (fun i => elV tyC f0 (0 + i)) (sv (hdV (f0 ia0.toNat))) (jv1 (f0 ia0.toNat)) (jv2 (f0 ia0.toNat)) (jv3 (f0 ia0.toNat)) (jv4 (f0 ia0.toNat)) (jv5 (f0 ia0.toNat)) != 0) (.ret (V.tup [vi ia0, vi (F69_0 (ia0.toNat - 0) (fun i => elV tyC f0 (0 + i)) (sv (hdV (f0 ia0.toNat))) (jv1 (f0 ia0.toNat)) (jv2 (f0 ia0.toNat)) (jv3 (f0 ia0.toNat)) (jv4 (f0 ia0.toNat)) (jv5 (f0 ia0.toNat)))])) (.next [] (S68.L0 (i64.wrap (ia0 + 1))) [])))))) (.ret (V.tup [vi 0, vi 0]))
def m68 (n0 : Nat) (f0 : FnV) : RT S68 := .asm (true = true -> n0 <= 9223372036854775807) (.enter [] (S68.L0 (0)) [])
theorem run68 (n0 : Nat) (f0 : FnV) : Fits ctB11 u0 (D68 n0 f0) (rl68 n0 f0) (m68 n0 f0) (st68 n0 f0) := ⟨⟨by kernel_rfl, by kernel_rfl⟩, fun s => by cases s <;> exact ⟨by kernel_rfl, by kernel_rfl⟩⟩
def c68 (n0 : Nat) (f0 : FnV) (ii : Nat) : Int := (F69_0 (ii - 0) (fun i => elV tyC f0 (0 + i)) (sv (hdV (f0 ii))) (jv1 (f0 ii)) (jv2 (f0 ii)) (jv3 (f0 ii)) (jv4 (f0 ii)) (jv5 (f0 ii)))
def F68_0 (n0 : Nat) (f0 : FnV) : Int := firstI n0 (c68 n0 f0)
def F68_1 (n0 : Nat) (f0 : FnV) : Int := firstE n0 (c68 n0 f0)
theorem ev68_0 (n0 : Nat) (f0 : FnV) (hp : SzOk n0 f0) : evR (Ev (st68 n0 f0)) (m68 n0 f0) (.tup [.int .i64 (F68_0 n0 f0), .int .i64 (F68_1 n0 f0)]) := evAsm1 fun hn => evEnter (first_ev (Q := fun i => (sv (hdV (f0 i))).size <= 9223372036854775807) (fun i x => .obp ((sv (hdV (f0 i))).size <= 9223372036854775807) (.obt x)) (fun i x r h hx => evObp h (evObt hx)) (fun _ _ => rfl) hn hp fun i => rfl)
theorem ev68 (n0 : Nat) (f0 : FnV) (hp : SzOk n0 (elV tyC f0)) : evR (Ev (st68 n0 f0)) (m68 n0 f0) (.tup [.int .i64 (F68_0 n0 (elV tyC f0)), .int .i64 (F68_1 n0 (elV tyC f0))]) := ev68_0 n0 f0 hp
def C68 : PCon := mkC [.sl tyC, .fn 69 [] []] (fun
 | [.sl n0 f0, .fn _ [] []] => SzOk n0 f0
 | _ => False) fun
 | [.sl n0 f0, .fn _ [] []] => .tup [.int .i64 (F68_0 n0 f0), .int .i64 (F68_1 n0 f0)]
 | _ => .any
theorem ok68 : (vP C68).Ok Tryz.prog 68 := mkE tabB11 Tryz.func68 (by kernel_rfl) fun ds hp => rfs (run68 ..) (ev68 _ _ hp)
end
noncomputable section
def ctB12 : CTab := (62, .con C62) :: (68, .con C68) :: ctB11
theorem tabB12 : TabOk Tryz.prog eqs its ctB12 := .con ok62 (.con ok68 (tabB11))
def treeE (x y a z w : Int) : Int := bif !!ptOk x y then (bif (bif bif bif !F71_0 a 1 20000 then true else decide (z < 0) then true else decide (w <= z) then true else decide (1000 < w)) then 7 else 0) else 7
def r24 (n : Nat) (c : Nat -> Int) (k : Int) (z : Int × Int × Int) : Int × Int × Int := bif firstE n c != 0 then (k, firstI n c, firstE n c) else z
def cR (n0 : Nat) (f0 : FnV) (i : Nat) : Int := F70 n0 (elV tyR f0) (i : Int)
def cT (f2 : FnV) (i : Nat) : Int := treeE (jv0 (f2 i)) (jv1 (f2 i)) (jv2 (f2 i)) (jv3 (f2 i)) (jv4 (f2 i))
def cF (f4 : FnV) (i : Nat) : Int := F72 (jv0 (f4 i)) (jv1 (f4 i)) (jv2 (f4 i)) (jv3 (f4 i)) (lenV (hdV (tlV (tlV (tlV (tlV (f4 i))))))) fun j => views tp4 (atV (hdV (tlV (tlV (tlV (tlV (f4 i)))))) j)
def cC (n6 : Nat) (f6 : FnV) (i : Nat) : Int := F73 n6 (elV tyC f6) (i : Int)
def z3 (n6 : Nat) (f6 : FnV) : Int × Int × Int := r24 n6 (cC n6 f6) 4 (0, 0, 0)
def z2 (n4 : Nat) (f4 : FnV) (n6 : Nat) (f6 : FnV) : Int × Int × Int := r24 n4 (cF f4) 3 (z3 n6 f6)
def z1 (n2 : Nat) (f2 : FnV) (n4 : Nat) (f4 : FnV) (n6 : Nat) (f6 : FnV) : Int × Int × Int := r24 n2 (cT f2) 2 (z2 n4 f4 n6 f6)
def long (n0 : Nat) (f0 : FnV) (n2 : Nat) (f2 : FnV) (n4 : Nat) (f4 : FnV) (n6 : Nat) (f6 : FnV) : Bool := bif bif bif decide (8 < (n0 : Int)) then true else decide (12 < (n2 : Int)) then true else decide (8 < (n4 : Int)) then true else decide (24 < (n6 : Int))
def F24 (n0 : Nat) (f0 : FnV) (n2 : Nat) (f2 : FnV) (n4 : Nat) (f4 : FnV) (n6 : Nat) (f6 : FnV) : Int × Int × Int := bif long n0 f0 n2 f2 n4 f4 n6 f6 then (0, 0, 3) else r24 n0 (cR n0 f0) 1 (z1 n2 f2 n4 f4 n6 f6)
def F24_2 (n0 : Nat) (f0 : FnV) (n2 : Nat) (f2 : FnV) (n4 : Nat) (f4 : FnV) (n6 : Nat) (f6 : FnV) : Int := (F24 n0 f0 n2 f2 n4 f4 n6 f6).2.2
def m23 (n0 : Nat) (f0 : FnV) (n2 : Nat) (f2 : FnV) (n4 : Nat) (f4 : FnV) (n6 : Nat) (f6 : FnV) : RT Empty := .asm (true = true -> n0 <= 9223372036854775807) (.obi (.obi (.asm ((!decide (8 < (↑n0 : Int))) = true -> n2 <= 9223372036854775807) (.obi (.obi (.obi (.obi (.asm ((!bif decide (8 < (↑n0 : Int)) then true else decide (12 < (↑n2 : Int))) = true -> n4 <= 9223372036854775807) (.obi (.obi (.obi (.obi (.asm ((!bif bif decide (8 < (↑n0 : Int)) then true else decide (12 < (↑n2 : Int)) then true else decide (8 < (↑n4 : Int))) = true -> n6 <= 9223372036854775807) (.obi (.obi (.br (bif bif bif decide (8 < (↑n0 : Int)) then true else decide (12 < (↑n2 : Int)) then true else decide (8 < (↑n4 : Int)) then true else decide (24 < (↑n6 : Int))) (.ret (V.tup [vi 0, vi 0, vi 3])) (.obp (∀ (i : Nat), i < n0 -> (sv (hdV (f0 i))).size <= (9223372036854775807 : Nat)) (.obt (.br (F62_1 n0 (elV tyR f0) != 0) (.ret (V.tup [vi 1, vi (F62_0 n0 (elV tyR f0)), vi (F62_1 n0 (elV tyR f0))])) (.obc (.obt (.br (F64_1 n2 (elV tyT f2) != 0) (.ret (V.tup [vi 2, vi (F64_0 n2 (elV tyT f2)), vi (F64_1 n2 (elV tyT f2))])) (.obc (.obt (.br (F66_1 n4 (elV tyF f4) != 0) (.ret (V.tup [vi 3, vi (F66_0 n4 (elV tyF f4)), vi (F66_1 n4 (elV tyF f4))])) (.obp (∀ (i : Nat), i < n6 -> (sv (hdV (f6 i))).size <= (9223372036854775807 : Nat)) (.obt (.br (F68_1 n6 (elV tyC f6) != 0) (.ret (V.tup [vi 4, vi (F68_0 n6 (elV tyC f6)), vi (F68_1 n6 (elV tyC f6))])) (.ret (V.tup [vi 0, vi 0, vi 0]))))))))))))))))))))))))))))))
theorem run23 (n0 : Nat) (f0 : FnV) (n2 : Nat) (f2 : FnV) (n4 : Nat) (f4 : FnV) (n6 : Nat) (f6 : FnV) : Fit noD (runL JJ ctB12 u0 s23 [scV n0 f0 n2 f2 n4 f4 n6 f6]) (m23 n0 f0 n2 f2 n4 f4 n6 f6) := ⟨by kernel_rfl, by kernel_rfl⟩
def F23_0 (n0 : Nat) (f0 : FnV) (n2 : Nat) (f2 : FnV) (n4 : Nat) (f4 : FnV) (n6 : Nat) (f6 : FnV) : Int := bif bif bif bif decide (8 < (↑n0 : Int)) then true else decide (12 < (↑n2 : Int)) then true else decide (8 < (↑n4 : Int)) then true else decide (24 < (↑n6 : Int)) then 0 else bif F62_1 n0 (elV tyR f0) != 0 then 1 else bif F64_1 n2 (elV tyT f2) != 0 then 2 else bif F66_1 n4 (elV tyF f4) != 0 then 3 else bif F68_1 n6 (elV tyC f6) != 0 then 4 else 0
def F23_1 (n0 : Nat) (f0 : FnV) (n2 : Nat) (f2 : FnV) (n4 : Nat) (f4 : FnV) (n6 : Nat) (f6 : FnV) : Int := bif bif bif bif decide (8 < (↑n0 : Int)) then true else decide (12 < (↑n2 : Int)) then true else decide (8 < (↑n4 : Int)) then true else decide (24 < (↑n6 : Int)) then 0 else bif F62_1 n0 (elV tyR f0) != 0 then F62_0 n0 (elV tyR f0) else bif F64_1 n2 (elV tyT f2) != 0 then F64_0 n2 (elV tyT f2) else bif F66_1 n4 (elV tyF f4) != 0 then F66_0 n4 (elV tyF f4) else bif F68_1 n6 (elV tyC f6) != 0 then F68_0 n6 (elV tyC f6) else 0
def F23_2 (n0 : Nat) (f0 : FnV) (n2 : Nat) (f2 : FnV) (n4 : Nat) (f4 : FnV) (n6 : Nat) (f6 : FnV) : Int := bif bif bif bif decide (8 < (↑n0 : Int)) then true else decide (12 < (↑n2 : Int)) then true else decide (8 < (↑n4 : Int)) then true else decide (24 < (↑n6 : Int)) then 3 else bif F62_1 n0 (elV tyR f0) != 0 then F62_1 n0 (elV tyR f0) else bif F64_1 n2 (elV tyT f2) != 0 then F64_1 n2 (elV tyT f2) else bif F66_1 n4 (elV tyF f4) != 0 then F66_1 n4 (elV tyF f4) else bif F68_1 n6 (elV tyC f6) != 0 then F68_1 n6 (elV tyC f6) else 0
def R23 (n0 : Nat) (f0 : FnV) (n2 : Nat) (f2 : FnV) (n4 : Nat) (f4 : FnV) (n6 : Nat) (f6 : FnV) : V := .tup [.int i64 (F23_0 n0 f0 n2 f2 n4 f4 n6 f6), .int i64 (F23_1 n0 f0 n2 f2 n4 f4 n6 f6), .int i64 (F23_2 n0 f0 n2 f2 n4 f4 n6 f6)]
theorem ev23 (n0 : Nat) (f0 : FnV) (n2 : Nat) (f2 : FnV) (n4 : Nat) (f4 : FnV) (n6 : Nat) (f6 : FnV) (hp : SzOk n0 f0 /\ SzOk n6 f6) : evR noE (m23 n0 f0 n2 f2 n4 f4 n6 f6) (R23 n0 f0 n2 f2 n4 f4 n6 f6) := evAsm (fun a0 => evObi (evObi (evAsm (fun a0 => evObi (evObi (evObi (evObi (evAsm (fun a0 => evObi (evObi (evObi (evObi (evAsm (fun a0 => evObi (evObi (evBr (fun h0 => evRet (by unfold R23 F23_0 F23_1 F23_2; try rw [h0]; rfl)) (fun h0 => evObp (by first | assumption | ((first | exact hp.1 | exact hp.2))) (evObt (evBr (fun h1 => evRet (by unfold R23 F23_0 F23_1 F23_2; try rw [h0]; try rw [h1]; rfl)) (fun h1 => evObc (evObt (evBr (fun h2 => evRet (by unfold R23 F23_0 F23_1 F23_2; try rw [h0]; try rw [h1]; try rw [h2]; rfl)) (fun h2 => evObc (evObt (evBr (fun h3 => evRet (by unfold R23 F23_0 F23_1 F23_2; try rw [h0]; try rw [h1]; try rw [h2]; try rw [h3]; rfl)) (fun h3 => evObp (by first | assumption | ((first | exact hp.1 | exact hp.2))) (evObt (evBr (fun h4 => evRet (by unfold R23 F23_0 F23_1 F23_2; try rw [h0]; try rw [h1]; try rw [h2]; try rw [h3]; try rw [h4]; rfl)) (fun h4 => evRet (by unfold R23 F23_0 F23_1 F23_2; try rw [h0]; try rw [h1]; try rw [h2]; try rw [h3]; try rw [h4]; rfl))))))))))))))))))))))))))))))
def C23 : PCon := mkC [.agg [.sl tyR, .sl tyT, .sl tyF, .sl tyC]] (fun
 | [.agg [.sl n0 f0, .sl n2 f2, .sl n4 f4, .sl n6 f6]] => SzOk n0 f0 /\ SzOk n6 f6
 | _ => False) fun
 | [.agg [.sl n0 f0, .sl n2 f2, .sl n4 f4, .sl n6 f6]] => R23 n0 f0 n2 f2 n4 f4 n6 f6
 | _ => .any
theorem ok23 : (vP C23).Ok Tryz.prog 23 := mkE tabB12 Tryz.func23 (by kernel_rfl) fun ds hp => rf0 (run23 ..) (ev23 _ _ _ _ _ _ _ _ hp)
end
noncomputable section
def ctB13 : CTab := (23, .con C23) :: ctB12
theorem tabB13 : TabOk Tryz.prog eqs its ctB13 := .con ok23 (tabB12)
inductive S44 where
 | L0 (ia0 ia1 : Int)
def inv44 (n0 : Nat) (f0 : FnV) (n2 : Nat) (f2 : FnV) (n4 : Nat) (f4 : FnV) (n6 : Nat) (f6 : FnV) (n8 : Nat) (f8 : FnV) : S44 -> Env × List O × Option Ex
 | .L0 ia0 ia1 => ([(8, vi ia0), (7, vi ia1), (6, vi (F23_1 n0 (elV tyR f0) n2 (elV tyT f2) n4 (elV tyF f4) n6 (elV tyC f6))), (5, vi (F23_0 n0 (elV tyR f0) n2 (elV tyT f2) n4 (elV tyF f4) n6 (elV tyC f6))), (14, vi (F23_2 n0 (elV tyR f0) n2 (elV tyT f2) n4 (elV tyF f4) n6 (elV tyC f6))), (13, vi (F23_1 n0 (elV tyR f0) n2 (elV tyT f2) n4 (elV tyF f4) n6 (elV tyC f6))), (12, vi (F23_0 n0 (elV tyR f0) n2 (elV tyT f2) n4 (elV tyF f4) n6 (elV tyC f6))), (9, V.tup [vi (F23_0 n0 (elV tyR f0) n2 (elV tyT f2) n4 (elV tyF f4) n6 (elV tyC f6)), vi (F23_1 n0 (elV tyR f0) n2 (elV tyT f2) n4 (elV tyF f4) n6 (elV tyC f6)), vi (F23_2 n0 (elV tyR f0) n2 (elV tyT f2) n4 (elV tyF f4) n6 (elV tyC f6))]), (11, V.tup [vi (F23_0 n0 (elV tyR f0) n2 (elV tyT f2) n4 (elV tyF f4) n6 (elV tyC f6)), vi (F23_1 n0 (elV tyR f0) n2 (elV tyT f2) n4 (elV tyF f4) n6 (elV tyC f6)), vi (F23_2 n0 (elV tyR f0) n2 (elV tyT f2) n4 (elV tyF f4) n6 (elV tyC f6))]), (10, scV n0 f0 n2 f2 n4 f4 n6 f6), (4, vi 0), (2, V.pl 0 0), (0, scV n0 f0 n2 f2 n4 f4 n6 f6), (1, V.sl n8 (elV tp1 f8))], [O.cells [V.sl n0 (elV tyR f0), V.sl n2 (elV tyT f2), V.sl n4 (elV tyF f4), V.sl n6 (elV tyC f6)] 27], none)
def id44 : S44 -> JJ
 | .L0 ia0 ia1 => (0, [])
def rl44 (n0 : Nat) (f0 : FnV) (n2 : Nat) (f2 : FnV) (n4 : Nat) (f4 : FnV) (n6 : Nat) (f6 : FnV) (n8 : Nat) (f8 : FnV) : T (Leaf JJ) := runL JJ ctB13 u0 s44 [scV n0 f0 n2 f2 n4 f4 n6 f6, V.sl n8 (elV tp1 f8)]
def lp44_0 (n0 : Nat) (f0 : FnV) (n2 : Nat) (f2 : FnV) (n4 : Nat) (f4 : FnV) (n6 : Nat) (f6 : FnV) (n8 : Nat) (f8 : FnV) (cx : List Cx) : Lp JJ := lpT (atT (rl44 n0 f0 n2 f2 n4 f4 n6 f6 n8 f8) [])
def lp44 (n0 : Nat) (f0 : FnV) (n2 : Nat) (f2 : FnV) (n4 : Nat) (f4 : FnV) (n6 : Nat) (f6 : FnV) (n8 : Nat) (f8 : FnV) : JJ -> Lp JJ
 | (0, cx) => lp44_0 n0 f0 n2 f2 n4 f4 n6 f6 n8 f8 cx
 | (_, cx) => lp44_0 n0 f0 n2 f2 n4 f4 n6 f6 n8 f8 cx
def D44 (n0 : Nat) (f0 : FnV) (n2 : Nat) (f2 : FnV) (n4 : Nat) (f4 : FnV) (n6 : Nat) (f6 : FnV) (n8 : Nat) (f8 : FnV) : LD JJ S44 := ⟨id44, lp44 n0 f0 n2 f2 n4 f4 n6 f6 n8 f8, inv44 n0 f0 n2 f2 n4 f4 n6 f6 n8 f8⟩
def st44 (n0 : Nat) (f0 : FnV) (n2 : Nat) (f2 : FnV) (n4 : Nat) (f4 : FnV) (n6 : Nat) (f6 : FnV) (n8 : Nat) (f8 : FnV) : S44 -> RT S44
 | .L0 ia0 ia1 => .asm (true = true -> n8 <= 9223372036854775807) (.obi (.obi (.br (bif decide (ia0 < (↑n8 : Int)) then ia1 == 0 else false) (.ob (decide (0 <= ia0 /\ ia0 < (↑n8 : Int))) (.ob (decide (0 <= i64.wrap (ia0 + 1) /\ i64.wrap (ia0 + 1) < (↑n8 : Int))) (.obc (.obt (.br (F86_0 (jv0 (f8 ia0.toNat)) 0 (i64.wrap (jv0 (f8 (i64.wrap (ia0 + 1)).toNat) - 1))) (.next [some (some 0)] (S44.L0 (i64.wrap (ia0 + 2)) (4)) []) (.next [some (some 0)] (S44.L0 (i64.wrap (ia0 + 2)) (ia1)) [])))))) (.ret (vi ia1)))))
def m44 (n0 : Nat) (f0 : FnV) (n2 : Nat) (f2 : FnV) (n4 : Nat) (f4 : FnV) (n6 : Nat) (f6 : FnV) (n8 : Nat) (f8 : FnV) : RT S44 := .obp ((∀ (i : Nat), i < n0 -> (sv (hdV (f0 i))).size <= (9223372036854775807 : Nat)) /\ ∀ (i : Nat), i < n6 -> (sv (hdV (f6 i))).size <= (9223372036854775807 : Nat)) (.obt (.enter [some (some 0)] (S44.L0 (0) (F23_2 n0 (elV tyR f0) n2 (elV tyT f2) n4 (elV tyF f4) n6 (elV tyC f6))) []))
theorem run44 (n0 : Nat) (f0 : FnV) (n2 : Nat) (f2 : FnV) (n4 : Nat) (f4 : FnV) (n6 : Nat) (f6 : FnV) (n8 : Nat) (f8 : FnV) : Fits ctB13 u0 (D44 n0 f0 n2 f2 n4 f4 n6 f6 n8 f8) (rl44 n0 f0 n2 f2 n4 f4 n6 f6 n8 f8) (m44 n0 f0 n2 f2 n4 f4 n6 f6 n8 f8) (st44 n0 f0 n2 f2 n4 f4 n6 f6 n8 f8) := ⟨⟨by kernel_rfl, by kernel_rfl⟩, fun s => by cases s <;> exact ⟨by kernel_rfl, by kernel_rfl⟩⟩
def outI (f8 : FnV) (k : Nat) : Bool := F86_0 (jv0 (f8 (2 * k))) 0 (i64.wrap (jv0 (f8 (2 * k + 1)) - 1))
def outs (n8 : Nat) (f8 : FnV) (e : Int) : Int := bif e == 0 then (bif exB (n8 / 2) (outI f8) then 4 else 0) else e
def F44 (n0 : Nat) (f0 : FnV) (n2 : Nat) (f2 : FnV) (n4 : Nat) (f4 : FnV) (n6 : Nat) (f6 : FnV) (n8 : Nat) (f8 : FnV) : Int := outs n8 f8 (F23_2 n0 (elV tyR f0) n2 (elV tyT f2) n4 (elV tyF f4) n6 (elV tyC f6))
theorem c44_1 (n0 : Nat) (f0 : FnV) (n2 : Nat) (f2 : FnV) (n4 : Nat) (f4 : FnV) (n6 : Nat) (f6 : FnV) (n8 : Nat) (f8 : FnV) (i e : Int) (he : (e == 0) = false) : Ev (st44 n0 f0 n2 f2 n4 f4 n6 f6 n8 f8) (.L0 i e) (.int .i64 e) := Ev.of rfl (evAsm fun _ => evObi (evObi (evBrF (by rw [he]; cases decide (i < (n8 : Int)) <;> rfl) (evRet rfl))))
theorem c44_0 (n0 : Nat) (f0 : FnV) (n2 : Nat) (f2 : FnV) (n4 : Nat) (f4 : FnV) (n6 : Nat) (f6 : FnV) (n8 : Nat) (f8 : FnV) (hm : n8 % 2 = 0) (hn : n8 <= 100) : ∀ k : Nat, k <= n8 / 2 -> (∀ j, j < k -> outI f8 j = false) -> Ev (st44 n0 f0 n2 f2 n4 f4 n6 f6 n8 f8) (.L0 ((2 * k : Nat) : Int) 0) (.int .i64 (bif exB (n8 / 2) (outI f8) then 4 else 0)) := by
 refine up_ind fun k hk ih hj => Ev.of rfl (evAsm fun _ => evObi (evObi (evBr (fun h => ?_) (fun h => ?_))))
 ·have hlt : 2 * k < n8 := by
   by_cases hh : ((2 * k : Nat) : Int) < (n8 : Int)
   ·omega
   ·rw [dqf hh] at h; cases h
  have w1 : i64.wrap (((2 * k : Nat) : Int) + 1) = ((2 * k + 1 : Nat) : Int) := by rw [wrapI (by omega) (by omega)]; omega
  have w2 : i64.wrap (((2 * k : Nat) : Int) + 2) = ((2 * (k + 1) : Nat) : Int) := by rw [wrapI (by omega) (by omega)]; omega
  refine evOb (dqt (by omega)) (evOb (dqt (by rw [w1]; omega)) (evObc (evObt (evBr (fun hb => evNext ?_) (fun hb => evNext ?_)))))
  ·rw [w1] at hb
   simp only [Int.toNat_natCast] at hb
   rw [exB_true (p := outI f8) k (by omega) hb, cond_true]
   exact c44_1 n0 f0 n2 f2 n4 f4 n6 f6 n8 f8 _ 4 rfl
  ·rw [w1] at hb
   simp only [Int.toNat_natCast] at hb
   rw [w2]
   refine ih (by omega) (fun j h3 => ?_)
   by_cases e : j = k
   ·subst e; exact hb
   ·exact hj j (by omega)
 ·have e : k = n8 / 2 := by
   by_cases hh : ((2 * k : Nat) : Int) < (n8 : Int)
   ·rw [dqt hh] at h; cases h
   ·omega
  rw [show exB (n8 / 2) (outI f8) = false from exB_false fun j h => hj j (by omega)]
  exact evRet rfl
theorem c44_2 (n0 : Nat) (f0 : FnV) (n2 : Nat) (f2 : FnV) (n4 : Nat) (f4 : FnV) (n6 : Nat) (f6 : FnV) (n8 : Nat) (f8 : FnV) (hm : n8 % 2 = 0) (hn : n8 <= 100) (e : Int) : Ev (st44 n0 f0 n2 f2 n4 f4 n6 f6 n8 f8) (.L0 0 e) (.int .i64 (outs n8 f8 e)) := by
 unfold outs
 cases he : e == 0 with
 | false => exact c44_1 n0 f0 n2 f2 n4 f4 n6 f6 n8 f8 0 e he
 | true =>
   have : e = 0 := eq_of_beq he
   subst this
   exact c44_0 n0 f0 n2 f2 n4 f4 n6 f6 n8 f8 hm hn 0 (by omega) (fun j h => by omega)
theorem ev44_0 (n0 : Nat) (f0 : FnV) (n2 : Nat) (f2 : FnV) (n4 : Nat) (f4 : FnV) (n6 : Nat) (f6 : FnV) (n8 : Nat) (f8 : FnV) (hp : (SzOk n0 f0 /\ SzOk n6 f6) /\ n8 % 2 = 0 /\ n8 <= 100) : evR (Ev (st44 n0 f0 n2 f2 n4 f4 n6 f6 n8 f8)) (m44 n0 f0 n2 f2 n4 f4 n6 f6 n8 f8) (.int .i64 (F44 n0 f0 n2 f2 n4 f4 n6 f6 n8 f8)) := evObp hp.1 (evObt (evEnter (c44_2 n0 f0 n2 f2 n4 f4 n6 f6 n8 f8 hp.2.1 hp.2.2 _)))
theorem ev44 (n0 : Nat) (f0 : FnV) (n2 : Nat) (f2 : FnV) (n4 : Nat) (f4 : FnV) (n6 : Nat) (f6 : FnV) (n8 : Nat) (f8 : FnV) (hp : (SzOk n0 (elV tyR f0) /\ SzOk n6 (elV tyC f6)) /\ n8 % 2 = 0 /\ n8 <= 100) : evR (Ev (st44 n0 f0 n2 f2 n4 f4 n6 f6 n8 f8)) (m44 n0 f0 n2 f2 n4 f4 n6 f6 n8 f8) (.int .i64 (F44 n0 (elV tyR f0) n2 (elV tyT f2) n4 (elV tyF f4) n6 (elV tyC f6) n8 (elV tp1 f8))) := ev44_0 n0 f0 n2 f2 n4 f4 n6 f6 n8 f8 hp
def C44 : PCon := mkC [.agg [.sl tyR, .sl tyT, .sl tyF, .sl tyC], .sl tp1] (fun
 | [.agg [.sl n0 f0, .sl n2 f2, .sl n4 f4, .sl n6 f6], .sl n8 f8] => (SzOk n0 f0 /\ SzOk n6 f6) /\ n8 % 2 = 0 /\ n8 <= 100
 | _ => False) fun
 | [.agg [.sl n0 f0, .sl n2 f2, .sl n4 f4, .sl n6 f6], .sl n8 f8] => .int .i64 (F44 n0 f0 n2 f2 n4 f4 n6 f6 n8 f8)
 | _ => .any
theorem ok44 : (vP C44).Ok Tryz.prog 44 := mkE tabB13 Tryz.func44 (by kernel_rfl) fun ds hp => rfs (run44 ..) (ev44 _ _ _ _ _ _ _ _ _ _ hp)
def F91_0 (n0 : Nat) (f0 : FnV) (n2 : Nat) (f2 : FnV) (n4 : Nat) (f4 : FnV) (n6 : Nat) (f6 : FnV) : Int := F24_2 n0 (elV tyR f0) n2 (elV tyT f2) n4 (elV tyF f4) n6 (elV tyC f6)
end
noncomputable section
def ctB14 : CTab := (44, .con C44) :: ctB13
theorem tabB14 : TabOk Tryz.prog eqs its ctB14 := .con ok44 (tabB13)
def F50_0 (n0 : Nat) (f0 : FnV) (n2 : Nat) (f2 : FnV) (n4 : Nat) (f4 : FnV) (n6 : Nat) (f6 : FnV) (x8 x9 : Int) : Int := bif bif F91_0 n0 (elV tyR f0) n2 (elV tyT f2) n4 (elV tyF f4) n6 (elV tyC f6) == 0 then bif decide (x8 < 0) then true else decide (x9 <= x8) else false then 4 else F91_0 n0 (elV tyR f0) n2 (elV tyT f2) n4 (elV tyF f4) n6 (elV tyC f6)
end
end Go.Dx
namespace Go.Dx
open Go.IntKind (i64 u64 u8)
open Go.Sx
noncomputable section
theorem outI_in {i : Int} {m : Nat} {f8 : Nat -> List V} {k : Nat} (hm : m <= 9223372036854775807) (h1 : jv0 (f8 (2 * k)) = i) (h2 : jv0 (f8 (2 * k + 1)) = (m : Int)) (h : outI f8 k = false) : 0 <= i /\ i < m := by
 unfold outI F86_0 at h
 rw [h1, h2, wrapI (by omega) (by omega)] at h
 cases hb : decide (i < 0) with
 | true => rw [hb] at h; cases h
 | false =>
   rw [hb, cond_false] at h
   have a := of_decide_eq_false hb
   have b := of_decide_eq_false h
   omega
theorem outs_in {n8 : Nat} {f8 : Nat -> List V} {e : Int} (h : outs n8 f8 e = 0) : e = 0 /\ ∀ k, k < n8 / 2 -> outI f8 k = false := by
 unfold outs at h
 cases he : e == 0 with
 | false =>
   rw [he, cond_false] at h
   subst h; cases he
 | true =>
   rw [he, cond_true] at h
   refine ⟨eq_of_beq he, fun k hk => ?_⟩
   cases ho : outI f8 k with
   | false => rfl
   | true => rw [exB_true k hk ho] at h; cases h
section
variable {n0 : Nat} {f0 : Nat -> List V} {n2 : Nat} {f2 : Nat -> List V} {n4 : Nat} {f4 : Nat -> List V} {n6 : Nat} {f6 : Nat -> List V} {i j : Int} {m l : Nat}
theorem k44_2 (hm : m <= 9223372036854775807) (h : F44 n0 f0 n2 f2 n4 f4 n6 f6 2 (elV tp1 (secF [vi i, vi m] 0 1)) = 0) : 0 <= i /\ i < m :=
 outI_in (k := 0) hm rfl rfl ((outs_in h).2 0 (by omega))
theorem k44_4 (hm : m <= 9223372036854775807) (hl : l <= 9223372036854775807) (h : F44 n0 f0 n2 f2 n4 f4 n6 f6 4 (elV tp1 (secF [vi i, vi m, vi j, vi l] 0 1)) = 0) : (0 <= i /\ i < m) /\ (0 <= j /\ j < l) :=
 ⟨outI_in (k := 0) hm rfl rfl ((outs_in h).2 0 (by omega)), outI_in (k := 1) hl rfl rfl ((outs_in h).2 1 (by omega))⟩
theorem k50 (h : F50_0 n0 f0 n2 f2 n4 f4 n6 f6 i j = 0) : 0 <= i /\ i < j := by
 unfold F50_0 at h
 generalize F91_0 _ _ _ _ _ _ _ _ = e at h
 cases he : e == 0 with
 | false => rw [he] at h; simp only [cond_false] at h; subst h; cases he
 | true =>
   rw [he, cond_true] at h
   cases hb : decide (i < 0) with
   | true => rw [hb] at h; cases h
   | false =>
     rw [hb, cond_false] at h
     cases hc : decide (j <= i) with
     | true => rw [hc] at h; cases h
     | false => have := of_decide_eq_false hb; have := of_decide_eq_false hc; omega
end
end
end Go.Dx
namespace Go.Dx
open Go.IntKind (i64 u64 u8)
open Go.Sx Go.Proofs
noncomputable section
def ctB15 : CTab := ctB14
theorem tabB15 : TabOk Tryz.prog eqs its ctB15 := tabB14
attribute [local irreducible] F44 F50_0 F91_0
end
end Go.Dx
namespace Go.Dx
open Go.IntKind (i64 u64 u8)
open Go.Sx Go.Proofs
noncomputable section
def ctB16 : CTab := ctB15
theorem tabB16 : TabOk Tryz.prog eqs its ctB16 := tabB15
def m140 (x0 x1 x2 x3 : Int) : RT Empty := .br (x0 != x2) (.ret (vi (i64.wrap (x0 - x2)))) (.ret (vi (i64.wrap (x1 - x3))))
theorem run140 (x0 x1 x2 x3 : Int) : Fit noD (runL JJ ctB16 u0 s140 [V.agg [vi x0, vi x1], V.agg [vi x2, vi x3]]) (m140 x0 x1 x2 x3) := ⟨by kernel_rfl, by kernel_rfl⟩
def F140_0 (x0 x1 x2 x3 : Int) : Int := bif x0 != x2 then i64.wrap (x0 - x2) else i64.wrap (x1 - x3)
def R140 (x0 x1 x2 x3 : Int) : V := .int i64 (F140_0 x0 x1 x2 x3)
theorem ev140 (x0 x1 x2 x3 : Int) : evR noE (m140 x0 x1 x2 x3) (R140 x0 x1 x2 x3) := evBr (fun h0 => evRet (by unfold R140 F140_0; try rw [h0]; rfl)) (fun h0 => evRet (by unfold R140 F140_0; try rw [h0]; rfl))
def C140 : PCon := mkC [.agg tp2, .agg tp2] (fun _ => True) fun
 | [.agg [.int _ x0, .int _ x1], .agg [.int _ x2, .int _ x3]] => R140 x0 x1 x2 x3
 | _ => .any
theorem ok140 : (vP C140).Ok Tryz.prog 140 := mkE tabB16 Tryz.func140 (by kernel_rfl) fun ds hp => rf0 (run140 ..) (ev140 _ _ _ _)
def m49 (x0 x1 x2 x3 x4 x5 x6 x7 : Int) (b8 : Bool) (x9 x10 : Int) : RT Empty := .obi (.br (!b8) (.ob (!b8) (.ob (!b8) (.ob (!b8) (.obc (.obt (.obc (.obt (.obc (.obt (.ret (V.bool (F103_0 (F102_0 x0 x2 x9 x3) (F102_1 x1 x2 x10 x3) (F102_0 x0 x2 x9 x4) (F102_1 x1 x2 x10 x4) x5 x6 x7)))))))))))) (.ret (V.kb false)))
theorem run49 (x0 x1 x2 x3 x4 x5 x6 x7 : Int) (b8 : Bool) (x9 x10 : Int) : Fit noD (runL JJ ctB16 u0 s49 [V.agg [vi x0, vi x1, vi x2, vi x3, vi x4, vi x5, vi x6, vi x7, V.bool b8], V.agg [vi x9, vi x10]]) (m49 x0 x1 x2 x3 x4 x5 x6 x7 b8 x9 x10) := ⟨by kernel_rfl, by kernel_rfl⟩
def F49_0 (x0 x1 x2 x3 x4 x5 x6 x7 : Int) (b8 : Bool) (x9 x10 : Int) : Bool := bif !b8 then F103_0 (F102_0 x0 x2 x9 x3) (F102_1 x1 x2 x10 x3) (F102_0 x0 x2 x9 x4) (F102_1 x1 x2 x10 x4) x5 x6 x7 else false
def R49 (x0 x1 x2 x3 x4 x5 x6 x7 : Int) (b8 : Bool) (x9 x10 : Int) : V := .bool (F49_0 x0 x1 x2 x3 x4 x5 x6 x7 b8 x9 x10)
theorem ev49 (x0 x1 x2 x3 x4 x5 x6 x7 : Int) (b8 : Bool) (x9 x10 : Int) : evR noE (m49 x0 x1 x2 x3 x4 x5 x6 x7 b8 x9 x10) (R49 x0 x1 x2 x3 x4 x5 x6 x7 b8 x9 x10) := evObi (evBr (fun h0 => evOb (by first | assumption | (fail)) (evOb (by first | assumption | (fail)) (evOb (by first | assumption | (fail)) (evObc (evObt (evObc (evObt (evObc (evObt (evRet (by unfold R49 F49_0; try rw [h0]; rfl))))))))))) (fun h0 => evRet (by unfold R49 F49_0; try rw [h0]; rfl)))
def C49 : PCon := mkC [.agg [.int .i64, .int .i64, .int .i64, .int .i64, .int .i64, .int .i64, .int .i64, .int .i64, .bool], .agg tp2] (fun _ => True) fun
 | [.agg [.int _ x0, .int _ x1, .int _ x2, .int _ x3, .int _ x4, .int _ x5, .int _ x6, .int _ x7, .bool b8], .agg [.int _ x9, .int _ x10]] => R49 x0 x1 x2 x3 x4 x5 x6 x7 b8 x9 x10
 | _ => .any
theorem ok49 : (vP C49).Ok Tryz.prog 49 := mkE tabB16 Tryz.func49 (by kernel_rfl) fun ds hp => rf0 (run49 ..) (ev49 _ _ _ _ _ _ _ _ _ _ _)
def m123 (x0 x1 x2 x3 x4 x5 x6 : Int) : RT Empty := .obc (.obt (.ret (V.bool (F103_0 x0 x1 x2 x3 (i64.wrap (2 * x5)) (i64.wrap (2 * x6)) x4))))
theorem run123 (x0 x1 x2 x3 x4 x5 x6 : Int) : Fit noD (runL JJ ctB16 u0 s123 [V.agg [vi x0, vi x1, vi x2, vi x3, vi x4], vi x5, vi x6]) (m123 x0 x1 x2 x3 x4 x5 x6) := ⟨by kernel_rfl, by kernel_rfl⟩
def F123_0 (x0 x1 x2 x3 x4 x5 x6 : Int) : Bool := F103_0 x0 x1 x2 x3 (i64.wrap (2 * x5)) (i64.wrap (2 * x6)) x4
def R123 (x0 x1 x2 x3 x4 x5 x6 : Int) : V := .bool (F123_0 x0 x1 x2 x3 x4 x5 x6)
theorem ev123 (x0 x1 x2 x3 x4 x5 x6 : Int) : evR noE (m123 x0 x1 x2 x3 x4 x5 x6) (R123 x0 x1 x2 x3 x4 x5 x6) := evObc (evObt (evRet (by unfold R123 F123_0; rfl)))
def C123 : PCon := mkC [.agg tyT, .int .i64, .int .i64] (fun _ => True) fun
 | [.agg [.int _ x0, .int _ x1, .int _ x2, .int _ x3, .int _ x4], .int _ x5, .int _ x6] => R123 x0 x1 x2 x3 x4 x5 x6
 | _ => .any
theorem ok123 : (vP C123).Ok Tryz.prog 123 := mkE tabB16 Tryz.func123 (by kernel_rfl) fun ds hp => rf0 (run123 ..) (ev123 _ _ _ _ _ _ _)
end
noncomputable section
def ctB16a : CTab := (140, .con C140) :: (49, .con C49) :: (123, .con C123) :: ctB16
theorem tabB16a : TabOk Tryz.prog eqs its ctB16a := .con ok140 (.con ok49 (.con ok123 (tabB16)))
def u5 : Unr := fun _ => 5
def m145 (x0 x1 x2 x3 x4 x5 x6 x7 x8 : Int) : RT Empty := .obi (.obi (.obi (.obi (.obi (.obi (.obi (.obi (.obi (.obi (.obi (.obi (.obi (.obi (.obi (.obi (.obi (.obi (.obi (.obi (.obi (.obi (.obi (.obi (.obi (.obi (.obi (.obi (.obi (.obi (.obi (.obi (.obi (.obi (.obi (.obi (.obi (.obi (.obi (.br (bif bif bif decide (max x0 x2 < i64.wrap (2 * x5)) then true else decide (i64.wrap (2 * x7) < min x0 x2) then true else decide (max x1 x3 < i64.wrap (2 * x6)) then true else decide (i64.wrap (2 * x8) < min x1 x3)) (.ret (V.kb false)) (.obc (.obt (.brt (.obt (.obc (.obt (.obc (.obt (.brt (.obt (.obc (.obt (.obc (.obt (.obi (.obi (.obi (.obi (.brt (.obt (.obc (.obt (.obc (.obt (.obi (.obi (.obi (.obi (.brt (.obt (.obc (.obt (.obc (.obt (.obi (.obi (.obi (.obi (.brf (.obi (.ret (V.bool (bif bif bif bif decide (0 <= F78_0 x0 x1 x2 x3 (F101_0 x5 2) (F101_1 x6 2)) then true else decide (0 <= F78_0 x0 x1 x2 x3 (F101_0 x7 2) (F101_1 x6 2)) then true else decide (0 <= F78_0 x0 x1 x2 x3 (F101_0 x7 2) (F101_1 x8 2)) then true else decide (0 <= F78_0 x0 x1 x2 x3 (F101_0 x5 2) (F101_1 x8 2)) then bif bif bif decide (F78_0 x0 x1 x2 x3 (F101_0 x5 2) (F101_1 x6 2) <= 0) then true else decide (F78_0 x0 x1 x2 x3 (F101_0 x7 2) (F101_1 x6 2) <= 0) then true else decide (F78_0 x0 x1 x2 x3 (F101_0 x7 2) (F101_1 x8 2) <= 0) then true else decide (F78_0 x0 x1 x2 x3 (F101_0 x5 2) (F101_1 x8 2) <= 0) else false))))))))))))))))))))))))))))))))))))))))))))))))))))))))))))))))))))))))))))))))))
theorem run145 (x0 x1 x2 x3 x4 x5 x6 x7 x8 : Int) : Fit noD (runL JJ ctB16a u5 s145 [V.agg [vi x0, vi x1, vi x2, vi x3, vi x4], V.agg [vi x5, vi x6, vi x7, vi x8]]) (m145 x0 x1 x2 x3 x4 x5 x6 x7 x8) := ⟨by kernel_rfl, by kernel_rfl⟩
def F145_0 (x0 x1 x2 x3 x5 x6 x7 x8 : Int) : Bool := bif bif bif bif decide (max x0 x2 < i64.wrap (2 * x5)) then true else decide (i64.wrap (2 * x7) < min x0 x2) then true else decide (max x1 x3 < i64.wrap (2 * x6)) then true else decide (i64.wrap (2 * x8) < min x1 x3) then false else bif bif bif bif decide (0 <= F78_0 x0 x1 x2 x3 (F101_0 x5 2) (F101_1 x6 2)) then true else decide (0 <= F78_0 x0 x1 x2 x3 (F101_0 x7 2) (F101_1 x6 2)) then true else decide (0 <= F78_0 x0 x1 x2 x3 (F101_0 x7 2) (F101_1 x8 2)) then true else decide (0 <= F78_0 x0 x1 x2 x3 (F101_0 x5 2) (F101_1 x8 2)) then bif bif bif decide (F78_0 x0 x1 x2 x3 (F101_0 x5 2) (F101_1 x6 2) <= 0) then true else decide (F78_0 x0 x1 x2 x3 (F101_0 x7 2) (F101_1 x6 2) <= 0) then true else decide (F78_0 x0 x1 x2 x3 (F101_0 x7 2) (F101_1 x8 2) <= 0) then true else decide (F78_0 x0 x1 x2 x3 (F101_0 x5 2) (F101_1 x8 2) <= 0) else false
def R145 (x0 x1 x2 x3 x4 x5 x6 x7 x8 : Int) : V := .bool (F145_0 x0 x1 x2 x3 x5 x6 x7 x8)
theorem ev145 (x0 x1 x2 x3 x4 x5 x6 x7 x8 : Int) : evR noE (m145 x0 x1 x2 x3 x4 x5 x6 x7 x8) (R145 x0 x1 x2 x3 x4 x5 x6 x7 x8) := evObi (evObi (evObi (evObi (evObi (evObi (evObi (evObi (evObi (evObi (evObi (evObi (evObi (evObi (evObi (evObi (evObi (evObi (evObi (evObi (evObi (evObi (evObi (evObi (evObi (evObi (evObi (evObi (evObi (evObi (evObi (evObi (evObi (evObi (evObi (evObi (evObi (evObi (evObi (evBr (fun h0 => evRet (by unfold R145 F145_0; try rw [h0]; rfl)) (fun h0 => evObc (evObt (evBrt (evObt (evObc (evObt (evObc (evObt (evBrt (evObt (evObc (evObt (evObc (evObt (evObi (evObi (evObi (evObi (evBrt (evObt (evObc (evObt (evObc (evObt (evObi (evObi (evObi (evObi (evBrt (evObt (evObc (evObt (evObc (evObt (evObi (evObi (evObi (evObi (evBrf (evObi (evRet (by unfold R145 F145_0; try rw [h0]; rfl)))))))))))))))))))))))))))))))))))))))))))))))))))))))))))))))))))))))))))))))))
def C145 : PCon := mkC [.agg tyT, .agg tp4] (fun _ => True) fun
 | [.agg [.int _ x0, .int _ x1, .int _ x2, .int _ x3, .int _ x4], .agg [.int _ x5, .int _ x6, .int _ x7, .int _ x8]] => R145 x0 x1 x2 x3 x4 x5 x6 x7 x8
 | _ => .any
theorem ok145 : (vP C145).Ok Tryz.prog 145 := mkE tabB16a Tryz.func145 (by kernel_rfl) fun ds hp => rf0 (run145 ..) (ev145 _ _ _ _ _ _ _ _ _)
end
noncomputable section
def ctB16b : CTab := (145, .con C145) :: ctB16a
theorem tabB16b : TabOk Tryz.prog eqs its ctB16b := .con ok145 (tabB16a)
def m111 (x0 x1 x2 x3 x4 x5 x6 x7 x8 : Int) : RT Empty := .obc (.obt (.brt (.obt (.obc (.obt (.br (F123_0 x0 x1 x2 x3 x4 x5 x6) (.brt (.obt (.obc (.obt (.br (F123_0 x0 x1 x2 x3 x4 x7 x6) (.brt (.obt (.obc (.obt (.br (F123_0 x0 x1 x2 x3 x4 x7 x8) (.brt (.obt (.obc (.obt (.br (F123_0 x0 x1 x2 x3 x4 x5 x8) (.brf (.brt (.ret (vi 2)))) (.brf (.brf (.brt (.ret (vi 1)))))))))) (.brt (.obt (.obc (.obt (.br (F123_0 x0 x1 x2 x3 x4 x5 x8) (.brf (.brf (.brt (.ret (vi 1))))) (.brf (.brf (.brt (.ret (vi 1))))))))))))))) (.brt (.obt (.obc (.obt (.br (F123_0 x0 x1 x2 x3 x4 x7 x8) (.brt (.obt (.obc (.obt (.br (F123_0 x0 x1 x2 x3 x4 x5 x8) (.brf (.brf (.brt (.ret (vi 1))))) (.brf (.brf (.brt (.ret (vi 1)))))))))) (.brt (.obt (.obc (.obt (.br (F123_0 x0 x1 x2 x3 x4 x5 x8) (.brf (.brf (.brt (.ret (vi 1))))) (.brf (.brf (.brt (.ret (vi 1)))))))))))))))))))) (.brt (.obt (.obc (.obt (.br (F123_0 x0 x1 x2 x3 x4 x7 x6) (.brt (.obt (.obc (.obt (.br (F123_0 x0 x1 x2 x3 x4 x7 x8) (.brt (.obt (.obc (.obt (.br (F123_0 x0 x1 x2 x3 x4 x5 x8) (.brf (.brf (.brt (.ret (vi 1))))) (.brf (.brf (.brt (.ret (vi 1)))))))))) (.brt (.obt (.obc (.obt (.br (F123_0 x0 x1 x2 x3 x4 x5 x8) (.brf (.brf (.brt (.ret (vi 1))))) (.brf (.brf (.brt (.ret (vi 1))))))))))))))) (.brt (.obt (.obc (.obt (.br (F123_0 x0 x1 x2 x3 x4 x7 x8) (.brt (.obt (.obc (.obt (.br (F123_0 x0 x1 x2 x3 x4 x5 x8) (.brf (.brf (.brt (.ret (vi 1))))) (.brf (.brf (.brt (.ret (vi 1)))))))))) (.brt (.obt (.obc (.obt (.br (F123_0 x0 x1 x2 x3 x4 x5 x8) (.brf (.brf (.brt (.ret (vi 1))))) (.brf (.brf (.brf (.brt (.obt (.obc (.obt (.br (decide (F85_0 (max (max (i64.wrap (i64.wrap (2 * x5) - x0)) 0) (i64.wrap (x0 - i64.wrap (2 * x7)))) (max (max (i64.wrap (i64.wrap (2 * x6) - x1)) 0) (i64.wrap (x1 - i64.wrap (2 * x8)))) (max (max (i64.wrap (i64.wrap (2 * x5) - x0)) 0) (i64.wrap (x0 - i64.wrap (2 * x7)))) (max (max (i64.wrap (i64.wrap (2 * x6) - x1)) 0) (i64.wrap (x1 - i64.wrap (2 * x8)))) <= i64.wrap (x4 * x4))) (.ret (vi 1)) (.brt (.obt (.obc (.obt (.br (decide (F85_0 (max (max (i64.wrap (i64.wrap (2 * x5) - x2)) 0) (i64.wrap (x2 - i64.wrap (2 * x7)))) (max (max (i64.wrap (i64.wrap (2 * x6) - x3)) 0) (i64.wrap (x3 - i64.wrap (2 * x8)))) (max (max (i64.wrap (i64.wrap (2 * x5) - x2)) 0) (i64.wrap (x2 - i64.wrap (2 * x7)))) (max (max (i64.wrap (i64.wrap (2 * x6) - x3)) 0) (i64.wrap (x3 - i64.wrap (2 * x8)))) <= i64.wrap (x4 * x4))) (.ret (vi 1)) (.brf (.obc (.obt (.br (F145_0 x0 x1 x2 x3 x5 x6 x7 x8) (.ret (vi 1)) (.ret (vi 0))))))))))))))))))))))))))))))))))))))))
theorem run111 (x0 x1 x2 x3 x4 x5 x6 x7 x8 : Int) : Fit noD (runL JJ ctB16b u5 s111 [V.agg [vi x0, vi x1, vi x2, vi x3, vi x4], V.agg [vi x5, vi x6, vi x7, vi x8]]) (m111 x0 x1 x2 x3 x4 x5 x6 x7 x8) := ⟨by kernel_rfl, by kernel_rfl⟩
def F111_0 (x0 x1 x2 x3 x4 x5 x6 x7 x8 : Int) : Int := bif F123_0 x0 x1 x2 x3 x4 x5 x6 then bif F123_0 x0 x1 x2 x3 x4 x7 x6 then bif F123_0 x0 x1 x2 x3 x4 x7 x8 then bif F123_0 x0 x1 x2 x3 x4 x5 x8 then 2 else 1 else 1 else 1 else bif F123_0 x0 x1 x2 x3 x4 x7 x6 then 1 else bif F123_0 x0 x1 x2 x3 x4 x7 x8 then 1 else bif F123_0 x0 x1 x2 x3 x4 x5 x8 then 1 else bif decide (F85_0 (max (max (i64.wrap (i64.wrap (2 * x5) - x0)) 0) (i64.wrap (x0 - i64.wrap (2 * x7)))) (max (max (i64.wrap (i64.wrap (2 * x6) - x1)) 0) (i64.wrap (x1 - i64.wrap (2 * x8)))) (max (max (i64.wrap (i64.wrap (2 * x5) - x0)) 0) (i64.wrap (x0 - i64.wrap (2 * x7)))) (max (max (i64.wrap (i64.wrap (2 * x6) - x1)) 0) (i64.wrap (x1 - i64.wrap (2 * x8)))) <= i64.wrap (x4 * x4)) then 1 else bif decide (F85_0 (max (max (i64.wrap (i64.wrap (2 * x5) - x2)) 0) (i64.wrap (x2 - i64.wrap (2 * x7)))) (max (max (i64.wrap (i64.wrap (2 * x6) - x3)) 0) (i64.wrap (x3 - i64.wrap (2 * x8)))) (max (max (i64.wrap (i64.wrap (2 * x5) - x2)) 0) (i64.wrap (x2 - i64.wrap (2 * x7)))) (max (max (i64.wrap (i64.wrap (2 * x6) - x3)) 0) (i64.wrap (x3 - i64.wrap (2 * x8)))) <= i64.wrap (x4 * x4)) then 1 else bif F145_0 x0 x1 x2 x3 x5 x6 x7 x8 then 1 else 0
def R111 (x0 x1 x2 x3 x4 x5 x6 x7 x8 : Int) : V := .int i64 (F111_0 x0 x1 x2 x3 x4 x5 x6 x7 x8)
theorem ev111 (x0 x1 x2 x3 x4 x5 x6 x7 x8 : Int) : evR noE (m111 x0 x1 x2 x3 x4 x5 x6 x7 x8) (R111 x0 x1 x2 x3 x4 x5 x6 x7 x8) := evObc (evObt (evBrt (evObt (evObc (evObt (evBr (fun h0 => evBrt (evObt (evObc (evObt (evBr (fun h1 => evBrt (evObt (evObc (evObt (evBr (fun h2 => evBrt (evObt (evObc (evObt (evBr (fun h3 => evBrf (evBrt (evRet (by unfold R111 F111_0; try rw [h0]; try rw [h1]; try rw [h2]; try rw [h3]; rfl)))) (fun h3 => evBrf (evBrf (evBrt (evRet (by unfold R111 F111_0; try rw [h0]; try rw [h1]; try rw [h2]; try rw [h3]; rfl)))))))))) (fun h2 => evBrt (evObt (evObc (evObt (evBr (fun h3 => evBrf (evBrf (evBrt (evRet (by unfold R111 F111_0; try rw [h0]; try rw [h1]; try rw [h2]; try rw [h3]; rfl))))) (fun h3 => evBrf (evBrf (evBrt (evRet (by unfold R111 F111_0; try rw [h0]; try rw [h1]; try rw [h2]; try rw [h3]; rfl))))))))))))))) (fun h1 => evBrt (evObt (evObc (evObt (evBr (fun h2 => evBrt (evObt (evObc (evObt (evBr (fun h3 => evBrf (evBrf (evBrt (evRet (by unfold R111 F111_0; try rw [h0]; try rw [h1]; try rw [h2]; try rw [h3]; rfl))))) (fun h3 => evBrf (evBrf (evBrt (evRet (by unfold R111 F111_0; try rw [h0]; try rw [h1]; try rw [h2]; try rw [h3]; rfl)))))))))) (fun h2 => evBrt (evObt (evObc (evObt (evBr (fun h3 => evBrf (evBrf (evBrt (evRet (by unfold R111 F111_0; try rw [h0]; try rw [h1]; try rw [h2]; try rw [h3]; rfl))))) (fun h3 => evBrf (evBrf (evBrt (evRet (by unfold R111 F111_0; try rw [h0]; try rw [h1]; try rw [h2]; try rw [h3]; rfl)))))))))))))))))))) (fun h0 => evBrt (evObt (evObc (evObt (evBr (fun h1 => evBrt (evObt (evObc (evObt (evBr (fun h2 => evBrt (evObt (evObc (evObt (evBr (fun h3 => evBrf (evBrf (evBrt (evRet (by unfold R111 F111_0; try rw [h0]; try rw [h1]; try rw [h2]; try rw [h3]; rfl))))) (fun h3 => evBrf (evBrf (evBrt (evRet (by unfold R111 F111_0; try rw [h0]; try rw [h1]; try rw [h2]; try rw [h3]; rfl)))))))))) (fun h2 => evBrt (evObt (evObc (evObt (evBr (fun h3 => evBrf (evBrf (evBrt (evRet (by unfold R111 F111_0; try rw [h0]; try rw [h1]; try rw [h2]; try rw [h3]; rfl))))) (fun h3 => evBrf (evBrf (evBrt (evRet (by unfold R111 F111_0; try rw [h0]; try rw [h1]; try rw [h2]; try rw [h3]; rfl))))))))))))))) (fun h1 => evBrt (evObt (evObc (evObt (evBr (fun h2 => evBrt (evObt (evObc (evObt (evBr (fun h3 => evBrf (evBrf (evBrt (evRet (by unfold R111 F111_0; try rw [h0]; try rw [h1]; try rw [h2]; try rw [h3]; rfl))))) (fun h3 => evBrf (evBrf (evBrt (evRet (by unfold R111 F111_0; try rw [h0]; try rw [h1]; try rw [h2]; try rw [h3]; rfl)))))))))) (fun h2 => evBrt (evObt (evObc (evObt (evBr (fun h3 => evBrf (evBrf (evBrt (evRet (by unfold R111 F111_0; try rw [h0]; try rw [h1]; try rw [h2]; try rw [h3]; rfl))))) (fun h3 => evBrf (evBrf (evBrf (evBrt (evObt (evObc (evObt (evBr (fun h4 => evRet (by unfold R111 F111_0; try rw [h0]; try rw [h1]; try rw [h2]; try rw [h3]; try rw [h4]; rfl)) (fun h4 => evBrt (evObt (evObc (evObt (evBr (fun h5 => evRet (by unfold R111 F111_0; try rw [h0]; try rw [h1]; try rw [h2]; try rw [h3]; try rw [h4]; try rw [h5]; rfl)) (fun h5 => evBrf (evObc (evObt (evBr (fun h6 => evRet (by unfold R111 F111_0; try rw [h0]; try rw [h1]; try rw [h2]; try rw [h3]; try rw [h4]; try rw [h5]; try rw [h6]; rfl)) (fun h6 => evRet (by unfold R111 F111_0; try rw [h0]; try rw [h1]; try rw [h2]; try rw [h3]; try rw [h4]; try rw [h5]; try rw [h6]; rfl))))))))))))))))))))))))))))))))))))))))
def C111 : PCon := mkC [.agg tyT, .agg tp4] (fun _ => True) fun
 | [.agg [.int _ x0, .int _ x1, .int _ x2, .int _ x3, .int _ x4], .agg [.int _ x5, .int _ x6, .int _ x7, .int _ x8]] => R111 x0 x1 x2 x3 x4 x5 x6 x7 x8
 | _ => .any
theorem ok111 : (vP C111).Ok Tryz.prog 111 := mkE tabB16b Tryz.func111 (by kernel_rfl) fun ds hp => rf0 (run111 ..) (ev111 _ _ _ _ _ _ _ _ _)
def m56 (x0 x1 x2 x3 x4 x5 x6 x7 x8 x9 : Int) (b10 : Bool) : RT Empty := .obc (.obt (.ret (V.bool !F49_0 x2 x3 x4 x5 x6 x7 x8 x9 b10 x0 x1)))
theorem run56 (x0 x1 x2 x3 x4 x5 x6 x7 x8 x9 : Int) (b10 : Bool) : Fit noD (runL JJ ctB16b u0 s56 [V.agg [vi x0, vi x1], V.pd [vi x2, vi x3, vi x4, vi x5, vi x6, vi x7, vi x8, vi x9, V.bool b10]]) (m56 x0 x1 x2 x3 x4 x5 x6 x7 x8 x9 b10) := ⟨by kernel_rfl, by kernel_rfl⟩
def F56_0 (x0 x1 x2 x3 x4 x5 x6 x7 x8 x9 : Int) (b10 : Bool) : Bool := !F49_0 x2 x3 x4 x5 x6 x7 x8 x9 b10 x0 x1
def R56 (x0 x1 x2 x3 x4 x5 x6 x7 x8 x9 : Int) (b10 : Bool) : V := .bool (F56_0 x0 x1 x2 x3 x4 x5 x6 x7 x8 x9 b10)
theorem ev56 (x0 x1 x2 x3 x4 x5 x6 x7 x8 x9 : Int) (b10 : Bool) : evR noE (m56 x0 x1 x2 x3 x4 x5 x6 x7 x8 x9 b10) (R56 x0 x1 x2 x3 x4 x5 x6 x7 x8 x9 b10) := evObc (evObt (evRet (by unfold R56 F56_0; rfl)))
def C56 : PCon := mkC [.agg tp2, .pd [.int .i64, .int .i64, .int .i64, .int .i64, .int .i64, .int .i64, .int .i64, .int .i64, .bool]] (fun _ => True) fun
 | [.agg [.int _ x0, .int _ x1], .pd [.int _ x2, .int _ x3, .int _ x4, .int _ x5, .int _ x6, .int _ x7, .int _ x8, .int _ x9, .bool b10]] => R56 x0 x1 x2 x3 x4 x5 x6 x7 x8 x9 b10
 | _ => .any
theorem ok56 : (vP C56).Ok Tryz.prog 56 := mkE tabB16b Tryz.func56 (by kernel_rfl) fun ds hp => rf0 (run56 ..) (ev56 _ _ _ _ _ _ _ _ _ _ _)
def m47 (x0 x1 x2 x3 x4 : Int) (n5 : Nat) (f5 : FnV) (n7 : Nat) (f7 : FnV) (n9 : Nat) (f9 : FnV) (n11 : Nat) (f11 : FnV) (x13 x14 x15 : Int) : RT Empty := .ob (decide (0 <= x13 /\ x13 < (↑n11 : Int))) (.obc (.obt (.obc (.obt (.ret (V.bool (F49_0 (jv1 (f11 x13.toNat)) (jv2 (f11 x13.toNat)) (jv3 (f11 x13.toNat)) (F48_0 (jv3 (f11 x13.toNat)) x4) (F48_1 (jv3 (f11 x13.toNat)) x3) (F48_2 (jv3 (f11 x13.toNat)) x0) (F48_3 (jv3 (f11 x13.toNat)) x1) (F48_4 (jv3 (f11 x13.toNat)) x2) (F48_5 (jv3 (f11 x13.toNat)) x3) x14 x15)))))))
theorem run47 (x0 x1 x2 x3 x4 : Int) (n5 : Nat) (f5 : FnV) (n7 : Nat) (f7 : FnV) (n9 : Nat) (f9 : FnV) (n11 : Nat) (f11 : FnV) (x13 x14 x15 : Int) : Fit noD (runL JJ ctB16b u0 s47 [V.agg [vi x0, vi x1, vi x2, vi x3, vi x4], V.pd [V.sl n5 (elV tyR f5), V.sl n7 (elV tyT f7), V.sl n9 (elV tyF f9), V.sl n11 (elV tyC f11)], V.pd [vi x13], V.pd [vi x14], V.pd [vi x15]]) (m47 x0 x1 x2 x3 x4 n5 f5 n7 f7 n9 f9 n11 f11 x13 x14 x15) := ⟨by kernel_rfl, by kernel_rfl⟩
def F47_0 (x0 x1 x2 x3 x4 : Int) (f11 : FnV) (x13 x14 x15 : Int) : Bool := F49_0 (jv1 (f11 x13.toNat)) (jv2 (f11 x13.toNat)) (jv3 (f11 x13.toNat)) (F48_0 (jv3 (f11 x13.toNat)) x4) (F48_1 (jv3 (f11 x13.toNat)) x3) (F48_2 (jv3 (f11 x13.toNat)) x0) (F48_3 (jv3 (f11 x13.toNat)) x1) (F48_4 (jv3 (f11 x13.toNat)) x2) (F48_5 (jv3 (f11 x13.toNat)) x3) x14 x15
def R47 (x0 x1 x2 x3 x4 : Int) (n5 : Nat) (f5 : FnV) (n7 : Nat) (f7 : FnV) (n9 : Nat) (f9 : FnV) (n11 : Nat) (f11 : FnV) (x13 x14 x15 : Int) : V := .bool (F47_0 x0 x1 x2 x3 x4 f11 x13 x14 x15)
theorem ev47 (x0 x1 x2 x3 x4 : Int) (n5 : Nat) (f5 : FnV) (n7 : Nat) (f7 : FnV) (n9 : Nat) (f9 : FnV) (n11 : Nat) (f11 : FnV) (x13 x14 x15 : Int) (hp : 0 <= x13 /\ x13 < (n11 : Int)) : evR noE (m47 x0 x1 x2 x3 x4 n5 f5 n7 f7 n9 f9 n11 f11 x13 x14 x15) (R47 x0 x1 x2 x3 x4 n5 f5 n7 f7 n9 f9 n11 f11 x13 x14 x15) := evOb (by first | assumption | (exact dqt hp)) (evObc (evObt (evObc (evObt (evRet (by unfold R47 F47_0; rfl))))))
def C47 : PCon := mkC [.agg tyT, .pd [.sl tyR, .sl tyT, .sl tyF, .sl tyC], .pd tp1, .pd tp1, .pd tp1] (fun
 | [.agg [.int _ x0, .int _ x1, .int _ x2, .int _ x3, .int _ x4], .pd [.sl n5 f5, .sl n7 f7, .sl n9 f9, .sl n11 f11], .pd [.int _ x13], .pd [.int _ x14], .pd [.int _ x15]] => 0 <= x13 /\ x13 < (n11 : Int)
 | _ => False) fun
 | [.agg [.int _ x0, .int _ x1, .int _ x2, .int _ x3, .int _ x4], .pd [.sl n5 f5, .sl n7 f7, .sl n9 f9, .sl n11 f11], .pd [.int _ x13], .pd [.int _ x14], .pd [.int _ x15]] => R47 x0 x1 x2 x3 x4 n5 f5 n7 f7 n9 f9 n11 f11 x13 x14 x15
 | _ => .any
theorem ok47 : (vP C47).Ok Tryz.prog 47 := mkE tabB16b Tryz.func47 (by kernel_rfl) fun ds hp => rf0 (run47 ..) (ev47 _ _ _ _ _ _ _ _ _ _ _ _ _ _ _ _ hp)
end
end Go.Dx
namespace Go.Dx
open Go.IntKind (i64 u64 u8)
open Go.Sx
section
variable {S : Type} {step : S -> RT S}
theorem idx_evW {L : Int -> S} {n : Nat} {p : Nat -> Bool} {Q : Nat -> Prop} {ρ : Rho} (W : Nat -> RT S -> RT S) (hW : ∀ i x r, Q i -> evR (Ev step) x r -> evR (Ev step) (W i x) r) (hWn : ∀ i x, noAll (W i x) = noAll x) (hn : n <= 9223372036854775807) (hQ : ∀ i, i < n -> Q i)
 (hst : ∀ i : Nat, step (L i) = .br (decide ((i : Int) < (n : Int))) (.ob (decide (0 <= (i : Int) /\ (i : Int) < (n : Int))) (W i (.br (p i) (.ret (.int .i64 i)) (.next ρ (L (i64.wrap ((i : Int) + 1))) [])))) (.ret (.int .i64 (-1)))) :
 Ev step (L 0) (.int .i64 (idx n p)) :=
 scan hn p (P := fun i => Ev step (L i) (.int .i64 (idx n p))) (fun i hlt hj next => Ev.of (by rw [hst]; simp only [noAll, hWn, Bool.and_self]) (by
  rw [hst]
  refine evBrLt hlt (evObLt hlt (hW i _ _ (hQ i hlt) (evBr (fun hb => evRet ?_) (fun hb => evNext (next hb)))))
  rw [idx_some hb hlt hj])) (fun hj => Ev.of (by rw [hst]; simp only [noAll, hWn, Bool.and_self]) (by
  rw [hst]
  refine evBrGe (evRet ?_)
  rw [idx_none hj]))
end
end Go.Dx
namespace Go.Dx
open Go.IntKind (i64 u64 u8)
open Go.Sx
def maxTo (p : Nat -> Int) : Nat -> Int
 | 0 => 0
 | k + 1 => max (maxTo p k) (p k)
section
variable {S : Type} {step : S -> RT S}
theorem pieces_ev {L : Int -> Nat -> Int -> S} {n : Nat} {p : Nat -> Int} {ρ : Rho} {l : Nat} (hn : n <= 9223372036854775807)
 (hst : ∀ (i : Nat) (a : Int), i64.wrap ((i : Int) + 1) = ((i + 1 : Nat) : Int) -> step (L i l a) = .br (decide ((i : Int) < i64.wrap ((n : Int) - 1))) (.ob (decide (0 <= (i : Int) /\ (i : Int) < (n : Int))) (.ob (decide (0 <= i64.wrap ((i : Int) + 1) /\ i64.wrap ((i : Int) + 1) < (n : Int))) (.obt (.obt (.obt (.obt (.obc (.obt (.next ρ (L (i64.wrap ((i : Int) + 1)) l (max a (p i))) [])))))))) ) (.ret (.int .i64 a))) :
 Ev step (L 0 l 0) (.int .i64 (maxTo p (n - 1))) := by
 have w0 : i64.wrap ((n : Int) - 1) = (n : Int) - 1 := wrapI (by omega) (by omega)
 have key := up_ind (n := n - 1) (P := fun i => Ev step (L i l (maxTo p i)) (.int .i64 (maxTo p (n - 1)))) fun i hi ih => by
  have w1 : i64.wrap ((i : Int) + 1) = ((i + 1 : Nat) : Int) := by rw [wrapI (by omega) (by omega)]; omega
  refine Ev.of (by rw [hst i _ w1]; rfl) ?_
  rw [hst i _ w1]
  by_cases hlt : i < n - 1
  ·refine evBrT (decide_eq_true (by rw [w0]; omega)) (evOb (decide_eq_true (by omega)) (evOb (decide_eq_true (by rw [w1]; omega)) (evObt (evObt (evObt (evObt (evObc (evObt (evNext ?_)))))))))
   rw [w1]; exact ih hlt
  ·refine evBrF (decide_eq_false (by rw [w0]; omega)) (evRet ?_)
   have : i = n - 1 := by omega
   subst this; rfl
 exact key 0 (Nat.zero_le _)
theorem pieces_ex {L : Int -> Nat -> S} {n : Nat} {p : Nat -> Bool} {ρ : Rho} {l : Nat} (hn : n <= 9223372036854775807)
 (hst : ∀ i : Nat, i64.wrap ((i : Int) + 1) = ((i + 1 : Nat) : Int) -> step (L i l) = .br (decide ((i : Int) < i64.wrap ((n : Int) - 1))) (.ob (decide (0 <= (i : Int) /\ (i : Int) < (n : Int))) (.ob (decide (0 <= i64.wrap ((i : Int) + 1) /\ i64.wrap ((i : Int) + 1) < (n : Int))) (.obt (.obt (.obt (.obt (.obc (.obt (.br (p i) (.ret (.kb true)) (.next ρ (L (i64.wrap ((i : Int) + 1)) l) []))))))))) ) (.ret (.kb false))) :
 Ev step (L 0 l) (.bool (exB (n - 1) p)) := by
 have w0 : i64.wrap ((n : Int) - 1) = (n : Int) - 1 := wrapI (by omega) (by omega)
 have key := up_ind (n := n - 1) (P := fun i => (∀ j, j < i -> p j = false) -> Ev step (L i l) (.bool (exB (n - 1) p))) fun i hi ih hj => by
  have w1 : i64.wrap ((i : Int) + 1) = ((i + 1 : Nat) : Int) := by rw [wrapI (by omega) (by omega)]; omega
  refine Ev.of (by rw [hst i w1]; rfl) ?_
  rw [hst i w1]
  by_cases hlt : i < n - 1
  ·refine evBrT (decide_eq_true (by rw [w0]; omega)) (evOb (decide_eq_true (by omega)) (evOb (decide_eq_true (by rw [w1]; omega)) (evObt (evObt (evObt (evObt (evObc (evObt (evBr (fun hb => evRet ?_) (fun hb => evNext ?_))))))))))
   ·rw [exB_true i hlt hb]; rfl
   ·rw [w1]; exact ih hlt fun j h1 => by
     by_cases e : j = i
     ·subst e; exact hb
     ·exact hj j (by omega)
  ·refine evBrF (decide_eq_false (by rw [w0]; omega)) (evRet ?_)
   have : i = n - 1 := by omega
   subst this
   rw [exB_false hj]; rfl
 exact key 0 (Nat.zero_le _) fun j hj => by omega
end
end Go.Dx
namespace Go.Dx
open Go.IntKind (i64 u64 u8)
open Go.Sx
end Go.Dx
namespace Go.Dx
open Go.IntKind (i64 u64 u8)
theorem maxTo_ge {p : Nat -> Int} {i : Nat} : ∀ {n : Nat}, i < n -> p i <= maxTo p n
 | n + 1, h => by
   simp only [maxTo]
   by_cases e : i = n
   ·subst e; omega
   ·have := maxTo_ge (p := p) (i := i) (n := n) (by omega); omega
theorem maxTo_le {p : Nat -> Int} {B : Int} (hB : 0 <= B) : ∀ {n : Nat}, (∀ i, i < n -> p i <= B) -> maxTo p n <= B
 | 0, _ => hB
 | n + 1, h => by
   simp only [maxTo]
   have := maxTo_le (p := p) hB (n := n) fun i hi => h i (by omega)
   have := h n (by omega); omega
end Go.Dx
namespace Go.Dx
open Go.IntKind (i64 u64 u8)
open Go.Sx Go.Proofs
noncomputable section
def ctB16c : CTab := (111, .con C111) :: (56, .con C56) :: (47, .con C47) :: ctB16b
theorem tabB16c : TabOk Tryz.prog eqs its ctB16c := .con ok111 (.con ok56 (.con ok47 (tabB16b)))
inductive S108 where
 | L0 (ia0 : Int)
def inv108 (n0 : Nat) (f0 : FnV) (x2 x3 x4 x5 x6 x7 x8 x9 : Int) (b10 : Bool) : S108 -> Env × List O × Option Ex
 | .L0 ia0 => ([(8, vi ia0), (7, vi (↑n0 : Int)), (6, V.sl n0 (elV tp2 f0)), (4, vi 0), (0, V.sl n0 (elV tp2 f0)), (1, V.fn 56 [] [V.pd [vi x2, vi x3, vi x4, vi x5, vi x6, vi x7, vi x8, vi x9, V.bool b10]])], [], none)
def id108 : S108 -> JJ
 | .L0 ia0 => (0, [])
def rl108 (n0 : Nat) (f0 : FnV) (x2 x3 x4 x5 x6 x7 x8 x9 : Int) (b10 : Bool) : T (Leaf JJ) := runL JJ ctB16c u0 s108 [V.sl n0 (elV tp2 f0), V.fn 56 [] [V.pd [vi x2, vi x3, vi x4, vi x5, vi x6, vi x7, vi x8, vi x9, V.bool b10]]]
def lp108_0 (n0 : Nat) (f0 : FnV) (x2 x3 x4 x5 x6 x7 x8 x9 : Int) (b10 : Bool) (cx : List Cx) : Lp JJ := lpT (atT (rl108 n0 f0 x2 x3 x4 x5 x6 x7 x8 x9 b10) [])
def lp108 (n0 : Nat) (f0 : FnV) (x2 x3 x4 x5 x6 x7 x8 x9 : Int) (b10 : Bool) : JJ -> Lp JJ
 | (0, cx) => lp108_0 n0 f0 x2 x3 x4 x5 x6 x7 x8 x9 b10 cx
 | (_, cx) => lp108_0 n0 f0 x2 x3 x4 x5 x6 x7 x8 x9 b10 cx
def D108 (n0 : Nat) (f0 : FnV) (x2 x3 x4 x5 x6 x7 x8 x9 : Int) (b10 : Bool) : LD JJ S108 := ⟨id108, lp108 n0 f0 x2 x3 x4 x5 x6 x7 x8 x9 b10, inv108 n0 f0 x2 x3 x4 x5 x6 x7 x8 x9 b10⟩
def st108 (n0 : Nat) (f0 : FnV) (x2 x3 x4 x5 x6 x7 x8 x9 : Int) (b10 : Bool) : S108 -> RT S108
 | .L0 ia0 => .br (decide (ia0 < (↑n0 : Int))) (.ob (decide (0 <= ia0 /\ ia0 < (↑n0 : Int))) (.obc (.obt (.br (F56_0 (jv0 (f0 ia0.toNat)) (jv1 (f0 ia0.toNat)) x2 x3 x4 x5 x6 x7 x8 x9 b10) (.ret (vi ia0)) (.next [] (S108.L0 (i64.wrap (ia0 + 1))) []))))) (.ret (vi (-1)))
def m108 (n0 : Nat) (f0 : FnV) (x2 x3 x4 x5 x6 x7 x8 x9 : Int) (b10 : Bool) : RT S108 := .asm (true = true -> n0 <= 9223372036854775807) (.enter [] (S108.L0 (0)) [])
theorem run108 (n0 : Nat) (f0 : FnV) (x2 x3 x4 x5 x6 x7 x8 x9 : Int) (b10 : Bool) : Fits ctB16c u0 (D108 n0 f0 x2 x3 x4 x5 x6 x7 x8 x9 b10) (rl108 n0 f0 x2 x3 x4 x5 x6 x7 x8 x9 b10) (m108 n0 f0 x2 x3 x4 x5 x6 x7 x8 x9 b10) (st108 n0 f0 x2 x3 x4 x5 x6 x7 x8 x9 b10) := ⟨⟨by kernel_rfl, by kernel_rfl⟩, fun s => by cases s <;> exact ⟨by kernel_rfl, by kernel_rfl⟩⟩
def F108 (n0 : Nat) (f0 : FnV) (x2 x3 x4 x5 x6 x7 x8 x9 : Int) (b10 : Bool) : Int   := idx n0 fun ii => F56_0 (jv0 (f0 ii)) (jv1 (f0 ii)) x2 x3 x4 x5 x6 x7 x8 x9 b10
theorem ev108_0 (n0 : Nat) (f0 : FnV) (x2 x3 x4 x5 x6 x7 x8 x9 : Int) (b10 : Bool) : evR (Ev (st108 n0 f0 x2 x3 x4 x5 x6 x7 x8 x9 b10)) (m108 n0 f0 x2 x3 x4 x5 x6 x7 x8 x9 b10) (.int .i64 (F108 n0 f0 x2 x3 x4 x5 x6 x7 x8 x9 b10)) := evAsm1 fun hn => evEnter (idx_ev hn fun i => rfl)
theorem ev108 (n0 : Nat) (f0 : FnV) (x2 x3 x4 x5 x6 x7 x8 x9 : Int) (b10 : Bool) : evR (Ev (st108 n0 f0 x2 x3 x4 x5 x6 x7 x8 x9 b10)) (m108 n0 f0 x2 x3 x4 x5 x6 x7 x8 x9 b10) (.int .i64 (F108 n0 (elV tp2 f0) x2 x3 x4 x5 x6 x7 x8 x9 b10)) := ev108_0 n0 f0 x2 x3 x4 x5 x6 x7 x8 x9 b10
def C108 : PCon := mkC [.sl tp2, .fn 56 [] [.pd [.int .i64, .int .i64, .int .i64, .int .i64, .int .i64, .int .i64, .int .i64, .int .i64, .bool]]] (fun _ => True) fun
 | [.sl n0 f0, .fn _ [] [.pd [.int _ x2, .int _ x3, .int _ x4, .int _ x5, .int _ x6, .int _ x7, .int _ x8, .int _ x9, .bool b10]]] => .int .i64 (F108 n0 f0 x2 x3 x4 x5 x6 x7 x8 x9 b10)
 | _ => .any
theorem ok108 : (vP C108).Ok Tryz.prog 108 := mkE tabB16c Tryz.func108 (by kernel_rfl) fun ds hp => rfs (run108 ..) (ev108 _ _ _ _ _ _ _ _ _ _ _)
inductive S46 where
 | L0 (ia0 : Int)
def inv46 (n0 : Nat) (f0 : FnV) (n2 : Nat) (f2 : FnV) (n4 : Nat) (f4 : FnV) (n6 : Nat) (f6 : FnV) (n8 : Nat) (f8 : FnV) (x10 x11 x12 : Int) : S46 -> Env × List O × Option Ex
 | .L0 ia0 => ([(8, vi ia0), (7, vi (↑n0 : Int)), (6, V.sl n0 (elV tyT f0)), (4, vi 0), (0, V.sl n0 (elV tyT f0)), (1, V.fn 47 [] [V.pd [V.sl n2 (elV tyR f2), V.sl n4 (elV tyT f4), V.sl n6 (elV tyF f6), V.sl n8 (elV tyC f8)], V.pd [vi x10], V.pd [vi x11], V.pd [vi x12]])], [], none)
def id46 : S46 -> JJ
 | .L0 ia0 => (0, [])
def rl46 (n0 : Nat) (f0 : FnV) (n2 : Nat) (f2 : FnV) (n4 : Nat) (f4 : FnV) (n6 : Nat) (f6 : FnV) (n8 : Nat) (f8 : FnV) (x10 x11 x12 : Int) : T (Leaf JJ) := runL JJ ctB16c u0 s46 [V.sl n0 (elV tyT f0), V.fn 47 [] [V.pd [V.sl n2 (elV tyR f2), V.sl n4 (elV tyT f4), V.sl n6 (elV tyF f6), V.sl n8 (elV tyC f8)], V.pd [vi x10], V.pd [vi x11], V.pd [vi x12]]]
def lp46_0 (n0 : Nat) (f0 : FnV) (n2 : Nat) (f2 : FnV) (n4 : Nat) (f4 : FnV) (n6 : Nat) (f6 : FnV) (n8 : Nat) (f8 : FnV) (x10 x11 x12 : Int) (cx : List Cx) : Lp JJ := lpT (atT (rl46 n0 f0 n2 f2 n4 f4 n6 f6 n8 f8 x10 x11 x12) [])
def lp46 (n0 : Nat) (f0 : FnV) (n2 : Nat) (f2 : FnV) (n4 : Nat) (f4 : FnV) (n6 : Nat) (f6 : FnV) (n8 : Nat) (f8 : FnV) (x10 x11 x12 : Int) : JJ -> Lp JJ
 | (0, cx) => lp46_0 n0 f0 n2 f2 n4 f4 n6 f6 n8 f8 x10 x11 x12 cx
 | (_, cx) => lp46_0 n0 f0 n2 f2 n4 f4 n6 f6 n8 f8 x10 x11 x12 cx
def D46 (n0 : Nat) (f0 : FnV) (n2 : Nat) (f2 : FnV) (n4 : Nat) (f4 : FnV) (n6 : Nat) (f6 : FnV) (n8 : Nat) (f8 : FnV) (x10 x11 x12 : Int) : LD JJ S46 := ⟨id46, lp46 n0 f0 n2 f2 n4 f4 n6 f6 n8 f8 x10 x11 x12, inv46 n0 f0 n2 f2 n4 f4 n6 f6 n8 f8 x10 x11 x12⟩
def st46 (n0 : Nat) (f0 : FnV) (n2 : Nat) (f2 : FnV) (n4 : Nat) (f4 : FnV) (n6 : Nat) (f6 : FnV) (n8 : Nat) (f8 : FnV) (x10 x11 x12 : Int) : S46 -> RT S46
 | .L0 ia0 => .br (decide (ia0 < (↑n0 : Int))) (.ob (decide (0 <= ia0 /\ ia0 < (↑n0 : Int))) (.obp ((0 : Int) <= x10 /\ x10 < (↑n8 : Int)) (.obt (.br (F47_0 (jv0 (f0 ia0.toNat)) (jv1 (f0 ia0.toNat)) (jv2 (f0 ia0.toNat)) (jv3 (f0 ia0.toNat)) (jv4 (f0 ia0.toNat)) (elV tyC f8) x10 x11 x12) (.ret (vi ia0)) (.next [] (S46.L0 (i64.wrap (ia0 + 1))) []))))) (.ret (vi (-1)))
def m46 (n0 : Nat) (f0 : FnV) (n2 : Nat) (f2 : FnV) (n4 : Nat) (f4 : FnV) (n6 : Nat) (f6 : FnV) (n8 : Nat) (f8 : FnV) (x10 x11 x12 : Int) : RT S46 := .asm (true = true -> n0 <= 9223372036854775807) (.enter [] (S46.L0 (0)) [])
theorem run46 (n0 : Nat) (f0 : FnV) (n2 : Nat) (f2 : FnV) (n4 : Nat) (f4 : FnV) (n6 : Nat) (f6 : FnV) (n8 : Nat) (f8 : FnV) (x10 x11 x12 : Int) : Fits ctB16c u0 (D46 n0 f0 n2 f2 n4 f4 n6 f6 n8 f8 x10 x11 x12) (rl46 n0 f0 n2 f2 n4 f4 n6 f6 n8 f8 x10 x11 x12) (m46 n0 f0 n2 f2 n4 f4 n6 f6 n8 f8 x10 x11 x12) (st46 n0 f0 n2 f2 n4 f4 n6 f6 n8 f8 x10 x11 x12) := ⟨⟨by kernel_rfl, by kernel_rfl⟩, fun s => by cases s <;> exact ⟨by kernel_rfl, by kernel_rfl⟩⟩
def F46 (n0 : Nat) (f0 f8 : FnV) (x10 x11 x12 : Int) : Int   := idx n0 fun ii => F47_0 (jv0 (f0 ii)) (jv1 (f0 ii)) (jv2 (f0 ii)) (jv3 (f0 ii)) (jv4 (f0 ii)) (elV tyC f8) x10 x11 x12
theorem ev46_0 (n0 : Nat) (f0 : FnV) (n2 : Nat) (f2 : FnV) (n4 : Nat) (f4 : FnV) (n6 : Nat) (f6 : FnV) (n8 : Nat) (f8 : FnV) (x10 x11 x12 : Int) (hp : 0 <= x10 /\ x10 < (n8 : Int)) : evR (Ev (st46 n0 f0 n2 f2 n4 f4 n6 f6 n8 f8 x10 x11 x12)) (m46 n0 f0 n2 f2 n4 f4 n6 f6 n8 f8 x10 x11 x12) (.int .i64 (F46 n0 f0 f8 x10 x11 x12)) := evAsm1 fun hn => evEnter (idx_evW (Q := fun ii => (0 : Int) <= x10 /\ x10 < (↑n8 : Int)) (fun ii x => .obp ((0 : Int) <= x10 /\ x10 < (↑n8 : Int)) (.obt x)) (fun i x r h hx => evObp h (evObt hx)) (fun _ _ => rfl) hn (fun _ _ => hp) fun i => rfl)
theorem ev46 (n0 : Nat) (f0 : FnV) (n2 : Nat) (f2 : FnV) (n4 : Nat) (f4 : FnV) (n6 : Nat) (f6 : FnV) (n8 : Nat) (f8 : FnV) (x10 x11 x12 : Int) (hp : 0 <= x10 /\ x10 < (n8 : Int)) : evR (Ev (st46 n0 f0 n2 f2 n4 f4 n6 f6 n8 f8 x10 x11 x12)) (m46 n0 f0 n2 f2 n4 f4 n6 f6 n8 f8 x10 x11 x12) (.int .i64 (F46 n0 (elV tyT f0) (elV tyC f8) x10 x11 x12)) := ev46_0 n0 f0 n2 f2 n4 f4 n6 f6 n8 f8 x10 x11 x12 hp
def C46 : PCon := mkC [.sl tyT, .fn 47 [] [.pd [.sl tyR, .sl tyT, .sl tyF, .sl tyC], .pd tp1, .pd tp1, .pd tp1]] (fun
 | [.sl n0 f0, .fn _ [] [.pd [.sl n2 f2, .sl n4 f4, .sl n6 f6, .sl n8 f8], .pd [.int _ x10], .pd [.int _ x11], .pd [.int _ x12]]] => 0 <= x10 /\ x10 < (n8 : Int)
 | _ => False) fun
 | [.sl n0 f0, .fn _ [] [.pd [.sl n2 f2, .sl n4 f4, .sl n6 f6, .sl n8 f8], .pd [.int _ x10], .pd [.int _ x11], .pd [.int _ x12]]] => .int .i64 (F46 n0 f0 f8 x10 x11 x12)
 | _ => .any
theorem ok46 : (vP C46).Ok Tryz.prog 46 := mkE tabB16c Tryz.func46 (by kernel_rfl) fun ds hp => rfs (run46 ..) (ev46 _ _ _ _ _ _ _ _ _ _ _ _ _ hp)
end
noncomputable section
def ctB16d : CTab := [(108, .con C108), (46, .con C46), (111, .con C111), (56, .con C56), (47, .con C47), (145, .con C145), (140, .con C140), (49, .con C49), (123, .con C123), (44, .con C44), (23, .con C23), (62, .con C62), (68, .con C68), (63, .con C63), (69, .con C69), (117, .inl s117 u0), (116, .inl s116 u0), (115, .con C115), (114, .con C114), (147, .con C147), (64, .con C64), (66, .con C66), (113, .con C113), (65, .con C65), (67, .con C67), (53, .con C53), (45, .con C45), (90, .con C90), (119, .con C119), (121, .con C121), (99, .con C99), (129, .con C129), (148, .con C148), (149, .con C149), (112, .con C112), (118, .con C118), (120, .con C120), (133, .con C133), (103, .con C103), (100, .con C100), (134, .con C134), (135, .con C135), (78, .con C78), (54, .con C54), (48, .con C48), (102, .con C102), (84, .con C84), (85, .con C85), (127, .con C127), (101, .con C101), (86, .con C86), (162, .con C162), (146, .con C146), (83, .inl s83 u0)]
theorem tabB16d : TabOk Tryz.prog eqs its ctB16d := .con ok108 (.con ok46 (.con ok111 (.con ok56 (.con ok47 (.con ok145 (.con ok140 (.con ok49 (.con ok123 (.con ok44 (.con ok23 (.con ok62 (.con ok68 (.con ok63 (.con ok69 (.inl Tryz.func117 (by kernel_rfl) (by kernel_rfl) (by kernel_rfl) (.inl Tryz.func116 (by kernel_rfl) (by kernel_rfl) (by kernel_rfl) (.con ok115 (.con ok114 (.con ok147 (.con ok64 (.con ok66 (.con ok113 (.con ok65 (.con ok67 (.con ok53 (.con ok45 (.con ok90 (.con ok119 (.con ok121 (.con ok99 (.con ok129 (.con ok148 (.con ok149 (.con ok112 (.con ok118 (.con ok120 (.con ok133 (.con ok103 (.con ok100 (.con ok134 (.con ok135 (.con ok78 (.con ok54 (.con ok48 (.con ok102 (.con ok84 (.con ok85 (.con ok127 (.con ok101 (.con ok86 (.con ok162 (.con ok146 (.inl Tryz.func83 (by kernel_rfl) (by kernel_rfl) (by kernel_rfl) (.nil))))))))))))))))))))))))))))))))))))))))))))))))))))))
def m55 (n0 : Nat) (f0 : FnV) (x2 x3 x4 x5 x6 x7 x8 x9 : Int) (b10 : Bool) : RT Empty := .obc (.obt (.ret (V.bool (decide (0 <= F108 n0 (elV tp2 f0) x2 x3 x4 x5 x6 x7 x8 x9 b10)))))
theorem run55 (n0 : Nat) (f0 : FnV) (x2 x3 x4 x5 x6 x7 x8 x9 : Int) (b10 : Bool) : Fit noD (runL JJ ctB16d u0 s55 [V.sl n0 (elV tp2 f0), V.fn 56 [] [V.pd [vi x2, vi x3, vi x4, vi x5, vi x6, vi x7, vi x8, vi x9, V.bool b10]]]) (m55 n0 f0 x2 x3 x4 x5 x6 x7 x8 x9 b10) := ⟨by kernel_rfl, by kernel_rfl⟩
def F55_0 (n0 : Nat) (f0 : FnV) (x2 x3 x4 x5 x6 x7 x8 x9 : Int) (b10 : Bool) : Bool := decide (0 <= F108 n0 (elV tp2 f0) x2 x3 x4 x5 x6 x7 x8 x9 b10)
def R55 (n0 : Nat) (f0 : FnV) (x2 x3 x4 x5 x6 x7 x8 x9 : Int) (b10 : Bool) : V := .bool (F55_0 n0 f0 x2 x3 x4 x5 x6 x7 x8 x9 b10)
theorem ev55 (n0 : Nat) (f0 : FnV) (x2 x3 x4 x5 x6 x7 x8 x9 : Int) (b10 : Bool) : evR noE (m55 n0 f0 x2 x3 x4 x5 x6 x7 x8 x9 b10) (R55 n0 f0 x2 x3 x4 x5 x6 x7 x8 x9 b10) := evObc (evObt (evRet (by unfold R55 F55_0; rfl)))
def C55 : PCon := mkC [.sl tp2, .fn 56 [] [.pd [.int .i64, .int .i64, .int .i64, .int .i64, .int .i64, .int .i64, .int .i64, .int .i64, .bool]]] (fun _ => True) fun
 | [.sl n0 f0, .fn _ [] [.pd [.int _ x2, .int _ x3, .int _ x4, .int _ x5, .int _ x6, .int _ x7, .int _ x8, .int _ x9, .bool b10]]] => R55 n0 f0 x2 x3 x4 x5 x6 x7 x8 x9 b10
 | _ => .any
theorem ok55 : (vP C55).Ok Tryz.prog 55 := mkE tabB16d Tryz.func55 (by kernel_rfl) fun ds hp => rf0 (run55 ..) (ev55 _ _ _ _ _ _ _ _ _ _ _)
inductive S61 where
 | L0 (ia0 : Int) (na1 : Nat) (ia2 : Int)
def inv61 (s0 : ByteArray) (x1 : Int) (n2 : Nat) (f2 : FnV) (x4 x5 x6 x7 x8 : Int) : S61 -> Env × List O × Option Ex
 | .L0 ia0 na1 ia2 => ([(10, vi ia0), (9, vi (i64.wrap ((↑n2 : Int) - 1))), (8, vi (↑n2 : Int)), (7, V.sl n2 (elV tp2 f2)), (6, V.pl 3 2), (0, V.yl na1), (1, V.pl 3 0)], [O.cells [V.str s0, vi x1, V.sl n2 (elV tp2 f2), vi x4] 54, O.cells [vi x5, vi x6, vi x7, vi x8] 29, O.cells [vi ia2] 3, O.cells [V.str s0, vi x1, V.sl n2 (elV tp2 f2), vi x4] 54], none)
def id61 : S61 -> JJ
 | .L0 ia0 na1 ia2 => (0, [Cx.n na1])
def rl61 (s0 : ByteArray) (x1 : Int) (n2 : Nat) (f2 : FnV) (x4 x5 x6 x7 x8 : Int) : T (Leaf JJ) := runL JJ ctB16d u0 s61 [V.agg [V.str s0, vi x1, V.sl n2 (elV tp2 f2), vi x4], V.agg [vi x5, vi x6, vi x7, vi x8]]
def lp61_0 (s0 : ByteArray) (x1 : Int) (n2 : Nat) (f2 : FnV) (x4 x5 x6 x7 x8 : Int) (cx : List Cx) : Lp JJ := lpT (atT (afT (atT (rl61 s0 x1 n2 f2 x4 x5 x6 x7 x8) []) (cxn cx 0)) [])
def lp61 (s0 : ByteArray) (x1 : Int) (n2 : Nat) (f2 : FnV) (x4 x5 x6 x7 x8 : Int) : JJ -> Lp JJ
 | (0, cx) => lp61_0 s0 x1 n2 f2 x4 x5 x6 x7 x8 cx
 | (_, cx) => lp61_0 s0 x1 n2 f2 x4 x5 x6 x7 x8 cx
def D61 (s0 : ByteArray) (x1 : Int) (n2 : Nat) (f2 : FnV) (x4 x5 x6 x7 x8 : Int) : LD JJ S61 := ⟨id61, lp61 s0 x1 n2 f2 x4 x5 x6 x7 x8, inv61 s0 x1 n2 f2 x4 x5 x6 x7 x8⟩
def st61 (s0 : ByteArray) (x1 : Int) (n2 : Nat) (f2 : FnV) (x4 x5 x6 x7 x8 : Int) : S61 -> RT S61
 | .L0 ia0 na1 ia2 => .br (decide (ia0 < i64.wrap ((↑n2 : Int) - 1))) (.ob (decide (0 <= ia0 /\ ia0 < (↑n2 : Int))) (.ob (decide (0 <= i64.wrap (ia0 + 1) /\ i64.wrap (ia0 + 1) < (↑n2 : Int))) (.obt (.obt (.obt (.obt (.obc (.obt (.next (iR 0 4 []) (S61.L0 (i64.wrap (ia0 + 1)) (na1) (max ia2 (F111_0 (i64.wrap (2 * jv0 (f2 ia0.toNat))) (i64.wrap (2 * jv1 (f2 ia0.toNat))) (i64.wrap (2 * jv0 (f2 (i64.wrap (ia0 + 1)).toNat))) (i64.wrap (2 * jv1 (f2 (i64.wrap (ia0 + 1)).toNat))) x4 x5 x6 x7 x8))) []))))))))) (.ret (vi ia2))
def m61 (s0 : ByteArray) (x1 : Int) (n2 : Nat) (f2 : FnV) (x4 x5 x6 x7 x8 : Int) : RT S61 := .all (fun l_6416 => .asm (true = true -> n2 <= 9223372036854775807) (.enter (iR 0 4 []) (S61.L0 (0) (l_6416) (0)) []))
theorem run61 (s0 : ByteArray) (x1 : Int) (n2 : Nat) (f2 : FnV) (x4 x5 x6 x7 x8 : Int) : Fits ctB16d u0 (D61 s0 x1 n2 f2 x4 x5 x6 x7 x8) (rl61 s0 x1 n2 f2 x4 x5 x6 x7 x8) (m61 s0 x1 n2 f2 x4 x5 x6 x7 x8) (st61 s0 x1 n2 f2 x4 x5 x6 x7 x8) := ⟨⟨by kernel_rfl, by kernel_rfl⟩, fun s => by cases s <;> exact ⟨by kernel_rfl, by kernel_rfl⟩⟩
def p61 (n2 : Nat) (f2 : FnV) (x4 x5 x6 x7 x8 : Int) (ii : Nat) : Int := F111_0 (i64.wrap (2 * jv0 (f2 ii))) (i64.wrap (2 * jv1 (f2 ii))) (i64.wrap (2 * jv0 (f2 (i64.wrap ((ii : Int) + 1)).toNat))) (i64.wrap (2 * jv1 (f2 (i64.wrap ((ii : Int) + 1)).toNat))) x4 x5 x6 x7 x8
def F61 (n2 : Nat) (f2 : FnV) (x4 x5 x6 x7 x8 : Int) : Int := maxTo (p61 n2 f2 x4 x5 x6 x7 x8) (n2 - 1)
theorem ev61_0 (s0 : ByteArray) (x1 : Int) (n2 : Nat) (f2 : FnV) (x4 x5 x6 x7 x8 : Int) : evR (Ev (st61 s0 x1 n2 f2 x4 x5 x6 x7 x8)) (m61 s0 x1 n2 f2 x4 x5 x6 x7 x8) (.int .i64 (F61 n2 f2 x4 x5 x6 x7 x8)) := evAll fun l => evAsm1 fun hn => evEnter (pieces_ev hn fun i a _ => rfl)
theorem ev61 (s0 : ByteArray) (x1 : Int) (n2 : Nat) (f2 : FnV) (x4 x5 x6 x7 x8 : Int) : evR (Ev (st61 s0 x1 n2 f2 x4 x5 x6 x7 x8)) (m61 s0 x1 n2 f2 x4 x5 x6 x7 x8) (.int .i64 (F61 n2 (elV tp2 f2) x4 x5 x6 x7 x8)) := ev61_0 s0 x1 n2 f2 x4 x5 x6 x7 x8
def C61 : PCon := mkC [.agg tyR, .agg tp4] (fun _ => True) fun
 | [.agg [.str s0, .int _ x1, .sl n2 f2, .int _ x4], .agg [.int _ x5, .int _ x6, .int _ x7, .int _ x8]] => .int .i64 (F61 n2 f2 x4 x5 x6 x7 x8)
 | _ => .any
theorem ok61 : (vP C61).Ok Tryz.prog 61 := mkE tabB16d Tryz.func61 (by kernel_rfl) fun ds hp => rfs (run61 ..) (ev61 _ _ _ _ _ _ _ _ _)
inductive S74 where
 | L0 (ia0 : Int) (na1 : Nat)
def inv74 (s0 : ByteArray) (x1 : Int) (n2 : Nat) (f2 : FnV) (x4 x5 x6 : Int) : S74 -> Env × List O × Option Ex
 | .L0 ia0 na1 => ([(10, vi ia0), (9, vi (i64.wrap ((↑n2 : Int) - 1))), (8, vi (↑n2 : Int)), (7, V.sl n2 (elV tp2 f2)), (6, V.pl 4 2), (0, V.yl na1), (1, V.pl 4 0)], [O.cells [V.str s0, vi x1, V.sl n2 (elV tp2 f2), vi x4] 54, O.cells [vi x5] 3, O.cells [vi x6] 3, O.cells [V.kb false] 4, O.cells [V.str s0, vi x1, V.sl n2 (elV tp2 f2), vi x4] 54], none)
def id74 : S74 -> JJ
 | .L0 ia0 na1 => (0, [Cx.n na1])
def rl74 (s0 : ByteArray) (x1 : Int) (n2 : Nat) (f2 : FnV) (x4 x5 x6 : Int) : T (Leaf JJ) := runL JJ ctB16d u0 s74 [V.agg [V.str s0, vi x1, V.sl n2 (elV tp2 f2), vi x4], vi x5, vi x6]
def lp74_0 (s0 : ByteArray) (x1 : Int) (n2 : Nat) (f2 : FnV) (x4 x5 x6 : Int) (cx : List Cx) : Lp JJ := lpT (atT (afT (atT (rl74 s0 x1 n2 f2 x4 x5 x6) []) (cxn cx 0)) [])
def lp74 (s0 : ByteArray) (x1 : Int) (n2 : Nat) (f2 : FnV) (x4 x5 x6 : Int) : JJ -> Lp JJ
 | (0, cx) => lp74_0 s0 x1 n2 f2 x4 x5 x6 cx
 | (_, cx) => lp74_0 s0 x1 n2 f2 x4 x5 x6 cx
def D74 (s0 : ByteArray) (x1 : Int) (n2 : Nat) (f2 : FnV) (x4 x5 x6 : Int) : LD JJ S74 := ⟨id74, lp74 s0 x1 n2 f2 x4 x5 x6, inv74 s0 x1 n2 f2 x4 x5 x6⟩
def st74 (s0 : ByteArray) (x1 : Int) (n2 : Nat) (f2 : FnV) (x4 x5 x6 : Int) : S74 -> RT S74
 | .L0 ia0 na1 => .br (decide (ia0 < i64.wrap ((↑n2 : Int) - 1))) (.ob (decide (0 <= ia0 /\ ia0 < (↑n2 : Int))) (.ob (decide (0 <= i64.wrap (ia0 + 1) /\ i64.wrap (ia0 + 1) < (↑n2 : Int))) (.obt (.obt (.obt (.obt (.obc (.obt (.br (F123_0 (i64.wrap (2 * jv0 (f2 ia0.toNat))) (i64.wrap (2 * jv1 (f2 ia0.toNat))) (i64.wrap (2 * jv0 (f2 (i64.wrap (ia0 + 1)).toNat))) (i64.wrap (2 * jv1 (f2 (i64.wrap (ia0 + 1)).toNat))) x4 x5 x6) (.ret (V.kb true)) (.next (iR 0 5 []) (S74.L0 (i64.wrap (ia0 + 1)) (na1)) [])))))))))) (.ret (V.kb false))
def m74 (s0 : ByteArray) (x1 : Int) (n2 : Nat) (f2 : FnV) (x4 x5 x6 : Int) : RT S74 := .all (fun l_6589 => .asm (true = true -> n2 <= 9223372036854775807) (.enter (iR 0 5 []) (S74.L0 (0) (l_6589)) []))
theorem run74 (s0 : ByteArray) (x1 : Int) (n2 : Nat) (f2 : FnV) (x4 x5 x6 : Int) : Fits ctB16d u0 (D74 s0 x1 n2 f2 x4 x5 x6) (rl74 s0 x1 n2 f2 x4 x5 x6) (m74 s0 x1 n2 f2 x4 x5 x6) (st74 s0 x1 n2 f2 x4 x5 x6) := ⟨⟨by kernel_rfl, by kernel_rfl⟩, fun s => by cases s <;> exact ⟨by kernel_rfl, by kernel_rfl⟩⟩
def p74 (n2 : Nat) (f2 : FnV) (x4 x5 x6 : Int) (ii : Nat) : Bool := F123_0 (i64.wrap (2 * jv0 (f2 ii))) (i64.wrap (2 * jv1 (f2 ii))) (i64.wrap (2 * jv0 (f2 (i64.wrap ((ii : Int) + 1)).toNat))) (i64.wrap (2 * jv1 (f2 (i64.wrap ((ii : Int) + 1)).toNat))) x4 x5 x6
def F74 (n2 : Nat) (f2 : FnV) (x4 x5 x6 : Int) : Bool := exB (n2 - 1) (p74 n2 f2 x4 x5 x6)
theorem ev74_0 (s0 : ByteArray) (x1 : Int) (n2 : Nat) (f2 : FnV) (x4 x5 x6 : Int) : evR (Ev (st74 s0 x1 n2 f2 x4 x5 x6)) (m74 s0 x1 n2 f2 x4 x5 x6) (.bool (F74 n2 f2 x4 x5 x6)) := evAll fun l => evAsm1 fun hn => evEnter (pieces_ex hn fun i _ => rfl)
theorem ev74 (s0 : ByteArray) (x1 : Int) (n2 : Nat) (f2 : FnV) (x4 x5 x6 : Int) : evR (Ev (st74 s0 x1 n2 f2 x4 x5 x6)) (m74 s0 x1 n2 f2 x4 x5 x6) (.bool (F74 n2 (elV tp2 f2) x4 x5 x6)) := ev74_0 s0 x1 n2 f2 x4 x5 x6
def C74 : PCon := mkC [.agg tyR, .int .i64, .int .i64] (fun _ => True) fun
 | [.agg [.str s0, .int _ x1, .sl n2 f2, .int _ x4], .int _ x5, .int _ x6] => .bool (F74 n2 f2 x4 x5 x6)
 | _ => .any
theorem ok74 : (vP C74).Ok Tryz.prog 74 := mkE tabB16d Tryz.func74 (by kernel_rfl) fun ds hp => rfs (run74 ..) (ev74 _ _ _ _ _ _ _)
end
end Go.Dx
