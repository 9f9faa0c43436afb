/- Part 4 of a proof. No conditions. -/
import Derived.Test.YtkdokmjehblpoaaGreatDoorRl3
import Derived.Test.YtkdokmjehblpoaaGreatDoorChecked
import Derived.IntWalk
import Derived.WalkKit
import Derived.Ground.NamesProg
import Derived.Shelf.Strings.SlTrimAscii
set_option maxRecDepth 100000
set_option linter.unusedVariables false
set_option linter.unusedSimpArgs false
namespace Go.Dx
open Go.Sx
def sa (d a:Nat):SOp:=⟨some d,.mov (.t a),none⟩
def ea (d a:Nat):DOp:=⟨⟨some d,.mov (.t a),none⟩,none,[],[]⟩
def sb (d a:Nat):SOp:=⟨some d,.ld (.t a),none⟩
def eb (d a:Nat):DOp:=⟨⟨some d,.ld (.t a),none⟩,none,[],[]⟩
def sc (d n a:Nat):SOp:=⟨some d,.lds n (.t a),none⟩
def ec (d n a:Nat):DOp:=⟨⟨some d,.lds n (.t a),none⟩,none,[],[]⟩
def se (d n a:Nat):SOp:=⟨some d,.fa n (.t a),none⟩
def ee (d n a:Nat):DOp:=⟨⟨some d,.fa n (.t a),none⟩,none,[],[]⟩
def ki (n:Int):Arg:=.k (.int .i64 n)
def gt (d:Nat) (p:IOp) (g:Nat):DOp:=⟨⟨some d,p,some (g,true)⟩,none,[],[]⟩
def gf (d:Nat) (p:IOp) (g:Nat):DOp:=⟨⟨some d,p,some (g,false)⟩,none,[],[]⟩
def b1 (d:Nat) (o:BinOp) (a b:Nat):SOp:=⟨some d,.bin o (.t a) (.t b),none⟩
def d1 (d:Nat) (o:BinOp) (a b:Nat):DOp:=⟨⟨some d,.bin o (.t a) (.t b),none⟩,none,[],[]⟩
def b2 (d:Nat) (o:BinOp) (a:Nat) (n:Int):SOp:=⟨some d,.bin o (.t a) (.k (.int .i64 n)),none⟩
def d2 (d:Nat) (o:BinOp) (a:Nat) (n:Int):DOp:=⟨⟨some d,.bin o (.t a) (.k (.int .i64 n)),none⟩,none,[],[]⟩
def b3 (d f:Nat) (l:List Nat):SOp:=⟨some d,.call f (l.map .t),none⟩
def d3 (d f:Nat) (l:List Nat):DOp:=⟨⟨some d,.call f (l.map .t),none⟩,none,[],[]⟩
def b4 (d a:Nat):SOp:=⟨some d,.len (.t a),none⟩
def d4 (d a:Nat):DOp:=⟨⟨some d,.len (.t a),none⟩,none,[],[]⟩
def b5 (d a:Nat):SOp:=⟨some d,.un .not (.t a),none⟩
def b6 (d:Nat) (n:Int):SOp:=⟨some d,.mov (.k (.int .i64 n)),none⟩
def b7 (d n a b:Nat):SOp:=⟨some d,.iaS n (.t a) (.t b),none⟩
def d7 (d n a b:Nat):DOp:=⟨⟨some d,.iaS n (.t a) (.t b),none⟩,none,[],[]⟩
def zs (n:Nat):List ab:=List.replicate n (.int .i64 0)
def b8 (n a b:Nat):SOp:=⟨none,.st n (.t a) (.t b),none⟩
def rg (l:List SOp) (c:dt):dt:=.seq (.reg l) c
def so (d:Nat) (p:IOp):SOp:=⟨some d,p,none⟩
def eo (d:Nat) (p:IOp):DOp:=⟨⟨some d,p,none⟩,none,[],[]⟩
def dz (o:SOp):DOp:=⟨o,none,[],[]⟩
def its:List fm:=[⟨128,46,(.seq (.reg [.op ⟨(some 6),.fa 2 (.t 1),none⟩,.op ⟨(some 7),.ld (.t 6),none⟩,.op ⟨(some 8),.len (.t 7),none⟩,.op ⟨(some 9),.bin .sub (.t 8) (ki 1),none⟩,.op ⟨(some 10),.mov (ki 0),none⟩]) (.block 0 (.loop (.seq (.reg [.op ⟨(some 11),.bin .lss (.t 10) (.t 9),none⟩]) (.seq (.cond (.t 11) .skip (.exit 0)) (.seq (.block 1 (.seq (.reg [.op ⟨(some 12),.mov (.t 10),none⟩,.op ⟨(some 3),.mov (.t 12),none⟩]) (.seq (.draw [⟨⟨(some 13),.fa 2 (.t 1),none⟩,none,[11,12],[]⟩,⟨⟨(some 14),.ld (.t 13),none⟩,none,[11,12],[]⟩,⟨⟨(some 15),.mov (.t 3),none⟩,none,[11,12],[]⟩,⟨⟨(some 16),.iaS 2 (.t 14) (.t 15),none⟩,none,[11,12],[]⟩,⟨⟨(some 17),.lds 2 (.t 16),none⟩,none,[11,12],[]⟩,⟨⟨(some 18),.fa 2 (.t 1),none⟩,none,[11,12,13],[]⟩,⟨⟨(some 19),.ld (.t 18),none⟩,none,[11,12,13],[]⟩,⟨⟨(some 20),.mov (.t 3),none⟩,none,[11,12,13],[]⟩,⟨⟨(some 21),.bin .add (.t 20) (ki 1),none⟩,none,[11,12,13],[]⟩,⟨⟨(some 22),.iaS 2 (.t 19) (.t 21),none⟩,none,[11,12,13],[]⟩,⟨⟨(some 23),.lds 2 (.t 22),none⟩,none,[11,12,13],[]⟩,⟨⟨(some 4),.new 72 (zs 2),none⟩,(some 0),[12],[.fresh 0]⟩,⟨⟨(some 5),.new 72 (zs 2),none⟩,(some 1),[11],[.fresh 1]⟩,⟨(b8 2 4 17),none,[],[.fresh 0]⟩,⟨(b8 2 5 23),none,[],[.fresh 1]⟩]) (.seq (.reg [.op ⟨(some 24),.mov (.t 0),none⟩,.op ⟨(some 25),.iaA 2 1 (.t 4) (ki 0),none⟩,.op ⟨(some 26),.ld (.t 25),none⟩,.op ⟨(some 27),.bin .mul (ki 2) (.t 26),none⟩,.op ⟨(some 28),.iaA 2 1 (.t 4) (ki 1),none⟩,.op ⟨(some 29),.ld (.t 28),none⟩,.op ⟨(some 30),.bin .mul (ki 2) (.t 29),none⟩,.op ⟨(some 31),.agg (zs 2) [(0,1,(.t 27)),(1,1,(.t 30))],none⟩,.op ⟨(some 32),.iaA 2 1 (.t 5) (ki 0),none⟩,.op ⟨(some 33),.ld (.t 32),none⟩,.op ⟨(some 34),.bin .mul (ki 2) (.t 33),none⟩,.op ⟨(some 35),.iaA 2 1 (.t 5) (ki 1),none⟩,.op ⟨(some 36),.ld (.t 35),none⟩,.op ⟨(some 37),.bin .mul (ki 2) (.t 36),none⟩,.op ⟨(some 38),.agg (zs 2) [(0,1,(.t 34)),(1,1,(.t 37))],none⟩,.op ⟨(some 39),.agg (zs 4) [(0,2,(.t 31)),(2,2,(.t 38))],none⟩,.op ⟨(some 40),.fa 3 (.t 1),none⟩,.op ⟨(some 41),.ld (.t 40),none⟩,.op ⟨(some 42),.agg (zs 5) [(0,4,(.t 39)),(4,1,(.t 41))],none⟩,.yld 24 (some 43) [(.t 42)],.op ⟨(some 44),.un .not (.t 43),none⟩]) (.cond (.t 44) .ret .skip))))) (.reg [.op ⟨(some 45),.bin .add (.t 10) (ki 1),none⟩,.op ⟨(some 10),.mov (.t 45),none⟩])))))))⟩]
def s13:aE:=⟨123,[.tmp 4],(rg [(so 2 (.box 27 (.t 0))),(so 4 (.mov (.k (.bool false))))] (rg [(sc 17 4 2),(b3 18 37 [17]),(sa 16 18),(so 19 (.ext (.t 16) 0)),(so 20 (.ext (.t 16) 1)),(sa 5 19),(sa 6 20)] (rg [(sc 22 4 2),(b3 23 38 [22]),(sa 21 23),(so 24 (.ext (.t 21) 0)),(so 25 (.ext (.t 21) 1)),(sa 7 24),(sa 8 25)] (rg [(sc 27 4 2),(sa 28 1),(b3 29 34 [27,28]),(sa 26 29),(so 30 (.ext (.t 26) 0)),(so 31 (.ext (.t 26) 1)),(sa 9 30),(sa 10 31)] (rg [(sc 33 4 2),(sa 34 1),(b3 35 39 [33,34]),(sa 32 35),(so 36 (.ext (.t 32) 0)),(so 37 (.ext (.t 32) 1)),(sa 11 36),(sa 12 37)] (.seq (rg [(sa 38 6),(sa 39 8),(b1 40 .neq 38 39),(sa 41 40),⟨(some 42),.mov (.t 10),(some (41,false))⟩,⟨(some 43),.mov (.t 12),(some (41,false))⟩,⟨(some 44),.bin .neq (.t 42) (.t 43),(some (41,false))⟩,(so 45 (.pick (.t 41) (.k (.bool true)) (.t 44))),(sa 46 45),⟨(some 47),.mov (.t 5),(some (46,false))⟩,⟨(some 48),.mov (.t 7),(some (46,false))⟩,⟨(some 49),.call 40 [(.t 47),(.t 48)],(some (46,false))⟩,⟨(some 50),.un .not (.t 49),(some (46,false))⟩,(so 51 (.pick (.t 46) (.k (.bool true)) (.t 50))),(sa 52 51),⟨(some 53),.mov (.t 9),(some (52,false))⟩,⟨(some 54),.mov (.t 11),(some (52,false))⟩,⟨(some 55),.call 40 [(.t 53),(.t 54)],(some (52,false))⟩,⟨(some 56),.un .not (.t 55),(some (52,false))⟩,(so 57 (.pick (.t 52) (.k (.bool true)) (.t 56)))] (.cond (.t 57) (rg [(so 4 (.mov (.k (.bool false))))] .ret) .skip)) (rg [(sc 59 4 2),(b3 60 41 [59]),(sa 58 60),(so 61 (.ext (.t 58) 0)),(so 62 (.ext (.t 58) 1)),(sa 13 61),(sa 6 62)] (rg [(sc 64 4 2),(b3 65 42 [64]),(sa 63 65),(so 66 (.ext (.t 63) 0)),(so 67 (.ext (.t 63) 1)),(sa 14 66),(sa 8 67)] (.seq (rg [(sa 68 6),(sa 69 8),(b1 70 .neq 68 69),(sa 71 70),⟨(some 72),.mov (.t 13),(some (71,false))⟩,⟨(some 73),.len (.t 72),(some (71,false))⟩,⟨(some 74),.mov (.t 14),(some (71,false))⟩,⟨(some 75),.len (.t 74),(some (71,false))⟩,⟨(some 76),.bin .neq (.t 73) (.t 75),(some (71,false))⟩,(so 77 (.pick (.t 71) (.k (.bool true)) (.t 76)))] (.cond (.t 77) (rg [(so 4 (.mov (.k (.bool false))))] .ret) .skip)) (.seq (rg [(b6 15 0)] (.block 0 (.loop (.seq (rg [(sa 78 15),(sa 79 13),(b4 80 79),(b1 81 .lss 78 80)] (.cond (.t 81) .skip (.exit 0))) (.seq (.block 1 (.seq (.draw [(ea 84 13),(ea 85 15),(d7 86 3 84 85),(ee 87 0 86),(eb 88 87),(ea 89 14),(ea 90 15),(d7 91 3 89 90),(ee 92 0 91),(eb 93 92),(d1 94 .neq 88 93),(ea 95 94),(dz ⟨(some 96),.mov (.t 13),(some (95,false))⟩),(dz ⟨(some 97),.mov (.t 15),(some (95,false))⟩),(dz ⟨(some 98),.iaS 3 (.t 96) (.t 97),(some (95,false))⟩),(dz ⟨(some 99),.fa 1 (.t 98),(some (95,false))⟩),(dz ⟨(some 100),.ld (.t 99),(some (95,false))⟩),(dz ⟨(some 101),.mov (.t 14),(some (95,false))⟩),(dz ⟨(some 102),.mov (.t 15),(some (95,false))⟩),(dz ⟨(some 103),.iaS 3 (.t 101) (.t 102),(some (95,false))⟩),(dz ⟨(some 104),.fa 1 (.t 103),(some (95,false))⟩),(dz ⟨(some 105),.ld (.t 104),(some (95,false))⟩),(dz ⟨(some 106),.bin .neq (.t 100) (.t 105),(some (95,false))⟩),(eo 107 (.pick (.t 95) (.k (.bool true)) (.t 106))),(ea 108 107),(dz ⟨(some 109),.mov (.t 13),(some (108,false))⟩),(dz ⟨(some 110),.mov (.t 15),(some (108,false))⟩),(dz ⟨(some 111),.iaS 3 (.t 109) (.t 110),(some (108,false))⟩),(dz ⟨(some 112),.fa 2 (.t 111),(some (108,false))⟩),(dz ⟨(some 113),.ld (.t 112),(some (108,false))⟩),(dz ⟨(some 114),.mov (.t 14),(some (108,false))⟩),(dz ⟨(some 115),.mov (.t 15),(some (108,false))⟩),(dz ⟨(some 116),.iaS 3 (.t 114) (.t 115),(some (108,false))⟩),(dz ⟨(some 117),.fa 2 (.t 116),(some (108,false))⟩),(dz ⟨(some 118),.ld (.t 117),(some (108,false))⟩),(dz ⟨(some 119),.call 40 [(.t 113),(.t 118)],(some (108,false))⟩),(dz ⟨(some 120),.un .not (.t 119),(some (108,false))⟩),(eo 121 (.pick (.t 108) (.k (.bool true)) (.t 120)))]) (.cond (.t 121) (rg [(so 4 (.mov (.k (.bool false))))] .ret) .skip))) (.reg [(sa 82 15),(b2 83 .add 82 1),(sa 15 83)])))))) (rg [(so 122 (.call 19 [])),(sa 4 122)] .ret)))))))))))⟩
def s15:aE:=⟨30,[.tmp 8,.tmp 9],(rg [(so 4 (.box 27 (.t 0))),(so 5 (.box 3 (.t 1))),(so 6 (.box 3 (.t 2))),(so 7 (.box 3 (.t 3))),(b6 8 0),(b6 9 0)] (rg [(sc 10 4 4),(sb 11 5),(se 12 3 4),(sb 13 12),(b4 14 13),(so 15 (.bsl 3 2 (zs 2) [(0,1,(.t 11)),(1,1,(.t 14))])),(b3 16 44 [10,15]),(sa 9 16)] (.seq (.block 0 (rg [(sa 18 9),(b2 19 .neq 18 0),(sa 17 19)] (.cond (.t 17) (rg [(sa 20 9),(b6 8 0),(sa 9 20)] .ret) (rg [(sb 22 6),(sb 23 7),(so 24 (.bsl 3 2 (zs 2) [(0,1,(.t 22)),(1,1,(.t 23))])),(b3 25 45 [24]),(sa 21 25)] (.cond (.t 21) (rg [(b6 8 0),(b6 9 7)] .ret) .skip))))) (rg [(se 26 1 4),(sb 27 26),(so 28 (.mkf (.func 47) [] [(.t 4),(.t 5),(.t 6),(.t 7)])),(b3 29 46 [27,28]),(sa 8 29),(b6 9 0)] .ret))))⟩
def s17:aE:=⟨57,[.tmp 6,.tmp 7],(rg [(so 3 (.box 27 (.t 0))),(so 5 (.box 29 (.t 2))),(b6 6 0),(b6 7 0)] (rg [(sc 14 4 3),(sa 15 1),(se 16 3 3),(sb 17 16),(b4 18 17),(so 19 (.bsl 3 2 (zs 2) [(0,1,(.t 15)),(1,1,(.t 18))])),(b3 20 44 [14,19]),(sa 8 20)] (.seq (.block 0 (rg [(sa 22 8),(b2 23 .neq 22 0),(sa 21 23)] (.cond (.t 21) (rg [(sa 24 8),(b6 6 0),(sa 7 24)] .ret) (rg [(sc 26 4 5),(b3 27 53 [26]),(sa 25 27)] (.cond (.t 25) (rg [(b6 6 0),(b6 7 7)] .ret) .skip))))) (rg [(b6 9 0)] (.seq (rg [(se 28 1 3),(sb 29 28),(b4 30 29),(b6 31 0)] (.block 1 (.loop (rg [(b1 32 .lss 31 30)] (.seq (.cond (.t 32) .skip (.exit 1)) (.seq (.block 2 (rg [(b7 33 5 29 31),(sc 34 5 33),(so 11 (.new 57 (zs 5))),(b8 5 11 34)] (.seq (.draw [⟨(se 35 3 3),none,[7],[]⟩,⟨(sb 36 35),none,[7],[]⟩,⟨(sa 37 1),none,[7],[]⟩,⟨(b7 38 6 36 37),none,[7],[]⟩,⟨(sc 39 6 38),none,[7],[]⟩,⟨(sc 40 5 11),none,[7],[]⟩,⟨(b3 41 48 [39,40]),none,[7],[]⟩,⟨(so 12 (.new 97 [(.int .i64 0),(.int .i64 0),(.int .i64 0),(.int .i64 0),(.int .i64 0),(.int .i64 0),(.int .i64 0),(.int .i64 0),(.bool false)])),(some 0),[],[.fresh 0]⟩,⟨(b8 9 12 41),none,[],[.fresh 0]⟩]) (rg [(sc 42 4 5),(b3 43 54 [42]),(so 13 (.new 108 (zs 8))),(b8 8 13 43)] (.block 3 (rg [(so 45 (.slA 4 2 (.t 13) none none none)),(so 46 (.mkf (.func 56) [] [(.t 12)])),(b3 47 55 [45,46]),(b5 48 47),(sa 44 48)] (.cond (.t 44) (.reg [(b6 9 2)]) (rg [(sc 50 9 12),(sc 51 4 5),(b3 52 57 [50,51]),(sa 49 52)] (.cond (.t 49) (.reg [(sa 53 9),(so 54 (.mm true (.t 53) [(ki 1)])),(sa 9 54)]) .skip))))))))) (.reg [(b2 55 .add 31 1),(sa 31 55)]))))))) (rg [(sa 56 9),(sa 6 56),(b6 7 0)] .ret))))))⟩
def s19:aE:=⟨62,[.tmp 0],(rg [(so 0 (.mov (.k (.bool false))))] (rg [(so 11 (.call 43 [])),(so 1 (.new 27 [(.slice none 0 0),(.slice none 0 0),(.slice none 0 0),(.slice none 0 0)])),(b8 4 1 11)] (rg [(sc 13 4 1),(so 14 (.agg (zs 4) [(0,1,(ki 8500)),(1,1,(ki (-1500))),(2,1,(ki 11500)),(3,1,(ki 1500))])),(so 15 (.call 22 [(.t 13),(ki 0),(.t 14)])),(sa 12 15),(so 16 (.ext (.t 12) 0)),(so 17 (.ext (.t 12) 1)),(sa 2 16),(sa 3 17)] (rg [(sc 19 4 1),(so 20 (.agg (zs 4) [(0,1,(ki 3900)),(1,1,(ki 3900)),(2,1,(ki 4100)),(3,1,(ki 4100))])),(so 21 (.call 17 [(.t 19),(ki 0),(.t 20)])),(sa 18 21),(so 22 (.ext (.t 18) 0)),(so 23 (.ext (.t 18) 1)),(sa 4 22),(sa 5 23)] (rg [(sc 25 4 1),(so 26 (.call 15 [(.t 25),(ki 0),(ki 4000),(ki 5000)])),(sa 24 26),(so 27 (.ext (.t 24) 0)),(so 28 (.ext (.t 24) 1)),(sa 6 27),(sa 7 28)] (rg [(so 30 (.mks 57 1 (zs 5))),(so 31 (.agg [(.slice none 0 0),(.slice none 0 0),(.slice none 0 0),(.slice none 0 0)] [(1,1,(.t 30))])),(b3 32 23 [31]),(sa 29 32),(so 33 (.ext (.t 29) 0)),(so 34 (.ext (.t 29) 1)),(so 35 (.ext (.t 29) 2)),(sa 8 33),(sa 9 34),(sa 10 35)] (rg [(sa 36 3),(b2 37 .eql 36 0),(sa 38 37),⟨(some 39),.mov (.t 5),(some (38,true))⟩,⟨(some 40),.bin .eql (.t 39) (ki 0),(some (38,true))⟩,(so 41 (.pick (.t 38) (.t 40) (.k (.bool false)))),(sa 42 41),⟨(some 43),.mov (.t 7),(some (42,true))⟩,⟨(some 44),.bin .eql (.t 43) (ki 0),(some (42,true))⟩,(so 45 (.pick (.t 42) (.t 44) (.k (.bool false)))),(sa 46 45),⟨(some 47),.mov (.t 10),(some (46,true))⟩,⟨(some 48),.bin .eql (.t 47) (ki 7),(some (46,true))⟩,(so 49 (.pick (.t 46) (.t 48) (.k (.bool false)))),(sa 50 49),⟨(some 51),.mov (.t 2),(some (50,true))⟩,⟨(some 52),.bin .eql (.t 51) (ki 1),(some (50,true))⟩,(so 53 (.pick (.t 50) (.t 52) (.k (.bool false)))),(sa 54 53),⟨(some 55),.mov (.t 4),(some (54,true))⟩,⟨(some 56),.bin .eql (.t 55) (ki 1),(some (54,true))⟩,(so 57 (.pick (.t 54) (.t 56) (.k (.bool false)))),(sa 58 57),⟨(some 59),.mov (.t 6),(some (58,true))⟩,⟨(some 60),.bin .eql (.t 59) (ki (-1)),(some (58,true))⟩,(so 61 (.pick (.t 58) (.t 60) (.k (.bool false)))),(sa 0 61)] .ret)))))))⟩
def s22:aE:=⟨30,[.tmp 6,.tmp 7],(rg [(so 3 (.box 27 (.t 0))),(so 5 (.box 29 (.t 2))),(b6 6 0),(b6 7 0)] (rg [(sc 9 4 3),(sa 10 1),(se 11 0 3),(sb 12 11),(b4 13 12),(so 14 (.bsl 3 2 (zs 2) [(0,1,(.t 10)),(1,1,(.t 13))])),(b3 15 44 [9,14]),(sa 8 15)] (.seq (.block 0 (rg [(sa 17 8),(b2 18 .neq 17 0),(sa 16 18)] (.cond (.t 16) (rg [(sa 19 8),(b6 6 0),(sa 7 19)] .ret) (rg [(sc 21 4 5),(b3 22 53 [21]),(sa 20 22)] (.cond (.t 20) (rg [(b6 6 0),(b6 7 7)] .ret) .skip))))) (.seq (.draw [(ee 23 0 3),(eb 24 23),(ea 25 1),(d7 26 4 24 25),(ec 27 4 26),(ec 28 4 5),(d3 29 61 [27,28]),(ea 6 29),(eo 7 (.mov (ki 0)))]) .ret))))⟩
def s23:aE:=⟨75,[.tmp 2,.tmp 3,.tmp 4],(rg [(so 1 (.box 27 (.t 0))),(b6 2 0),(b6 3 0),(b6 4 0)] (.seq (rg [(se 13 0 1),(sb 14 13),(b4 15 14),(b2 16 .gtr 15 8),(sa 17 16),⟨(some 18),.fa 1 (.t 1),(some (17,false))⟩,⟨(some 19),.ld (.t 18),(some (17,false))⟩,⟨(some 20),.len (.t 19),(some (17,false))⟩,⟨(some 21),.bin .gtr (.t 20) (ki 12),(some (17,false))⟩,(so 22 (.pick (.t 17) (.k (.bool true)) (.t 21))),(sa 23 22),⟨(some 24),.fa 2 (.t 1),(some (23,false))⟩,⟨(some 25),.ld (.t 24),(some (23,false))⟩,⟨(some 26),.len (.t 25),(some (23,false))⟩,⟨(some 27),.bin .gtr (.t 26) (ki 8),(some (23,false))⟩,(so 28 (.pick (.t 23) (.k (.bool true)) (.t 27))),(sa 29 28),⟨(some 30),.fa 3 (.t 1),(some (29,false))⟩,⟨(some 31),.ld (.t 30),(some (29,false))⟩,⟨(some 32),.len (.t 31),(some (29,false))⟩,⟨(some 33),.bin .gtr (.t 32) (ki 24),(some (29,false))⟩,(so 34 (.pick (.t 29) (.k (.bool true)) (.t 33)))] (.cond (.t 34) (rg [(b6 2 0),(b6 3 0),(b6 4 3)] .ret) .skip)) (.seq (rg [(se 36 0 1),(sb 37 36),(so 38 (.call 62 [(.t 37),(.k (.fn (.func 63) [] []))])),(sa 35 38),(so 39 (.ext (.t 35) 0)),(so 40 (.ext (.t 35) 1)),(sa 5 39),(sa 6 40)] (rg [(sa 41 6),(b2 42 .neq 41 0)] (.cond (.t 42) (rg [(sa 43 5),(sa 44 6),(b6 2 1),(sa 3 43),(sa 4 44)] .ret) .skip))) (.seq (rg [(se 46 1 1),(sb 47 46),(so 48 (.call 64 [(.t 47),(.k (.fn (.func 65) [] []))])),(sa 45 48),(so 49 (.ext (.t 45) 0)),(so 50 (.ext (.t 45) 1)),(sa 7 49),(sa 8 50)] (rg [(sa 51 8),(b2 52 .neq 51 0)] (.cond (.t 52) (rg [(sa 53 7),(sa 54 8),(b6 2 2),(sa 3 53),(sa 4 54)] .ret) .skip))) (.seq (rg [(se 56 2 1),(sb 57 56),(so 58 (.call 66 [(.t 57),(.k (.fn (.func 67) [] []))])),(sa 55 58),(so 59 (.ext (.t 55) 0)),(so 60 (.ext (.t 55) 1)),(sa 9 59),(sa 10 60)] (rg [(sa 61 10),(b2 62 .neq 61 0)] (.cond (.t 62) (rg [(sa 63 9),(sa 64 10),(b6 2 3),(sa 3 63),(sa 4 64)] .ret) .skip))) (.seq (rg [(se 66 3 1),(sb 67 66),(so 68 (.call 68 [(.t 67),(.k (.fn (.func 69) [] []))])),(sa 65 68),(so 69 (.ext (.t 65) 0)),(so 70 (.ext (.t 65) 1)),(sa 11 69),(sa 12 70)] (rg [(sa 71 12),(b2 72 .neq 71 0)] (.cond (.t 72) (rg [(sa 73 11),(sa 74 12),(b6 2 4),(sa 3 73),(sa 4 74)] .ret) .skip))) (rg [(b6 2 0),(b6 3 0),(b6 4 0)] .ret)))))))⟩
def s24:aE:=⟨123,[.tmp 2,.tmp 3,.tmp 4],(rg [(so 1 (.box 27 (.t 0))),(b6 2 0),(b6 3 0),(b6 4 0)] (.seq (rg [(se 13 0 1),(sb 14 13),(b4 15 14),(b2 16 .gtr 15 8),(sa 17 16),⟨(some 18),.fa 1 (.t 1),(some (17,false))⟩,⟨(some 19),.ld (.t 18),(some (17,false))⟩,⟨(some 20),.len (.t 19),(some (17,false))⟩,⟨(some 21),.bin .gtr (.t 20) (ki 12),(some (17,false))⟩,(so 22 (.pick (.t 17) (.k (.bool true)) (.t 21))),(sa 23 22),⟨(some 24),.fa 2 (.t 1),(some (23,false))⟩,⟨(some 25),.ld (.t 24),(some (23,false))⟩,⟨(some 26),.len (.t 25),(some (23,false))⟩,⟨(some 27),.bin .gtr (.t 26) (ki 8),(some (23,false))⟩,(so 28 (.pick (.t 23) (.k (.bool true)) (.t 27))),(sa 29 28),⟨(some 30),.fa 3 (.t 1),(some (29,false))⟩,⟨(some 31),.ld (.t 30),(some (29,false))⟩,⟨(some 32),.len (.t 31),(some (29,false))⟩,⟨(some 33),.bin .gtr (.t 32) (ki 24),(some (29,false))⟩,(so 34 (.pick (.t 29) (.k (.bool true)) (.t 33)))] (.cond (.t 34) (rg [(b6 2 0),(b6 3 0),(b6 4 3)] .ret) .skip)) (.seq (rg [(b6 5 0)] (.block 0 (.loop (.seq (rg [(sa 35 5),(se 36 0 1),(sb 37 36),(b4 38 37),(b1 39 .lss 35 38)] (.cond (.t 39) .skip (.exit 0))) (.seq (.block 1 (rg [(sc 42 4 1),(sa 43 5),(b3 44 70 [42,43]),(sa 6 44)] (rg [(sa 45 6),(b2 46 .neq 45 0)] (.cond (.t 46) (rg [(sa 47 5),(sa 48 6),(b6 2 1),(sa 3 47),(sa 4 48)] .ret) .skip)))) (.reg [(sa 40 5),(b2 41 .add 40 1),(sa 5 41)])))))) (.seq (rg [(b6 7 0)] (.block 2 (.loop (.seq (rg [(sa 49 7),(se 50 1 1),(sb 51 50),(b4 52 51),(b1 53 .lss 49 52)] (.cond (.t 53) .skip (.exit 2))) (.seq (.block 3 (rg [(se 56 1 1),(sb 57 56),(sa 58 7),(b7 59 5 57 58),(sc 60 5 59),(so 8 (.new 57 (zs 5))),(b8 5 8 60)] (rg [(se 61 0 8),(sb 62 61),(se 63 1 8),(sb 64 63),(so 65 (.bsl 3 2 (zs 2) [(0,1,(.t 62)),(1,1,(.t 64))])),(b3 66 51 [65]),(b5 67 66),(sa 68 67),⟨(some 69),.fa 2 (.t 8),(some (68,false))⟩,⟨(some 70),.ld (.t 69),(some (68,false))⟩,⟨(some 71),.call 71 [(.t 70),(ki 1),(ki 20000)],(some (68,false))⟩,⟨(some 72),.un .not (.t 71),(some (68,false))⟩,(so 73 (.pick (.t 68) (.k (.bool true)) (.t 72))),(sa 74 73),⟨(some 75),.fa 3 (.t 8),(some (74,false))⟩,⟨(some 76),.ld (.t 75),(some (74,false))⟩,⟨(some 77),.bin .lss (.t 76) (ki 0),(some (74,false))⟩,(so 78 (.pick (.t 74) (.k (.bool true)) (.t 77))),(sa 79 78),⟨(some 80),.fa 3 (.t 8),(some (79,false))⟩,⟨(some 81),.ld (.t 80),(some (79,false))⟩,⟨(some 82),.fa 4 (.t 8),(some (79,false))⟩,⟨(some 83),.ld (.t 82),(some (79,false))⟩,⟨(some 84),.bin .geq (.t 81) (.t 83),(some (79,false))⟩,(so 85 (.pick (.t 79) (.k (.bool true)) (.t 84))),(sa 86 85),⟨(some 87),.fa 4 (.t 8),(some (86,false))⟩,⟨(some 88),.ld (.t 87),(some (86,false))⟩,⟨(some 89),.bin .gtr (.t 88) (ki 1000),(some (86,false))⟩,(so 90 (.pick (.t 86) (.k (.bool true)) (.t 89)))] (.cond (.t 90) (rg [(sa 91 7),(b6 2 2),(sa 3 91),(b6 4 7)] .ret) .skip)))) (.reg [(sa 54 7),(b2 55 .add 54 1),(sa 7 55)])))))) (.seq (rg [(b6 9 0)] (.block 4 (.loop (.seq (rg [(sa 92 9),(se 93 2 1),(sb 94 93),(b4 95 94),(b1 96 .lss 92 95)] (.cond (.t 96) .skip (.exit 4))) (.seq (.block 5 (rg [(se 99 2 1),(sb 100 99),(sa 101 9),(b7 102 5 100 101),(sc 103 5 102),(b3 104 72 [103]),(sa 10 104)] (rg [(sa 105 10),(b2 106 .neq 105 0)] (.cond (.t 106) (rg [(sa 107 9),(sa 108 10),(b6 2 3),(sa 3 107),(sa 4 108)] .ret) .skip)))) (.reg [(sa 97 9),(b2 98 .add 97 1),(sa 9 98)])))))) (.seq (rg [(b6 11 0)] (.block 6 (.loop (.seq (rg [(sa 109 11),(se 110 3 1),(sb 111 110),(b4 112 111),(b1 113 .lss 109 112)] (.cond (.t 113) .skip (.exit 6))) (.seq (.block 7 (rg [(sc 116 4 1),(sa 117 11),(b3 118 73 [116,117]),(sa 12 118)] (rg [(sa 119 12),(b2 120 .neq 119 0)] (.cond (.t 120) (rg [(sa 121 11),(sa 122 12),(b6 2 4),(sa 3 121),(sa 4 122)] .ret) .skip)))) (.reg [(sa 114 11),(b2 115 .add 114 1),(sa 11 115)])))))) (rg [(b6 2 0),(b6 3 0),(b6 4 0)] .ret)))))))⟩
def s34:aE:=⟨52,[.tmp 4,.tmp 5],(rg [(so 2 (.box 27 (.t 0))),(so 4 (.mov (.k (.slice none 0 0)))),(b6 5 0)] (.seq (rg [(sc 12 4 2),(sa 13 1),(se 14 0 2),(sb 15 14),(b4 16 15),(so 17 (.bsl 3 2 (zs 2) [(0,1,(.t 13)),(1,1,(.t 16))])),(b3 18 44 [12,17]),(sa 6 18)] (rg [(sa 19 6),(b2 20 .neq 19 0)] (.cond (.t 20) (rg [(sa 21 6),(so 4 (.mov (.k (.slice none 0 0)))),(sa 5 21)] .ret) .skip))) (rg [(so 7 (.new 73 [(.slice none 0 0)]))] (rg [(so 8 (.new 95 (zs 2)))] (rg [(so 9 (.new 3 [(.int .i64 0)])),⟨none,.st 1 (.t 9) (ki 0),none⟩] (.seq (rg [(se 22 0 2),(sb 23 22),(sa 24 1),(b7 25 4 23 24),(sc 26 4 25),(b3 27 83 [26])] (.block 0 (.range (.t 27) [28] (.reg [(so 10 (.new 145 (zs 5))),(b8 5 10 28)]) (.block 1 (rg [(se 29 0 10),(se 30 2 29),(sc 31 2 30),(se 32 0 10),(se 33 0 32),(sc 34 2 33),(b3 35 84 [31,34]),(so 11 (.new 95 (zs 2))),(b8 2 11 35)] (.seq (rg [(sb 36 9),(b2 37 .gtr 36 0),(sa 38 37),⟨(some 39),.lds 2 (.t 11),(some (38,true))⟩,⟨(some 40),.lds 2 (.t 8),(some (38,true))⟩,⟨(some 41),.call 85 [(.t 39),(.t 40)],(some (38,true))⟩,⟨(some 42),.bin .leq (.t 41) (ki 0),(some (38,true))⟩,(so 43 (.pick (.t 38) (.t 42) (.k (.bool false))))] (.cond (.t 43) (.reg [(sb 44 7),(sb 45 9),(so 46 (.bsl 3 1 [(.int .i64 0)] [(0,1,(.t 45))])),(so 47 (.app 3 1 8 [(.int .i64 0)] (.t 44) (.t 46))),(b8 1 7 47)]) .skip)) (rg [(sc 48 2 11),(b8 2 8 48)] (.reg [(sb 49 9),(b2 50 .add 49 1),(b8 1 9 50)]))))) its))) (rg [(sb 51 7),(sa 4 51),(b6 5 0)] .ret)))))))⟩
def s37:aE:=⟨33,[.tmp 2,.tmp 3],(rg [(so 1 (.box 27 (.t 0))),(so 2 (.mov (.k (.slice none 0 0)))),(b6 3 0)] (.seq (rg [(sc 9 4 1),(so 10 (.call 44 [(.t 9),(.k (.slice none 0 0))])),(sa 4 10)] (rg [(sa 11 4),(b2 12 .neq 11 0)] (.cond (.t 12) (rg [(sa 13 4),(so 2 (.mov (.k (.slice none 0 0)))),(sa 3 13)] .ret) .skip))) (rg [(so 5 (.mov (.k (.slice none 0 0))))] (.seq (rg [(se 14 3 1),(sb 15 14),(b4 16 15),(b6 17 0)] (.block 0 (.loop (rg [(b1 18 .lss 17 16)] (.seq (.cond (.t 18) .skip (.exit 0)) (.seq (.block 1 (rg [(sa 19 17),(b7 20 6 15 17),(sc 21 6 20),(so 7 (.new 100 [(.str ⟨#[]⟩),(.int .i64 0),(.int .i64 0),(.int .i64 0),(.int .i64 0),(.int .i64 0)])),(sa 6 19),(b8 6 7 21)] (rg [(so 22 (.mkf (.func 89) [] [(.t 7)])),(sa 8 22)] (rg [(se 23 0 1),(sb 24 23),(sa 25 8),(b3 26 90 [24,25])] (.cond (.t 26) (.reg [(sa 27 5),(sa 28 6),(so 29 (.bsl 3 1 [(.int .i64 0)] [(0,1,(.t 28))])),(so 30 (.app 3 1 8 [(.int .i64 0)] (.t 27) (.t 29))),(sa 5 30)]) .skip))))) (.reg [(b2 31 .add 17 1),(sa 17 31)]))))))) (rg [(sa 32 5),(sa 2 32),(b6 3 0)] .ret)))))⟩
def s38:aE:=⟨64,[.tmp 2,.tmp 3],(rg [(so 1 (.box 27 (.t 0))),(so 2 (.mov (.k (.slice none 0 0)))),(b6 3 0)] (rg [(sc 9 4 1),(b3 10 91 [9]),(sa 4 10)] (.seq (rg [(sa 11 4),(b2 12 .neq 11 0)] (.cond (.t 12) (rg [(sa 13 4),(so 2 (.mov (.k (.slice none 0 0)))),(sa 3 13)] .ret) .skip)) (rg [(so 5 (.mov (.k (.slice none 0 0))))] (.seq (rg [(b6 6 0)] (.block 0 (.loop (.seq (rg [(sa 14 6),(se 15 3 1),(sb 16 15),(b4 17 16),(b1 18 .lss 14 17)] (.cond (.t 18) .skip (.exit 0))) (.seq (.block 1 (rg [(so 7 (.mov (.k (.bool false))))] (.seq (rg [(b6 8 0)] (.block 2 (.loop (.seq (rg [(sa 21 8),(se 22 0 1),(sb 23 22),(b4 24 23),(b1 25 .lss 21 24)] (.cond (.t 25) .skip (.exit 2))) (.seq (.block 3 (.draw [(ea 28 7),(ea 29 28),(dz ⟨(some 30),.fa 0 (.t 1),(some (29,false))⟩),(dz ⟨(some 31),.ld (.t 30),(some (29,false))⟩),(dz ⟨(some 32),.mov (.t 8),(some (29,false))⟩),(dz ⟨(some 33),.iaS 4 (.t 31) (.t 32),(some (29,false))⟩),(dz ⟨(some 34),.fa 1 (.t 33),(some (29,false))⟩),(dz ⟨(some 35),.ld (.t 34),(some (29,false))⟩),(dz ⟨(some 36),.bin .neq (.t 35) (ki 1),(some (29,false))⟩),(dz ⟨(some 37),.mov (.t 36),(some (29,false))⟩),(dz ⟨(some 38),.fa 0 (.t 1),(some (37,true))⟩),(dz ⟨(some 39),.ld (.t 38),(some (37,true))⟩),(dz ⟨(some 40),.mov (.t 8),(some (37,true))⟩),(dz ⟨(some 41),.iaS 4 (.t 39) (.t 40),(some (37,true))⟩),(dz ⟨(some 42),.lds 4 (.t 41),(some (37,true))⟩),(dz ⟨(some 43),.fa 3 (.t 1),(some (37,true))⟩),(dz ⟨(some 44),.ld (.t 43),(some (37,true))⟩),(dz ⟨(some 45),.mov (.t 6),(some (37,true))⟩),(dz ⟨(some 46),.iaS 6 (.t 44) (.t 45),(some (37,true))⟩),(dz ⟨(some 47),.fa 1 (.t 46),(some (37,true))⟩),(dz ⟨(some 48),.ld (.t 47),(some (37,true))⟩),(dz ⟨(some 49),.fa 3 (.t 1),(some (37,true))⟩),(dz ⟨(some 50),.ld (.t 49),(some (37,true))⟩),(dz ⟨(some 51),.mov (.t 6),(some (37,true))⟩),(dz ⟨(some 52),.iaS 6 (.t 50) (.t 51),(some (37,true))⟩),(dz ⟨(some 53),.fa 2 (.t 52),(some (37,true))⟩),(dz ⟨(some 54),.ld (.t 53),(some (37,true))⟩),(dz ⟨(some 55),.call 75 [(.t 42),(.t 48),(.t 54)],(some (37,true))⟩),(dz ⟨(some 56),.pick (.t 37) (.t 55) (.k (.bool false)),(some (29,false))⟩),(eo 57 (.pick (.t 29) (.k (.bool true)) (.t 56))),(ea 7 57)])) (.reg [(sa 26 8),(b2 27 .add 26 1),(sa 8 27)])))))) (rg [(sa 58 7)] (.cond (.t 58) (.reg [(sa 59 5),(sa 60 6),(so 61 (.bsl 3 1 [(.int .i64 0)] [(0,1,(.t 60))])),(so 62 (.app 3 1 8 [(.int .i64 0)] (.t 59) (.t 61))),(sa 5 62)]) .skip))))) (.reg [(sa 19 6),(b2 20 .add 19 1),(sa 6 20)])))))) (rg [(sa 63 5),(sa 2 63),(b6 3 0)] .ret))))))⟩
def s39:aE:=⟨85,[.tmp 4,.tmp 5],(rg [(so 2 (.box 27 (.t 0))),(so 4 (.mov (.k (.slice none 0 0)))),(b6 5 0)] (rg [(sc 13 4 2),(sa 14 1),(se 15 0 2),(sb 16 15),(b4 17 16),(b3 18 50 [13,14,17]),(sa 6 18)] (.seq (rg [(sa 19 6),(b2 20 .neq 19 0)] (.cond (.t 20) (rg [(sa 21 6),(so 4 (.mov (.k (.slice none 0 0)))),(sa 5 21)] .ret) .skip)) (rg [(so 7 (.mov (.k (.slice none 0 0))))] (rg [(se 22 0 2),(sb 23 22),(sa 24 1),(b7 25 4 23 24),(se 26 2 25),(sb 27 26),(sa 8 27)] (.seq (rg [(b6 9 1)] (.block 0 (.loop (.seq (rg [(sa 28 9),(b2 29 .add 28 1),(sa 30 8),(b4 31 30),(b1 32 .lss 29 31)] (.cond (.t 32) .skip (.exit 0))) (.seq (.block 1 (.seq (.draw [⟨(sa 35 8),none,[37,38,39],[]⟩,⟨(sa 36 9),none,[37,38,39],[]⟩,⟨(b2 37 .sub 36 1),none,[37,38,39],[]⟩,⟨(b7 38 2 35 37),none,[37,38,39],[]⟩,⟨(so 39 (.iaA 2 1 (.t 38) (ki 0))),none,[37,38,39],[]⟩,⟨(sb 40 39),none,[37,38,39],[]⟩,⟨(sa 41 8),none,[37,38,39],[]⟩,⟨(sa 42 9),none,[37,38,39],[]⟩,⟨(b2 43 .sub 42 1),none,[37,38,39],[]⟩,⟨(b7 44 2 41 43),none,[37,38,39],[]⟩,⟨(so 45 (.iaA 2 1 (.t 44) (ki 1))),none,[37,38,39],[]⟩,⟨(sb 46 45),none,[37,38,39],[]⟩,⟨(so 47 (.agg (zs 2) [(0,1,(.t 40)),(1,1,(.t 46))])),none,[37,38,39],[]⟩,⟨(sa 48 8),none,[37,38,39,40],[]⟩,⟨(sa 49 9),none,[37,38,39,40],[]⟩,⟨(b7 50 2 48 49),none,[37,38,39,40],[]⟩,⟨(so 51 (.iaA 2 1 (.t 50) (ki 0))),none,[37,38,39,40],[]⟩,⟨(sb 52 51),none,[37,38,39,40],[]⟩,⟨(sa 53 8),none,[37,38,39,40],[]⟩,⟨(sa 54 9),none,[37,38,39,40],[]⟩,⟨(b7 55 2 53 54),none,[37,38,39,40],[]⟩,⟨(so 56 (.iaA 2 1 (.t 55) (ki 1))),none,[37,38,39,40],[]⟩,⟨(sb 57 56),none,[37,38,39,40],[]⟩,⟨(so 58 (.agg (zs 2) [(0,1,(.t 52)),(1,1,(.t 57))])),none,[37,38,39,40],[]⟩,⟨(sa 59 8),none,[37,38,39,40,41],[]⟩,⟨(sa 60 9),none,[37,38,39,40,41],[]⟩,⟨(b2 61 .add 60 1),none,[37,38,39,40,41],[]⟩,⟨(b7 62 2 59 61),none,[37,38,39,40,41],[]⟩,⟨(so 63 (.iaA 2 1 (.t 62) (ki 0))),none,[37,38,39,40,41],[]⟩,⟨(sb 64 63),none,[37,38,39,40,41],[]⟩,⟨(sa 65 8),none,[37,38,39,40,41],[]⟩,⟨(sa 66 9),none,[37,38,39,40,41],[]⟩,⟨(b2 67 .add 66 1),none,[37,38,39,40,41],[]⟩,⟨(b7 68 2 65 67),none,[37,38,39,40,41],[]⟩,⟨(so 69 (.iaA 2 1 (.t 68) (ki 1))),none,[37,38,39,40,41],[]⟩,⟨(sb 70 69),none,[37,38,39,40,41],[]⟩,⟨(so 71 (.agg (zs 2) [(0,1,(.t 64)),(1,1,(.t 70))])),none,[37,38,39,40,41],[]⟩,⟨(so 10 (.new 106 (zs 2))),(some 0),[38,39],[.fresh 0]⟩,⟨(so 11 (.new 106 (zs 2))),(some 1),[37,39],[.fresh 1]⟩,⟨(so 12 (.new 106 (zs 2))),(some 2),[37,38],[.fresh 2]⟩,⟨(b8 2 10 47),none,[],[.fresh 0]⟩,⟨(b8 2 11 58),none,[],[.fresh 1]⟩,⟨(b8 2 12 71),none,[],[.fresh 2]⟩]) (.seq (.draw [(ec 72 2 11),(ec 73 2 10),(d3 74 93 [72,73]),(ec 75 2 12),(ec 76 2 11),(d3 77 93 [75,76]),(d3 78 92 [74,77]),(d2 79 .leq 78 0)]) (.cond (.t 79) (.reg [(sa 80 7),(sa 81 9),(so 82 (.bsl 3 1 [(.int .i64 0)] [(0,1,(.t 81))])),(so 83 (.app 3 1 8 [(.int .i64 0)] (.t 80) (.t 82))),(sa 7 83)]) .skip)))) (.reg [(sa 33 9),(b2 34 .add 33 1),(sa 9 34)])))))) (rg [(sa 84 7),(sa 4 84),(b6 5 0)] .ret)))))))⟩
def s40:aE:=⟨26,[.tmp 4],(rg [(so 4 (.mov (.k (.bool false))))] (.seq (rg [(sa 6 0),(b4 7 6),(sa 8 1),(b4 9 8),(b1 10 .neq 7 9)] (.cond (.t 10) (rg [(so 4 (.mov (.k (.bool false))))] .ret) .skip)) (.seq (rg [(b6 5 0)] (.block 0 (.loop (.seq (rg [(sa 11 5),(sa 12 0),(b4 13 12),(b1 14 .lss 11 13)] (.cond (.t 14) .skip (.exit 0))) (.seq (.block 1 (.seq (.draw [(ea 17 0),(ea 18 5),(d7 19 1 17 18),(eb 20 19),(ea 21 1),(ea 22 5),(d7 23 1 21 22),(eb 24 23),(d1 25 .neq 20 24)]) (.cond (.t 25) (rg [(so 4 (.mov (.k (.bool false))))] .ret) .skip))) (.reg [(sa 15 5),(b2 16 .add 15 1),(sa 5 16)])))))) (rg [(so 4 (.mov (.k (.bool true))))] .ret))))⟩
def s42:aE:=⟨129,[.tmp 2,.tmp 3],(rg [(so 1 (.box 27 (.t 0))),(so 2 (.mov (.k (.slice none 0 0)))),(b6 3 0)] (rg [(sc 12 4 1),(b3 13 91 [12]),(sa 4 13)] (.seq (rg [(sa 14 4),(b2 15 .neq 14 0)] (.cond (.t 15) (rg [(sa 16 4),(so 2 (.mov (.k (.slice none 0 0)))),(sa 3 16)] .ret) .skip)) (rg [(so 5 (.mov (.k (.slice none 0 0))))] (.seq (rg [(b6 6 0)] (.block 0 (.loop (.seq (rg [(sa 17 6),(se 18 0 1),(sb 19 18),(b4 20 19),(b1 21 .lss 17 20)] (.cond (.t 21) .skip (.exit 0))) (.seq (.block 1 (rg [(b6 7 0)] (.block 2 (.loop (.seq (rg [(sa 24 7),(se 25 0 1),(sb 26 25),(sa 27 6),(b7 28 4 26 27),(se 29 2 28),(sb 30 29),(b4 31 30),(b1 32 .lss 24 31)] (.cond (.t 32) .skip (.exit 2))) (.seq (.block 3 (rg [(se 35 0 1),(sb 36 35),(sa 37 6),(b7 38 4 36 37),(se 39 2 38),(sb 40 39),(sa 41 7),(b7 42 2 40 41),(sc 43 2 42),(so 8 (.new 72 (zs 2))),(b8 2 8 43)] (rg [(sc 44 4 1),(sc 45 2 8),(b3 46 98 [44,45]),(sa 9 46)] (.seq (rg [(sa 47 9),(b4 48 47),(b2 49 .lss 48 2)] (.cond (.t 49) (.exit 3) .skip)) (rg [(b6 10 0)] (.seq (.block 4 (.loop (.seq (.seq (.draw [(ea 50 10),(ea 51 5),(d4 52 51),(d1 53 .lss 50 52),(ea 54 53),(dz ⟨(some 55),.mov (.t 5),(some (54,true))⟩),(dz ⟨(some 56),.mov (.t 10),(some (54,true))⟩),(dz ⟨(some 57),.iaS 3 (.t 55) (.t 56),(some (54,true))⟩),(dz ⟨(some 58),.fa 0 (.t 57),(some (54,true))⟩),(dz ⟨(some 59),.ld (.t 58),(some (54,true))⟩),(dz ⟨(some 60),.iaA 2 1 (.t 8) (ki 0),(some (54,true))⟩),(dz ⟨(some 61),.ld (.t 60),(some (54,true))⟩),(dz ⟨(some 62),.bin .lss (.t 59) (.t 61),(some (54,true))⟩),(dz ⟨(some 63),.mov (.t 62),(some (54,true))⟩),(dz ⟨(some 64),.mov (.t 5),(some (63,false))⟩),(dz ⟨(some 65),.mov (.t 10),(some (63,false))⟩),(dz ⟨(some 66),.iaS 3 (.t 64) (.t 65),(some (63,false))⟩),(dz ⟨(some 67),.fa 0 (.t 66),(some (63,false))⟩),(dz ⟨(some 68),.ld (.t 67),(some (63,false))⟩),(dz ⟨(some 69),.iaA 2 1 (.t 8) (ki 0),(some (63,false))⟩),(dz ⟨(some 70),.ld (.t 69),(some (63,false))⟩),(dz ⟨(some 71),.bin .eql (.t 68) (.t 70),(some (63,false))⟩),(dz ⟨(some 72),.mov (.t 71),(some (63,false))⟩),(dz ⟨(some 73),.mov (.t 5),(some (72,true))⟩),(dz ⟨(some 74),.mov (.t 10),(some (72,true))⟩),(dz ⟨(some 75),.iaS 3 (.t 73) (.t 74),(some (72,true))⟩),(dz ⟨(some 76),.fa 1 (.t 75),(some (72,true))⟩),(dz ⟨(some 77),.ld (.t 76),(some (72,true))⟩),(dz ⟨(some 78),.iaA 2 1 (.t 8) (ki 1),(some (72,true))⟩),(dz ⟨(some 79),.ld (.t 78),(some (72,true))⟩),(dz ⟨(some 80),.bin .lss (.t 77) (.t 79),(some (72,true))⟩),(dz ⟨(some 81),.pick (.t 72) (.t 80) (.k (.bool false)),(some (63,false))⟩),(dz ⟨(some 82),.pick (.t 63) (.k (.bool true)) (.t 81),(some (54,true))⟩),(eo 83 (.pick (.t 54) (.t 82) (.k (.bool false))))]) (.cond (.t 83) .skip (.exit 4))) (.block 5 (.reg [(sa 84 10),(b2 85 .add 84 1),(sa 10 85)]))))) (.seq (.seq (.draw [(ea 86 10),(ea 87 5),(d4 88 87),(d1 89 .lss 86 88),(ea 90 89),(dz ⟨(some 91),.mov (.t 5),(some (90,true))⟩),(dz ⟨(some 92),.mov (.t 10),(some (90,true))⟩),(dz ⟨(some 93),.iaS 3 (.t 91) (.t 92),(some (90,true))⟩),(dz ⟨(some 94),.fa 0 (.t 93),(some (90,true))⟩),(dz ⟨(some 95),.ld (.t 94),(some (90,true))⟩),(dz ⟨(some 96),.iaA 2 1 (.t 8) (ki 0),(some (90,true))⟩),(dz ⟨(some 97),.ld (.t 96),(some (90,true))⟩),(dz ⟨(some 98),.bin .eql (.t 95) (.t 97),(some (90,true))⟩),(eo 99 (.pick (.t 90) (.t 98) (.k (.bool false)))),(ea 100 99),(dz ⟨(some 101),.mov (.t 5),(some (100,true))⟩),(dz ⟨(some 102),.mov (.t 10),(some (100,true))⟩),(dz ⟨(some 103),.iaS 3 (.t 101) (.t 102),(some (100,true))⟩),(dz ⟨(some 104),.fa 1 (.t 103),(some (100,true))⟩),(dz ⟨(some 105),.ld (.t 104),(some (100,true))⟩),(dz ⟨(some 106),.iaA 2 1 (.t 8) (ki 1),(some (100,true))⟩),(dz ⟨(some 107),.ld (.t 106),(some (100,true))⟩),(dz ⟨(some 108),.bin .eql (.t 105) (.t 107),(some (100,true))⟩),(eo 109 (.pick (.t 100) (.t 108) (.k (.bool false))))]) (.cond (.t 109) (.exit 3) .skip)) (.seq (.draw [(eo 110 (.iaA 2 1 (.t 8) (ki 0))),(eb 111 110),(eo 112 (.iaA 2 1 (.t 8) (ki 1))),(eb 113 112),(ea 114 9),(eo 115 (.agg [(.int .i64 0),(.int .i64 0),(.slice none 0 0)] [(0,1,(.t 111)),(1,1,(.t 113)),(2,1,(.t 114))])),⟨(so 116 (.bsl 87 1 [(.int .i64 0),(.int .i64 0),(.slice none 0 0)] [(0,3,(.t 115))])),(some 0),[],[.fresh 0]⟩,⟨(sa 117 5),none,[6],[]⟩,⟨(sa 118 10),none,[6],[]⟩,⟨(so 119 (.slS 3 (.t 117) (some (.t 118)) none none)),none,[6],[]⟩,⟨(so 120 (.app 87 3 40 [(.int .i64 0),(.int .i64 0),(.slice none 0 0)] (.t 116) (.t 119))),(some 1),[],[.fresh 0,.fresh 1]⟩,(ea 11 120)]) (.reg [(so 121 (.bsl 87 0 [] [])),(sa 122 5),(sa 123 10),(so 124 (.slS 3 (.t 122) none (some (.t 123)) none)),(so 125 (.app 87 3 40 [(.int .i64 0),(.int .i64 0),(.slice none 0 0)] (.t 121) (.t 124))),(sa 126 11),(so 127 (.app 87 3 40 [(.int .i64 0),(.int .i64 0),(.slice none 0 0)] (.t 125) (.t 126))),(sa 5 127)]))))))))) (.reg [(sa 33 7),(b2 34 .add 33 1),(sa 7 34)]))))))) (.reg [(sa 22 6),(b2 23 .add 22 1),(sa 6 23)])))))) (rg [(sa 128 5),(sa 2 128),(b6 3 0)] .ret))))))⟩
def s43:aE:=⟨22,[.cell 0 (some 4)],(rg [(so 0 (.new 27 [(.slice none 0 0),(.slice none 0 0),(.slice none 0 0),(.slice none 0 0)]))] (rg [(so 1 (.agg (zs 2) [(0,1,(ki 0)),(1,1,(ki 0))])),(so 2 (.agg (zs 2) [(0,1,(ki 10000)),(1,1,(ki 0))])),(so 3 (.agg (zs 2) [(0,1,(ki 10000)),(1,1,(ki 10000))])),(so 4 (.bsl 72 3 (zs 6) [(0,2,(.t 1)),(2,2,(.t 2)),(4,2,(.t 3))])),(so 5 (.agg [(.str ⟨#[]⟩),(.int .i64 0),(.slice none 0 0),(.int .i64 0)] [(0,1,(.k (.str ⟨#[104,105,103,104]⟩))),(2,1,(.t 4)),(3,1,(ki 4000))])),(so 6 (.agg (zs 2) [(0,1,(ki 5000)),(1,1,(ki (-2000)))])),(so 7 (.agg (zs 2) [(0,1,(ki 5000)),(1,1,(ki 2000))])),(so 8 (.bsl 72 2 (zs 4) [(0,2,(.t 6)),(2,2,(.t 7))])),(so 9 (.agg [(.str ⟨#[]⟩),(.int .i64 0),(.slice none 0 0),(.int .i64 0)] [(0,1,(.k (.str ⟨#[122,101,98,114,97]⟩))),(1,1,(ki 3)),(2,1,(.t 8)),(3,1,(ki 3000))])),(so 10 (.bsl 54 2 [(.str ⟨#[]⟩),(.int .i64 0),(.slice none 0 0),(.int .i64 0),(.str ⟨#[]⟩),(.int .i64 0),(.slice none 0 0),(.int .i64 0)] [(0,4,(.t 5)),(4,4,(.t 9))])),(so 11 (.agg (zs 5) [(0,1,(ki 4000)),(1,1,(ki 3000)),(2,1,(ki 1000)),(3,1,(ki 20)),(4,1,(ki 40))])),(so 12 (.bsl 57 1 (zs 5) [(0,5,(.t 11))])),(so 13 (.agg (zs 2) [(0,1,(ki 10000)),(1,1,(ki 5000))])),(so 14 (.agg (zs 2) [(0,1,(ki 0)),(1,1,(ki 5000))])),(so 15 (.agg (zs 4) [(0,1,(ki 250)),(1,1,(ki 750)),(2,1,(ki 10)),(3,1,(ki 30))])),(so 16 (.bsl 137 1 (zs 4) [(0,4,(.t 15))])),(so 17 (.agg [(.int .i64 0),(.int .i64 0),(.int .i64 0),(.int .i64 0),(.slice none 0 0)] [(0,2,(.t 13)),(2,2,(.t 14)),(4,1,(.t 16))])),(so 18 (.bsl 123 1 [(.int .i64 0),(.int .i64 0),(.int .i64 0),(.int .i64 0),(.slice none 0 0)] [(0,5,(.t 17))])),(so 19 (.agg [(.str ⟨#[]⟩),(.int .i64 0),(.int .i64 0),(.int .i64 0),(.int .i64 0),(.int .i64 0)] [(0,1,(.k (.str ⟨#[99,49]⟩))),(1,1,(ki 4000)),(2,1,(ki 4000)),(3,1,(ki 60)),(5,1,(ki (-1)))])),(so 20 (.bsl 100 1 [(.str ⟨#[]⟩),(.int .i64 0),(.int .i64 0),(.int .i64 0),(.int .i64 0),(.int .i64 0)] [(0,6,(.t 19))])),(so 21 (.agg [(.slice none 0 0),(.slice none 0 0),(.slice none 0 0),(.slice none 0 0)] [(0,1,(.t 10)),(1,1,(.t 12)),(2,1,(.t 18)),(3,1,(.t 20))])),(b8 4 0 21)] .ret))⟩
def s44:aE:=⟨37,[.tmp 4],(rg [(so 2 (.box 27 (.t 0))),(b6 4 0)] (rg [(sc 10 4 2),(b3 11 23 [10]),(sa 9 11),(so 12 (.ext (.t 9) 0)),(so 13 (.ext (.t 9) 1)),(so 14 (.ext (.t 9) 2)),(sa 5 12),(sa 6 13),(sa 7 14)] (.seq (rg [(b6 8 0)] (.block 0 (.loop (.seq (rg [(sa 15 8),(sa 16 1),(b4 17 16),(b1 18 .lss 15 17),(sa 19 18),⟨(some 20),.mov (.t 7),(some (19,true))⟩,⟨(some 21),.bin .eql (.t 20) (ki 0),(some (19,true))⟩,(so 22 (.pick (.t 19) (.t 21) (.k (.bool false))))] (.cond (.t 22) .skip (.exit 0))) (.seq (.block 1 (.seq (.draw [(ea 25 1),(ea 26 8),(d7 27 1 25 26),(eb 28 27),(ea 29 1),(ea 30 8),(d2 31 .add 30 1),(d7 32 1 29 31),(eb 33 32),(d2 34 .sub 33 1),(eo 35 (.call 86 [(.t 28),(ki 0),(.t 34)]))]) (.cond (.t 35) (.reg [(b6 7 4)]) .skip))) (.reg [(sa 23 8),(b2 24 .add 23 2),(sa 8 24)])))))) (rg [(sa 36 7),(sa 4 36)] .ret))))⟩
def s45:aE:=⟨5,[.tmp 2],(rg [(so 2 (.mov (.k (.bool false))))] (rg [(sa 3 0),(so 4 (.call 99 [(.t 3),(.k (.fn (.func 100) [] []))])),(sa 2 4)] .ret))⟩
def s46:aE:=⟨19,[.tmp 4],(rg [(b6 4 0)] (.seq (rg [(sa 6 0),(b4 7 6),(b6 8 0)] (.block 0 (.loop (rg [(b1 9 .lss 8 7)] (.seq (.cond (.t 9) .skip (.exit 0)) (.seq (.block 1 (rg [(sa 10 8),(sa 5 10)] (rg [(sa 11 1),(sa 12 0),(sa 13 5),(b7 14 5 12 13),(sc 15 5 14),(so 16 (.callv (.t 11) [(.t 15)]))] (.cond (.t 16) (rg [(sa 17 5),(sa 4 17)] .ret) .skip)))) (.reg [(b2 18 .add 8 1),(sa 8 18)]))))))) (rg [(b6 4 (-1))] .ret)))⟩
def s47:aE:=⟨18,[.tmp 6],(rg [(so 5 (.box 57 (.t 0))),(so 6 (.mov (.k (.bool false))))] (.seq (.draw [(ee 7 3 1),(eb 8 7),(eb 9 2),(d7 10 6 8 9),(ec 11 6 10),(ec 12 5 5),(d3 13 48 [11,12]),(eb 14 3),(eb 15 4),(eo 16 (.agg (zs 2) [(0,1,(.t 14)),(1,1,(.t 15))])),(d3 17 49 [13,16]),(ea 6 17)]) .ret))⟩
def s48:aE:=⟨42,[.cell 4 (some 9)],(rg [(so 2 (.box 100 (.t 0))),(so 3 (.box 57 (.t 1))),(so 4 (.new 97 [(.int .i64 0),(.int .i64 0),(.int .i64 0),(.int .i64 0),(.int .i64 0),(.int .i64 0),(.int .i64 0),(.int .i64 0),(.bool false)]))] (.seq (.draw [(ee 5 1 2),(eb 6 5),(ee 7 2 2),(eb 8 7),(eo 9 (.agg (zs 2) [(0,1,(.t 6)),(1,1,(.t 8))])),(ee 10 3 2),(eb 11 10),(ee 12 3 2),(eb 13 12),(ee 14 4 3),(eb 15 14),(d1 16 .sub 13 15),(eo 17 (.mm true (ki 0) [(.t 16)])),(ee 18 3 2),(eb 19 18),(ee 20 3 3),(eb 21 20),(d1 22 .sub 19 21),(ee 23 0 3),(eb 24 23),(ee 25 1 3),(eb 26 25),(eo 27 (.agg (zs 2) [(0,1,(.t 24)),(1,1,(.t 26))])),(ee 28 3 2),(eb 29 28),(d3 30 101 [27,29]),(ee 31 2 3),(eb 32 31),(ee 33 3 2),(eb 34 33),(d1 35 .mul 32 34),(ee 36 3 3),(eb 37 36),(ee 38 3 2),(eb 39 38),(d1 40 .gtr 37 39),(eo 41 (.agg [(.int .i64 0),(.int .i64 0),(.int .i64 0),(.int .i64 0),(.int .i64 0),(.int .i64 0),(.int .i64 0),(.int .i64 0),(.bool false)] [(0,2,(.t 9)),(2,1,(.t 11)),(3,1,(.t 17)),(4,1,(.t 22)),(5,2,(.t 30)),(7,1,(.t 35)),(8,1,(.t 40))])),⟨(b8 9 4 41),none,[],[.slot 4]⟩]) .ret))⟩
def s49:aE:=⟨26,[.tmp 4],(rg [(so 2 (.box 97 (.t 0))),(so 3 (.box 95 (.t 1))),(so 4 (.mov (.k (.bool false))))] (.seq (.draw [(ee 5 8 2),(eb 6 5),(eo 7 (.un .not (.t 6))),(ea 8 7),(dz ⟨(some 9),.lds 9 (.t 2),(some (8,true))⟩),(dz ⟨(some 10),.lds 2 (.t 3),(some (8,true))⟩),(dz ⟨(some 11),.fa 3 (.t 2),(some (8,true))⟩),(dz ⟨(some 12),.ld (.t 11),(some (8,true))⟩),(dz ⟨(some 13),.call 102 [(.t 9),(.t 10),(.t 12)],(some (8,true))⟩),(dz ⟨(some 14),.lds 9 (.t 2),(some (8,true))⟩),(dz ⟨(some 15),.lds 2 (.t 3),(some (8,true))⟩),(dz ⟨(some 16),.fa 4 (.t 2),(some (8,true))⟩),(dz ⟨(some 17),.ld (.t 16),(some (8,true))⟩),(dz ⟨(some 18),.call 102 [(.t 14),(.t 15),(.t 17)],(some (8,true))⟩),(dz ⟨(some 19),.agg (zs 4) [(0,2,(.t 13)),(2,2,(.t 18))],(some (8,true))⟩),(dz ⟨(some 20),.fa 5 (.t 2),(some (8,true))⟩),(dz ⟨(some 21),.lds 2 (.t 20),(some (8,true))⟩),(dz ⟨(some 22),.fa 7 (.t 2),(some (8,true))⟩),(dz ⟨(some 23),.ld (.t 22),(some (8,true))⟩),(dz ⟨(some 24),.call 103 [(.t 19),(.t 21),(.t 23)],(some (8,true))⟩),(eo 25 (.pick (.t 8) (.t 24) (.k (.bool false)))),(ea 4 25)]) .ret))⟩
def s50:aE:=⟨22,[.tmp 6],(rg [(so 3 (.box 27 (.t 0))),(b6 6 0)] (rg [(sc 8 4 3),(b3 9 91 [8]),(sa 7 9)] (.seq (rg [(sa 10 7),(b2 11 .eql 10 0),(sa 12 11),⟨(some 13),.mov (.t 1),(some (12,true))⟩,⟨(some 14),.bin .lss (.t 13) (ki 0),(some (12,true))⟩,⟨(some 15),.mov (.t 14),(some (12,true))⟩,⟨(some 16),.mov (.t 1),(some (15,false))⟩,⟨(some 17),.mov (.t 2),(some (15,false))⟩,⟨(some 18),.bin .geq (.t 16) (.t 17),(some (15,false))⟩,⟨(some 19),.pick (.t 15) (.k (.bool true)) (.t 18),(some (12,true))⟩,(so 20 (.pick (.t 12) (.t 19) (.k (.bool false))))] (.cond (.t 20) (.reg [(b6 7 4)]) .skip)) (rg [(sa 21 7),(sa 6 21)] .ret))))⟩
def s51:aE:=⟨16,[.tmp 2],(rg [(so 2 (.mov (.k (.bool false))))] (.seq (rg [(b6 3 0)] (.block 0 (.loop (.seq (rg [(sa 4 3),(sa 5 0),(b4 6 5),(b1 7 .lss 4 6)] (.cond (.t 7) .skip (.exit 0))) (.seq (.block 1 (rg [(sa 10 0),(sa 11 3),(b7 12 1 10 11),(sb 13 12),(so 14 (.call 71 [(.t 13),(ki (-100000)),(ki 100000)])),(b5 15 14)] (.cond (.t 15) (rg [(so 2 (.mov (.k (.bool false))))] .ret) .skip))) (.reg [(sa 8 3),(b2 9 .add 8 1),(sa 3 9)])))))) (rg [(so 2 (.mov (.k (.bool true))))] .ret)))⟩
def s53:aE:=⟨27,[.tmp 2],(rg [(so 1 (.box 29 (.t 0))),(so 2 (.mov (.k (.bool false))))] (rg [(se 3 0 1),(sb 4 3),(se 5 1 1),(sb 6 5),(se 7 2 1),(sb 8 7),(se 9 3 1),(sb 10 9),(so 11 (.bsl 3 4 (zs 4) [(0,1,(.t 4)),(1,1,(.t 6)),(2,1,(.t 8)),(3,1,(.t 10))])),(b3 12 45 [11]),(sa 13 12),⟨(some 14),.fa 0 (.t 1),(some (13,false))⟩,⟨(some 15),.ld (.t 14),(some (13,false))⟩,⟨(some 16),.fa 2 (.t 1),(some (13,false))⟩,⟨(some 17),.ld (.t 16),(some (13,false))⟩,⟨(some 18),.bin .gtr (.t 15) (.t 17),(some (13,false))⟩,(so 19 (.pick (.t 13) (.k (.bool true)) (.t 18))),(sa 20 19),⟨(some 21),.fa 1 (.t 1),(some (20,false))⟩,⟨(some 22),.ld (.t 21),(some (20,false))⟩,⟨(some 23),.fa 3 (.t 1),(some (20,false))⟩,⟨(some 24),.ld (.t 23),(some (20,false))⟩,⟨(some 25),.bin .gtr (.t 22) (.t 24),(some (20,false))⟩,(so 26 (.pick (.t 20) (.k (.bool true)) (.t 25))),(sa 2 26)] .ret))⟩
def s54:aE:=⟨24,[.cell 2 (some 8)],(rg [(so 1 (.box 29 (.t 0))),(so 2 (.new 108 (zs 8)))] (rg [(se 3 0 1),(sb 4 3),(se 5 1 1),(sb 6 5),(so 7 (.agg (zs 2) [(0,1,(.t 4)),(1,1,(.t 6))])),(se 8 2 1),(sb 9 8),(se 10 1 1),(sb 11 10),(so 12 (.agg (zs 2) [(0,1,(.t 9)),(1,1,(.t 11))])),(se 13 2 1),(sb 14 13),(se 15 3 1),(sb 16 15),(so 17 (.agg (zs 2) [(0,1,(.t 14)),(1,1,(.t 16))])),(se 18 0 1),(sb 19 18),(se 20 3 1),(sb 21 20),(so 22 (.agg (zs 2) [(0,1,(.t 19)),(1,1,(.t 21))])),(so 23 (.agg (zs 8) [(0,2,(.t 7)),(2,2,(.t 12)),(4,2,(.t 17)),(6,2,(.t 22))])),(b8 8 2 23)] .ret))⟩
def s55:aE:=⟨9,[.tmp 4],(rg [(so 4 (.mov (.k (.bool false))))] (rg [(sa 5 0),(sa 6 1),(b3 7 108 [5,6]),(b2 8 .geq 7 0),(sa 4 8)] .ret))⟩
def s56:aE:=⟨8,[.tmp 3],(rg [(so 2 (.box 95 (.t 0))),(so 3 (.mov (.k (.bool false))))] (rg [(sc 4 9 1),(sc 5 2 2),(b3 6 49 [4,5]),(b5 7 6),(sa 3 7)] .ret))⟩
def s57:aE:=⟨71,[.tmp 4],(rg [(so 2 (.box 97 (.t 0))),(so 3 (.box 29 (.t 1))),(so 4 (.mov (.k (.bool false))))] (.seq (rg [(se 12 8 2),(sb 13 12)] (.cond (.t 13) (rg [(so 4 (.mov (.k (.bool false))))] .ret) .skip)) (rg [(so 5 (.mov (.k (.slice none 0 0))))] (.seq (rg [(sc 14 4 3),(b3 15 54 [14]),(b6 16 0)] (.block 0 (.loop (rg [(b2 17 .lss 16 4)] (.seq (.cond (.t 17) .skip (.exit 0)) (.seq (.block 1 (rg [(so 18 (.ixA 4 2 (some 2) (.t 15) (.t 16))),(so 7 (.new 95 (zs 2))),(b8 2 7 18)] (.draw [⟨(sa 19 5),none,[11],[]⟩,(ec 20 9 2),(ec 21 2 7),(ee 22 3 2),(eb 23 22),(d3 24 102 [20,21,23]),(ec 25 9 2),(ec 26 2 7),(ee 27 4 2),(eb 28 27),(d3 29 102 [25,26,28]),⟨(so 30 (.bsl 95 2 (zs 4) [(0,2,(.t 24)),(2,2,(.t 29))])),(some 0),[],[.fresh 0]⟩,⟨(so 31 (.app 95 2 16 (zs 2) (.t 19) (.t 30))),(some 1),[],[.slot 5,.fresh 1]⟩,(ea 5 31)]))) (.reg [(b2 32 .add 16 1),(sa 16 32)]))))))) (rg [(sa 33 5),(b3 34 109 [33]),(sa 5 34)] (rg [(sa 35 5),(b4 36 35),(b2 37 .gtr 36 2),(sa 8 37)] (.seq (rg [(sa 38 5),(b4 39 38),(b6 40 0)] (.block 2 (.loop (rg [(b1 41 .lss 40 39)] (.seq (.cond (.t 41) .skip (.exit 2)) (.seq (.block 3 (rg [(sa 42 40),(b7 43 2 38 40),(sc 44 2 43),(so 10 (.new 95 (zs 2))),(sa 9 42),(b8 2 10 44)] (.seq (.draw [⟨(sc 45 2 10),none,[10],[]⟩,⟨(sa 46 5),none,[10],[]⟩,⟨(sa 47 9),none,[10],[]⟩,⟨(b2 48 .add 47 1),none,[10],[]⟩,⟨(sa 49 5),none,[10],[]⟩,⟨(b4 50 49),none,[10],[]⟩,⟨(b1 51 .rem 48 50),none,[10],[]⟩,⟨(b7 52 2 46 51),none,[10],[]⟩,⟨(sc 53 2 52),none,[10],[]⟩,⟨(so 54 (.agg (zs 4) [(0,2,(.t 45)),(2,2,(.t 53))])),none,[10],[]⟩,⟨(so 11 (.new 133 (zs 4))),(some 0),[],[.fresh 0]⟩,⟨(b8 4 11 54),none,[],[.fresh 0]⟩]) (.seq (rg [(sc 55 4 11),(se 56 5 2),(sc 57 2 56),(se 58 7 2),(sb 59 58),(b3 60 103 [55,57,59])] (.cond (.t 60) (rg [(so 4 (.mov (.k (.bool true))))] .ret) .skip)) (.reg [(sa 61 8),(sa 62 61),⟨(some 63),.lds 4 (.t 11),(some (62,true))⟩,⟨(some 64),.fa 5 (.t 2),(some (62,true))⟩,⟨(some 65),.lds 2 (.t 64),(some (62,true))⟩,⟨(some 66),.call 78 [(.t 63),(.t 65)],(some (62,true))⟩,⟨(some 67),.bin .gtr (.t 66) (ki 0),(some (62,true))⟩,(so 68 (.pick (.t 62) (.t 67) (.k (.bool false)))),(sa 8 68)]))))) (.reg [(b2 69 .add 40 1),(sa 40 69)]))))))) (rg [(sa 70 8),(sa 4 70)] .ret))))))))⟩
def s61:aE:=⟨16,[.tmp 4],(rg [(so 2 (.box 54 (.t 0))),(so 3 (.box 29 (.t 1))),(b6 4 0)] (rg [(so 5 (.new 3 [(.int .i64 0)])),⟨none,.st 1 (.t 5) (ki 0),none⟩] (.seq (rg [(sc 7 4 2),(b3 8 83 [7])] (.block 0 (.range (.t 8) [9] (.reg [(so 6 (.new 145 (zs 5))),(b8 5 6 9)]) (.block 1 (.draw [(eb 10 5),(ec 11 5 6),(ec 12 4 3),(d3 13 111 [11,12]),(eo 14 (.mm true (.t 10) [(.t 13)])),⟨(b8 1 5 14),none,[],[.slot 5]⟩])) its))) (rg [(sb 15 5),(sa 4 15)] .ret))))⟩
def s62:aE:=⟨27,[.tmp 4,.tmp 5],(rg [(b6 4 0),(b6 5 0)] (.seq (rg [(sa 9 0),(b4 10 9),(b6 11 0)] (.block 0 (.loop (rg [(b1 12 .lss 11 10)] (.seq (.cond (.t 12) .skip (.exit 0)) (.seq (.block 1 (rg [(sa 13 11),(b7 14 4 9 11),(sc 15 4 14),(so 7 (.new 54 [(.str ⟨#[]⟩),(.int .i64 0),(.slice none 0 0),(.int .i64 0)])),(sa 6 13),(b8 4 7 15)] (.seq (.draw [(ea 16 1),(ea 17 0),(ea 18 6),(eo 19 (.slS 4 (.t 17) none (some (.t 18)) none)),(ec 20 4 7),(eo 21 (.callv (.t 16) [(.t 19),(.t 20)])),(ea 8 21)]) (rg [(sa 22 8),(b2 23 .neq 22 0)] (.cond (.t 23) (rg [(sa 24 6),(sa 25 8),(sa 4 24),(sa 5 25)] .ret) .skip))))) (.reg [(b2 26 .add 11 1),(sa 11 26)]))))))) (rg [(b6 4 0),(b6 5 0)] .ret)))⟩
def s63:aE:=⟨61,[.tmp 4],(rg [(so 3 (.box 54 (.t 1))),(b6 4 0)] (rg [(so 7 (.mkf (.func 112) [] [(.t 3)])),(sa 5 7)] (rg [(so 6 (.mov (.k (.fn (.func 113) [] []))))] (.seq (.block 0 (rg [(se 9 0 3),(sb 10 9),(b3 11 114 [10]),(b5 12 11),(sa 8 12)] (.cond (.t 8) (rg [(b6 4 6)] .ret) (rg [(sa 14 0),(sa 15 5),(b3 16 90 [14,15]),(sa 13 16)] (.cond (.t 13) (rg [(b6 4 5)] .ret) (rg [(se 18 1 3),(sb 19 18),(so 20 (.call 86 [(.t 19),(ki 0),(ki 3)])),(sa 17 20)] (.cond (.t 17) (rg [(b6 4 2)] .ret) (rg [(se 22 2 3),(sb 23 22),(b4 24 23),(b2 25 .lss 24 2),(sa 21 25)] (.cond (.t 21) (rg [(b6 4 4)] .ret) (rg [(se 27 2 3),(sb 28 27),(b4 29 28),(b2 30 .gtr 29 8),(sa 26 30)] (.cond (.t 26) (rg [(b6 4 3)] .ret) (rg [(se 32 2 3),(sb 33 32),(sa 34 6),(b3 35 115 [33,34]),(sa 36 35),⟨(some 37),.fa 3 (.t 3),(some (36,false))⟩,⟨(some 38),.ld (.t 37),(some (36,false))⟩,⟨(some 39),.call 86 [(.t 38),(ki 100),(ki 30000)],(some (36,false))⟩,(so 40 (.pick (.t 36) (.k (.bool true)) (.t 39))),(sa 31 40)] (.cond (.t 31) (rg [(b6 4 7)] .ret) (.seq (.allo (.op (se 42 2 3) (.op (se 47 2 3) (.alt (.op (sb 43 42) (.alt (.op (b3 44 117 [43]) (.alt (.op (b3 45 116 [44]) (.op (b4 46 45) (.op (sb 48 47) (.op (b4 49 48) (.op (b1 50 .lss 46 49) (.op (sa 41 50) .done)))))) (.op (sb 48 47) (.op (b4 49 48) (.op (b3 45 116 [44]) (.op (b4 46 45) (.op (b1 50 .lss 46 49) (.op (sa 41 50) .done)))))))) (.op (sb 48 47) (.op (b4 49 48) (.op (b3 44 117 [43]) (.op (b3 45 116 [44]) (.op (b4 46 45) (.op (b1 50 .lss 46 49) (.op (sa 41 50) .done))))))))) (.op (sb 48 47) (.op (b4 49 48) (.op (sb 43 42) (.op (b3 44 117 [43]) (.op (b3 45 116 [44]) (.op (b4 46 45) (.op (b1 50 .lss 46 49) (.op (sa 41 50) .done)))))))))))) (.cond (.t 41) (rg [(b6 4 2)] .ret) (rg [(se 52 1 3),(sb 53 52),(b2 54 .eql 53 3),(sa 55 54),⟨(some 56),.fa 2 (.t 3),(some (55,true))⟩,⟨(some 57),.ld (.t 56),(some (55,true))⟩,⟨(some 58),.len (.t 57),(some (55,true))⟩,⟨(some 59),.bin .gtr (.t 58) (ki 2),(some (55,true))⟩,(so 60 (.pick (.t 55) (.t 59) (.k (.bool false)))),(sa 51 60)] (.cond (.t 51) (rg [(b6 4 2)] .ret) .skip))))))))))))))))) (rg [(b6 4 0)] .ret)))))⟩
def s64:aE:=⟨27,[.tmp 4,.tmp 5],(rg [(b6 4 0),(b6 5 0)] (.seq (rg [(sa 9 0),(b4 10 9),(b6 11 0)] (.block 0 (.loop (rg [(b1 12 .lss 11 10)] (.seq (.cond (.t 12) .skip (.exit 0)) (.seq (.block 1 (rg [(sa 13 11),(b7 14 5 9 11),(sc 15 5 14),(so 7 (.new 57 (zs 5))),(sa 6 13),(b8 5 7 15)] (.seq (.draw [(ea 16 1),(ea 17 0),(ea 18 6),(eo 19 (.slS 5 (.t 17) none (some (.t 18)) none)),(ec 20 5 7),(eo 21 (.callv (.t 16) [(.t 19),(.t 20)])),(ea 8 21)]) (rg [(sa 22 8),(b2 23 .neq 22 0)] (.cond (.t 23) (rg [(sa 24 6),(sa 25 8),(sa 4 24),(sa 5 25)] .ret) .skip))))) (.reg [(b2 26 .add 11 1),(sa 11 26)]))))))) (rg [(b6 4 0),(b6 5 0)] .ret)))⟩
def s65:aE:=⟨29,[.tmp 4],(rg [(so 3 (.box 57 (.t 1))),(b6 4 0)] (.seq (rg [(se 5 0 3),(sb 6 5),(se 7 1 3),(sb 8 7),(so 9 (.bsl 3 2 (zs 2) [(0,1,(.t 6)),(1,1,(.t 8))])),(b3 10 45 [9]),(sa 11 10),⟨(some 12),.fa 2 (.t 3),(some (11,false))⟩,⟨(some 13),.ld (.t 12),(some (11,false))⟩,⟨(some 14),.call 86 [(.t 13),(ki 1),(ki 20000)],(some (11,false))⟩,(so 15 (.pick (.t 11) (.k (.bool true)) (.t 14))),(sa 16 15),⟨(some 17),.fa 3 (.t 3),(some (16,false))⟩,⟨(some 18),.ld (.t 17),(some (16,false))⟩,⟨(some 19),.fa 4 (.t 3),(some (16,false))⟩,⟨(some 20),.ld (.t 19),(some (16,false))⟩,⟨(some 21),.bin .sub (.t 20) (ki 1),(some (16,false))⟩,⟨(some 22),.call 86 [(.t 18),(ki 0),(.t 21)],(some (16,false))⟩,(so 23 (.pick (.t 16) (.k (.bool true)) (.t 22))),(sa 24 23),⟨(some 25),.fa 4 (.t 3),(some (24,false))⟩,⟨(some 26),.ld (.t 25),(some (24,false))⟩,⟨(some 27),.call 86 [(.t 26),(ki 1),(ki 1000)],(some (24,false))⟩,(so 28 (.pick (.t 24) (.k (.bool true)) (.t 27)))] (.cond (.t 28) (rg [(b6 4 7)] .ret) .skip)) (rg [(b6 4 0)] .ret)))⟩
def s66:aE:=⟨27,[.tmp 4,.tmp 5],(rg [(b6 4 0),(b6 5 0)] (.seq (rg [(sa 9 0),(b4 10 9),(b6 11 0)] (.block 0 (.loop (rg [(b1 12 .lss 11 10)] (.seq (.cond (.t 12) .skip (.exit 0)) (.seq (.block 1 (rg [(sa 13 11),(b7 14 5 9 11),(sc 15 5 14),(so 7 (.new 123 [(.int .i64 0),(.int .i64 0),(.int .i64 0),(.int .i64 0),(.slice none 0 0)])),(sa 6 13),(b8 5 7 15)] (.seq (.draw [(ea 16 1),(ea 17 0),(ea 18 6),(eo 19 (.slS 5 (.t 17) none (some (.t 18)) none)),(ec 20 5 7),(eo 21 (.callv (.t 16) [(.t 19),(.t 20)])),(ea 8 21)]) (rg [(sa 22 8),(b2 23 .neq 22 0)] (.cond (.t 23) (rg [(sa 24 6),(sa 25 8),(sa 4 24),(sa 5 25)] .ret) .skip))))) (.reg [(b2 26 .add 11 1),(sa 11 26)]))))))) (rg [(b6 4 0),(b6 5 0)] .ret)))⟩
def s67:aE:=⟨37,[.tmp 4],(rg [(so 3 (.box 123 (.t 1))),(b6 4 0)] (rg [(so 5 (.mov (.k (.fn (.func 118) [] []))))] (.seq (.block 0 (rg [(se 7 0 3),(so 8 (.iaA 2 1 (.t 7) (ki 0))),(sb 9 8),(se 10 0 3),(so 11 (.iaA 2 1 (.t 10) (ki 1))),(sb 12 11),(se 13 2 3),(so 14 (.iaA 2 1 (.t 13) (ki 0))),(sb 15 14),(se 16 2 3),(so 17 (.iaA 2 1 (.t 16) (ki 1))),(sb 18 17),(so 19 (.bsl 3 4 (zs 4) [(0,1,(.t 9)),(1,1,(.t 12)),(2,1,(.t 15)),(3,1,(.t 18))])),(b3 20 45 [19]),(sa 6 20)] (.cond (.t 6) (rg [(b6 4 7)] .ret) (rg [(se 22 0 3),(sc 23 2 22),(se 24 2 3),(sc 25 2 24),(so 26 (.eqa false 2 (.t 23) (.t 25))),(sa 21 26)] (.cond (.t 21) (rg [(b6 4 2)] .ret) (rg [(se 28 4 3),(sb 29 28),(b4 30 29),(b2 31 .gtr 30 6),(sa 27 31)] (.cond (.t 27) (rg [(b6 4 3)] .ret) (rg [(se 33 4 3),(sb 34 33),(sa 35 5),(b3 36 119 [34,35]),(sa 32 36)] (.cond (.t 32) (rg [(b6 4 7)] .ret) .skip))))))))) (rg [(b6 4 0)] .ret))))⟩
def s68:aE:=⟨27,[.tmp 4,.tmp 5],(rg [(b6 4 0),(b6 5 0)] (.seq (rg [(sa 9 0),(b4 10 9),(b6 11 0)] (.block 0 (.loop (rg [(b1 12 .lss 11 10)] (.seq (.cond (.t 12) .skip (.exit 0)) (.seq (.block 1 (rg [(sa 13 11),(b7 14 6 9 11),(sc 15 6 14),(so 7 (.new 100 [(.str ⟨#[]⟩),(.int .i64 0),(.int .i64 0),(.int .i64 0),(.int .i64 0),(.int .i64 0)])),(sa 6 13),(b8 6 7 15)] (.seq (.draw [(ea 16 1),(ea 17 0),(ea 18 6),(eo 19 (.slS 6 (.t 17) none (some (.t 18)) none)),(ec 20 6 7),(eo 21 (.callv (.t 16) [(.t 19),(.t 20)])),(ea 8 21)]) (rg [(sa 22 8),(b2 23 .neq 22 0)] (.cond (.t 23) (rg [(sa 24 6),(sa 25 8),(sa 4 24),(sa 5 25)] .ret) .skip))))) (.reg [(b2 26 .add 11 1),(sa 11 26)]))))))) (rg [(b6 4 0),(b6 5 0)] .ret)))⟩
def s69:aE:=⟨47,[.tmp 4],(rg [(so 3 (.box 100 (.t 1))),(b6 4 0)] (rg [(so 6 (.mkf (.func 120) [] [(.t 3)])),(sa 5 6)] (.seq (.block 0 (rg [(se 8 0 3),(sb 9 8),(b3 10 114 [9]),(b5 11 10),(sa 7 11)] (.cond (.t 7) (rg [(b6 4 6)] .ret) (rg [(sa 13 0),(sa 14 5),(b3 15 121 [13,14]),(sa 12 15)] (.cond (.t 12) (rg [(b6 4 5)] .ret) (rg [(se 17 1 3),(sb 18 17),(se 19 2 3),(sb 20 19),(so 21 (.bsl 3 2 (zs 2) [(0,1,(.t 18)),(1,1,(.t 20))])),(b3 22 45 [21]),(sa 23 22),⟨(some 24),.fa 3 (.t 3),(some (23,false))⟩,⟨(some 25),.ld (.t 24),(some (23,false))⟩,⟨(some 26),.call 86 [(.t 25),(ki 1),(ki 200)],(some (23,false))⟩,(so 27 (.pick (.t 23) (.k (.bool true)) (.t 26))),(sa 28 27),⟨(some 29),.fa 4 (.t 3),(some (28,false))⟩,⟨(some 30),.ld (.t 29),(some (28,false))⟩,⟨(some 31),.call 86 [(.t 30),(ki (-1000)),(ki 1000)],(some (28,false))⟩,(so 32 (.pick (.t 28) (.k (.bool true)) (.t 31))),(sa 33 32),⟨(some 34),.fa 5 (.t 3),(some (33,false))⟩,⟨(some 35),.ld (.t 34),(some (33,false))⟩,⟨(some 36),.call 86 [(.t 35),(ki (-1000)),(ki 1000)],(some (33,false))⟩,(so 37 (.pick (.t 33) (.k (.bool true)) (.t 36))),(sa 16 37)] (.cond (.t 16) (rg [(b6 4 7)] .ret) (rg [(se 39 4 3),(sb 40 39),(b2 41 .eql 40 0),(sa 42 41),⟨(some 43),.fa 5 (.t 3),(some (42,true))⟩,⟨(some 44),.ld (.t 43),(some (42,true))⟩,⟨(some 45),.bin .eql (.t 44) (ki 0),(some (42,true))⟩,(so 46 (.pick (.t 42) (.t 45) (.k (.bool false)))),(sa 38 46)] (.cond (.t 38) (rg [(b6 4 2)] .ret) .skip))))))))) (rg [(b6 4 0)] .ret))))⟩
def s70:aE:=⟨98,[.tmp 4],(rg [(so 2 (.box 27 (.t 0))),(b6 4 0)] (rg [(se 9 0 2),(sb 10 9),(sa 11 1),(b7 12 4 10 11),(sc 13 4 12),(so 5 (.new 54 [(.str ⟨#[]⟩),(.int .i64 0),(.slice none 0 0),(.int .i64 0)])),(b8 4 5 13)] (.seq (rg [(se 14 0 5),(sb 15 14),(b3 16 122 [15]),(b5 17 16)] (.cond (.t 17) (rg [(b6 4 6)] .ret) .skip)) (.seq (rg [(b6 6 0)] (.block 0 (.loop (.seq (rg [(sa 18 6),(sa 19 1),(b1 20 .lss 18 19)] (.cond (.t 20) .skip (.exit 0))) (.seq (.block 1 (.seq (.draw [(ee 23 0 2),(eb 24 23),(ea 25 6),(d7 26 4 24 25),(ee 27 0 26),(eb 28 27),(ee 29 0 5),(eb 30 29),(d1 31 .eql 28 30)]) (.cond (.t 31) (rg [(b6 4 5)] .ret) .skip))) (.reg [(sa 21 6),(b2 22 .add 21 1),(sa 6 22)])))))) (.seq (rg [(se 32 1 5),(sb 33 32),(so 34 (.call 71 [(.t 33),(ki 0),(ki 3)])),(b5 35 34)] (.cond (.t 35) (rg [(b6 4 2)] .ret) .skip)) (.seq (rg [(se 36 2 5),(sb 37 36),(b4 38 37),(b2 39 .lss 38 2)] (.cond (.t 39) (rg [(b6 4 4)] .ret) .skip)) (.seq (rg [(se 40 2 5),(sb 41 40),(b4 42 41),(b2 43 .gtr 42 8)] (.cond (.t 43) (rg [(b6 4 3)] .ret) .skip)) (.seq (rg [(b6 7 0)] (.block 2 (.loop (.seq (rg [(sa 44 7),(se 45 2 5),(sb 46 45),(b4 47 46),(b1 48 .lss 44 47)] (.cond (.t 48) .skip (.exit 2))) (.seq (.block 3 (.seq (.draw [(ee 51 2 5),(eb 52 51),(ea 53 7),(d7 54 2 52 53),(eo 55 (.iaA 2 1 (.t 54) (ki 0))),(eb 56 55),(ee 57 2 5),(eb 58 57),(ea 59 7),(d7 60 2 58 59),(eo 61 (.iaA 2 1 (.t 60) (ki 1))),(eb 62 61),⟨(so 63 (.bsl 3 2 (zs 2) [(0,1,(.t 56)),(1,1,(.t 62))])),(some 0),[],[.fresh 0]⟩,(d3 64 51 [63]),(eo 65 (.un .not (.t 64)))]) (.cond (.t 65) (rg [(b6 4 7)] .ret) .skip))) (.reg [(sa 49 7),(b2 50 .add 49 1),(sa 7 50)])))))) (.seq (rg [(se 66 3 5),(sb 67 66),(so 68 (.call 71 [(.t 67),(ki 100),(ki 30000)])),(b5 69 68)] (.cond (.t 69) (rg [(b6 4 7)] .ret) .skip)) (.seq (rg [(b6 8 1)] (.block 4 (.loop (.seq (rg [(sa 70 8),(se 71 2 5),(sb 72 71),(b4 73 72),(b1 74 .lss 70 73)] (.cond (.t 74) .skip (.exit 4))) (.seq (.block 5 (.seq (.draw [(ee 77 2 5),(eb 78 77),(ea 79 8),(d7 80 2 78 79),(ec 81 2 80),(ee 82 2 5),(eb 83 82),(ea 84 8),(d2 85 .sub 84 1),(d7 86 2 83 85),(ec 87 2 86),(eo 88 (.eqa false 2 (.t 81) (.t 87)))]) (.cond (.t 88) (rg [(b6 4 2)] .ret) .skip))) (.reg [(sa 75 8),(b2 76 .add 75 1),(sa 8 76)])))))) (.seq (rg [(se 89 1 5),(sb 90 89),(b2 91 .eql 90 3),(sa 92 91),⟨(some 93),.fa 2 (.t 5),(some (92,true))⟩,⟨(some 94),.ld (.t 93),(some (92,true))⟩,⟨(some 95),.len (.t 94),(some (92,true))⟩,⟨(some 96),.bin .gtr (.t 95) (ki 2),(some (92,true))⟩,(so 97 (.pick (.t 92) (.t 96) (.k (.bool false))))] (.cond (.t 97) (rg [(b6 4 2)] .ret) .skip)) (rg [(b6 4 0)] .ret))))))))))))⟩
def s71:aE:=⟨15,[.tmp 6],(rg [(so 6 (.mov (.k (.bool false))))] (rg [(sa 7 0),(sa 8 1),(b1 9 .geq 7 8),(sa 10 9),⟨(some 11),.mov (.t 0),(some (10,true))⟩,⟨(some 12),.mov (.t 2),(some (10,true))⟩,⟨(some 13),.bin .leq (.t 11) (.t 12),(some (10,true))⟩,(so 14 (.pick (.t 10) (.t 13) (.k (.bool false)))),(sa 6 14)] .ret))⟩
def s72:aE:=⟨73,[.tmp 2],(rg [(so 1 (.box 123 (.t 0))),(b6 2 0)] (.seq (rg [(se 5 0 1),(so 6 (.iaA 2 1 (.t 5) (ki 0))),(sb 7 6),(se 8 0 1),(so 9 (.iaA 2 1 (.t 8) (ki 1))),(sb 10 9),(se 11 2 1),(so 12 (.iaA 2 1 (.t 11) (ki 0))),(sb 13 12),(se 14 2 1),(so 15 (.iaA 2 1 (.t 14) (ki 1))),(sb 16 15),(so 17 (.bsl 3 4 (zs 4) [(0,1,(.t 7)),(1,1,(.t 10)),(2,1,(.t 13)),(3,1,(.t 16))])),(b3 18 51 [17]),(b5 19 18)] (.cond (.t 19) (rg [(b6 2 7)] .ret) .skip)) (.seq (rg [(se 20 0 1),(sc 21 2 20),(se 22 2 1),(sc 23 2 22),(so 24 (.eqa false 2 (.t 21) (.t 23)))] (.cond (.t 24) (rg [(b6 2 2)] .ret) .skip)) (.seq (rg [(se 25 4 1),(sb 26 25),(b4 27 26),(b2 28 .gtr 27 6)] (.cond (.t 28) (rg [(b6 2 3)] .ret) .skip)) (.seq (rg [(b6 3 0)] (.block 0 (.loop (.seq (rg [(sa 29 3),(se 30 4 1),(sb 31 30),(b4 32 31),(b1 33 .lss 29 32)] (.cond (.t 33) .skip (.exit 0))) (.seq (.block 1 (rg [(se 36 4 1),(sb 37 36),(sa 38 3),(b7 39 4 37 38),(sc 40 4 39),(so 4 (.new 137 (zs 4))),(b8 4 4 40)] (rg [(se 41 0 4),(sb 42 41),(b2 43 .lss 42 0),(sa 44 43),⟨(some 45),.fa 0 (.t 4),(some (44,false))⟩,⟨(some 46),.ld (.t 45),(some (44,false))⟩,⟨(some 47),.fa 1 (.t 4),(some (44,false))⟩,⟨(some 48),.ld (.t 47),(some (44,false))⟩,⟨(some 49),.bin .geq (.t 46) (.t 48),(some (44,false))⟩,(so 50 (.pick (.t 44) (.k (.bool true)) (.t 49))),(sa 51 50),⟨(some 52),.fa 1 (.t 4),(some (51,false))⟩,⟨(some 53),.ld (.t 52),(some (51,false))⟩,⟨(some 54),.bin .gtr (.t 53) (ki 1000),(some (51,false))⟩,(so 55 (.pick (.t 51) (.k (.bool true)) (.t 54))),(sa 56 55),⟨(some 57),.fa 2 (.t 4),(some (56,false))⟩,⟨(some 58),.ld (.t 57),(some (56,false))⟩,⟨(some 59),.bin .lss (.t 58) (ki 0),(some (56,false))⟩,(so 60 (.pick (.t 56) (.k (.bool true)) (.t 59))),(sa 61 60),⟨(some 62),.fa 2 (.t 4),(some (61,false))⟩,⟨(some 63),.ld (.t 62),(some (61,false))⟩,⟨(some 64),.fa 3 (.t 4),(some (61,false))⟩,⟨(some 65),.ld (.t 64),(some (61,false))⟩,⟨(some 66),.bin .geq (.t 63) (.t 65),(some (61,false))⟩,(so 67 (.pick (.t 61) (.k (.bool true)) (.t 66))),(sa 68 67),⟨(some 69),.fa 3 (.t 4),(some (68,false))⟩,⟨(some 70),.ld (.t 69),(some (68,false))⟩,⟨(some 71),.bin .gtr (.t 70) (ki 1000),(some (68,false))⟩,(so 72 (.pick (.t 68) (.k (.bool true)) (.t 71)))] (.cond (.t 72) (rg [(b6 2 7)] .ret) .skip)))) (.reg [(sa 34 3),(b2 35 .add 34 1),(sa 3 35)])))))) (rg [(b6 2 0)] .ret))))))⟩
def s73:aE:=⟨63,[.tmp 4],(rg [(so 2 (.box 27 (.t 0))),(b6 4 0)] (rg [(se 7 3 2),(sb 8 7),(sa 9 1),(b7 10 6 8 9),(sc 11 6 10),(so 5 (.new 100 [(.str ⟨#[]⟩),(.int .i64 0),(.int .i64 0),(.int .i64 0),(.int .i64 0),(.int .i64 0)])),(b8 6 5 11)] (.seq (rg [(se 12 0 5),(sb 13 12),(b3 14 122 [13]),(b5 15 14)] (.cond (.t 15) (rg [(b6 4 6)] .ret) .skip)) (.seq (rg [(b6 6 0)] (.block 0 (.loop (.seq (rg [(sa 16 6),(sa 17 1),(b1 18 .lss 16 17)] (.cond (.t 18) .skip (.exit 0))) (.seq (.block 1 (.seq (.draw [(ee 21 3 2),(eb 22 21),(ea 23 6),(d7 24 6 22 23),(ee 25 0 24),(eb 26 25),(ee 27 0 5),(eb 28 27),(d1 29 .eql 26 28)]) (.cond (.t 29) (rg [(b6 4 5)] .ret) .skip))) (.reg [(sa 19 6),(b2 20 .add 19 1),(sa 6 20)])))))) (.seq (rg [(se 30 1 5),(sb 31 30),(se 32 2 5),(sb 33 32),(so 34 (.bsl 3 2 (zs 2) [(0,1,(.t 31)),(1,1,(.t 33))])),(b3 35 51 [34]),(b5 36 35),(sa 37 36),⟨(some 38),.fa 3 (.t 5),(some (37,false))⟩,⟨(some 39),.ld (.t 38),(some (37,false))⟩,⟨(some 40),.call 71 [(.t 39),(ki 1),(ki 200)],(some (37,false))⟩,⟨(some 41),.un .not (.t 40),(some (37,false))⟩,(so 42 (.pick (.t 37) (.k (.bool true)) (.t 41))),(sa 43 42),⟨(some 44),.fa 4 (.t 5),(some (43,false))⟩,⟨(some 45),.ld (.t 44),(some (43,false))⟩,⟨(some 46),.call 71 [(.t 45),(ki (-1000)),(ki 1000)],(some (43,false))⟩,⟨(some 47),.un .not (.t 46),(some (43,false))⟩,(so 48 (.pick (.t 43) (.k (.bool true)) (.t 47))),(sa 49 48),⟨(some 50),.fa 5 (.t 5),(some (49,false))⟩,⟨(some 51),.ld (.t 50),(some (49,false))⟩,⟨(some 52),.call 71 [(.t 51),(ki (-1000)),(ki 1000)],(some (49,false))⟩,⟨(some 53),.un .not (.t 52),(some (49,false))⟩,(so 54 (.pick (.t 49) (.k (.bool true)) (.t 53)))] (.cond (.t 54) (rg [(b6 4 7)] .ret) .skip)) (.seq (rg [(se 55 4 5),(sb 56 55),(b2 57 .eql 56 0),(sa 58 57),⟨(some 59),.fa 5 (.t 5),(some (58,true))⟩,⟨(some 60),.ld (.t 59),(some (58,true))⟩,⟨(some 61),.bin .eql (.t 60) (ki 0),(some (58,true))⟩,(so 62 (.pick (.t 58) (.t 61) (.k (.bool false))))] (.cond (.t 62) (rg [(b6 4 2)] .ret) .skip)) (rg [(b6 4 0)] .ret)))))))⟩
def s74:aE:=⟨15,[.cell 6 none],(rg [(so 3 (.box 54 (.t 0))),(so 4 (.box 3 (.t 1))),(so 5 (.box 3 (.t 2))),(so 6 (.new 4 [(.bool false)]))] (.seq (rg [(sc 8 4 3),(b3 9 83 [8])] (.block 0 (.range (.t 9) [10] (.reg [(so 7 (.new 145 (zs 5))),(b8 5 7 10)]) (.block 1 (rg [(sc 11 5 7),(sb 12 4),(sb 13 5),(b3 14 123 [11,12,13])] (.cond (.t 14) (rg [⟨none,.st 1 (.t 6) (.k (.bool true)),none⟩] .ret) .skip))) its))) (rg [⟨none,.st 1 (.t 6) (.k (.bool false)),none⟩] .ret)))⟩
def s75:aE:=⟨22,[.tmp 6],(rg [(so 3 (.box 54 (.t 0))),(so 6 (.mov (.k (.bool false))))] (.seq (rg [(b6 7 0)] (.block 0 (.loop (.seq (rg [(sa 8 7),(b2 9 .add 8 1),(se 10 2 3),(sb 11 10),(b4 12 11),(b1 13 .lss 9 12)] (.cond (.t 13) .skip (.exit 0))) (.seq (.block 1 (.seq (.draw [(ec 16 4 3),(ea 17 7),(ea 18 1),(ea 19 2),(d3 20 125 [18,19]),(d3 21 124 [16,17,20])]) (.cond (.t 21) (rg [(so 6 (.mov (.k (.bool true))))] .ret) .skip))) (.reg [(sa 14 7),(b2 15 .add 14 1),(sa 7 15)])))))) (rg [(so 6 (.mov (.k (.bool false))))] .ret)))⟩
def s78:aE:=⟨15,[.tmp 4],(rg [(so 2 (.box 133 (.t 0))),(so 3 (.box 95 (.t 1))),(b6 4 0)] (.seq (.draw [(ee 5 2 2),(ec 6 2 5),(ee 7 0 2),(ec 8 2 7),(d3 9 84 [6,8]),(ec 10 2 3),(ee 11 0 2),(ec 12 2 11),(d3 13 84 [10,12]),(d3 14 127 [9,13]),(ea 4 14)]) .ret))⟩
def s79:aE:=⟨16,[.tmp 4],(rg [(so 2 (.box 106 (.t 0))),(so 3 (.box 106 (.t 1))),(b6 4 0)] (rg [(se 5 0 2),(sb 6 5),(se 7 1 3),(sb 8 7),(b1 9 .mul 6 8),(se 10 1 2),(sb 11 10),(se 12 0 3),(sb 13 12),(b1 14 .mul 11 13),(b1 15 .sub 9 14),(sa 4 15)] .ret))⟩
def s83:aE:=⟨4,[.tmp 2],(rg [(so 1 (.box 54 (.t 0))),(so 2 (.mov (.k (.raw .nilFunc))))] (rg [(so 3 (.mkf (.func 128) [] [(.t 1)])),(sa 2 3)] .ret))⟩
def s84:aE:=⟨16,[.cell 4 (some 2)],(rg [(so 2 (.box 95 (.t 0))),(so 3 (.box 95 (.t 1))),(so 4 (.new 95 (zs 2)))] (rg [(se 5 0 2),(sb 6 5),(se 7 0 3),(sb 8 7),(b1 9 .sub 6 8),(se 10 1 2),(sb 11 10),(se 12 1 3),(sb 13 12),(b1 14 .sub 11 13),(so 15 (.agg (zs 2) [(0,1,(.t 9)),(1,1,(.t 14))])),(b8 2 4 15)] .ret))⟩
def s85:aE:=⟨16,[.tmp 4],(rg [(so 2 (.box 95 (.t 0))),(so 3 (.box 95 (.t 1))),(b6 4 0)] (rg [(se 5 0 2),(sb 6 5),(se 7 0 3),(sb 8 7),(b1 9 .mul 6 8),(se 10 1 2),(sb 11 10),(se 12 1 3),(sb 13 12),(b1 14 .mul 11 13),(b1 15 .add 9 14),(sa 4 15)] .ret))⟩
def s86:aE:=⟨15,[.tmp 6],(rg [(so 6 (.mov (.k (.bool false))))] (rg [(sa 7 0),(sa 8 1),(b1 9 .lss 7 8),(sa 10 9),⟨(some 11),.mov (.t 0),(some (10,false))⟩,⟨(some 12),.mov (.t 2),(some (10,false))⟩,⟨(some 13),.bin .gtr (.t 11) (.t 12),(some (10,false))⟩,(so 14 (.pick (.t 10) (.k (.bool true)) (.t 13))),(sa 6 14)] .ret))⟩
def s89:aE:=⟨15,[.tmp 3],(rg [(so 2 (.box 54 (.t 0))),(so 3 (.mov (.k (.bool false))))] (rg [(se 4 1 2),(sb 5 4),(b2 6 .neq 5 1),(sa 7 6),⟨(some 8),.lds 4 (.t 2),(some (7,true))⟩,⟨(some 9),.fa 1 (.t 1),(some (7,true))⟩,⟨(some 10),.ld (.t 9),(some (7,true))⟩,⟨(some 11),.fa 2 (.t 1),(some (7,true))⟩,⟨(some 12),.ld (.t 11),(some (7,true))⟩,⟨(some 13),.call 74 [(.t 8),(.t 10),(.t 12)],(some (7,true))⟩,(so 14 (.pick (.t 7) (.t 13) (.k (.bool false)))),(sa 3 14)] .ret))⟩
def s90:aE:=⟨9,[.tmp 4],(rg [(so 4 (.mov (.k (.bool false))))] (rg [(sa 5 0),(sa 6 1),(b3 7 129 [5,6]),(b2 8 .geq 7 0),(sa 4 8)] .ret))⟩
def s91:aE:=⟨13,[.tmp 2],(rg [(so 1 (.box 27 (.t 0))),(b6 2 0)] (rg [(sc 7 4 1),(b3 8 24 [7]),(sa 6 8),(so 9 (.ext (.t 6) 0)),(so 10 (.ext (.t 6) 1)),(so 11 (.ext (.t 6) 2)),(sa 3 9),(sa 4 10),(sa 5 11)] (rg [(sa 12 5),(sa 2 12)] .ret)))⟩
def s92:aE:=⟨16,[.tmp 4],(rg [(so 2 (.box 106 (.t 0))),(so 3 (.box 106 (.t 1))),(b6 4 0)] (rg [(se 5 0 2),(sb 6 5),(se 7 0 3),(sb 8 7),(b1 9 .mul 6 8),(se 10 1 2),(sb 11 10),(se 12 1 3),(sb 13 12),(b1 14 .mul 11 13),(b1 15 .add 9 14),(sa 4 15)] .ret))⟩
def s93:aE:=⟨16,[.cell 4 (some 2)],(rg [(so 2 (.box 106 (.t 0))),(so 3 (.box 106 (.t 1))),(so 4 (.new 106 (zs 2)))] (rg [(se 5 0 2),(sb 6 5),(se 7 0 3),(sb 8 7),(b1 9 .sub 6 8),(se 10 1 2),(sb 11 10),(se 12 1 3),(sb 13 12),(b1 14 .sub 11 13),(so 15 (.agg (zs 2) [(0,1,(.t 9)),(1,1,(.t 14))])),(b8 2 4 15)] .ret))⟩
def s94:aE:=⟨14,[],(rg [(sa 5 0),(b4 6 5),(sa 4 6)] (.reg [(sa 7 0),(sa 8 4),(sa 9 4),(so 10 (.conv .u64 (.t 9))),(b3 11 131 [10]),(sa 12 1),(so 13 (.call 130 [(.t 7),(ki 0),(.t 8),(.t 11),(.t 12)]))]))⟩
def s98:aE:=⟨47,[.tmp 4],(rg [(so 2 (.box 27 (.t 0))),(so 3 (.box 72 (.t 1))),(so 4 (.mov (.k (.slice none 0 0))))] (rg [(so 5 (.mov (.k (.slice none 0 0))))] (.seq (rg [(b6 6 0)] (.block 0 (.loop (.seq (rg [(sa 9 6),(se 10 0 2),(sb 11 10),(b4 12 11),(b1 13 .lss 9 12)] (.cond (.t 13) .skip (.exit 0))) (.seq (.block 1 (rg [(so 7 (.mov (.k (.bool false))))] (.seq (rg [(b6 8 0)] (.block 2 (.loop (.seq (rg [(sa 16 8),(se 17 0 2),(sb 18 17),(sa 19 6),(b7 20 4 18 19),(se 21 2 20),(sb 22 21),(b4 23 22),(b1 24 .lss 16 23)] (.cond (.t 24) .skip (.exit 2))) (.seq (.block 3 (.draw [(ea 27 7),(ea 28 27),(dz ⟨(some 29),.fa 0 (.t 2),(some (28,false))⟩),(dz ⟨(some 30),.ld (.t 29),(some (28,false))⟩),(dz ⟨(some 31),.mov (.t 6),(some (28,false))⟩),(dz ⟨(some 32),.iaS 4 (.t 30) (.t 31),(some (28,false))⟩),(dz ⟨(some 33),.fa 2 (.t 32),(some (28,false))⟩),(dz ⟨(some 34),.ld (.t 33),(some (28,false))⟩),(dz ⟨(some 35),.mov (.t 8),(some (28,false))⟩),(dz ⟨(some 36),.iaS 2 (.t 34) (.t 35),(some (28,false))⟩),(dz ⟨(some 37),.lds 2 (.t 36),(some (28,false))⟩),(dz ⟨(some 38),.lds 2 (.t 3),(some (28,false))⟩),(dz ⟨(some 39),.eqa false 2 (.t 37) (.t 38),(some (28,false))⟩),(eo 40 (.pick (.t 28) (.k (.bool true)) (.t 39))),(ea 7 40)])) (.reg [(sa 25 8),(b2 26 .add 25 1),(sa 8 26)])))))) (rg [(sa 41 7)] (.cond (.t 41) (.reg [(sa 42 5),(sa 43 6),(so 44 (.bsl 3 1 [(.int .i64 0)] [(0,1,(.t 43))])),(so 45 (.app 3 1 8 [(.int .i64 0)] (.t 42) (.t 44))),(sa 5 45)]) .skip))))) (.reg [(sa 14 6),(b2 15 .add 14 1),(sa 6 15)])))))) (rg [(sa 46 5),(sa 4 46)] .ret))))⟩
def s99:aE:=⟨9,[.tmp 4],(rg [(so 4 (.mov (.k (.bool false))))] (rg [(sa 5 0),(sa 6 1),(b3 7 133 [5,6]),(b2 8 .geq 7 0),(sa 4 8)] .ret))⟩
def Po:aE:=⟨5,[.tmp 2],(rg [(so 2 (.mov (.k (.bool false))))] (rg [(sa 3 0),(so 4 (.call 86 [(.t 3),(ki (-100000)),(ki 100000)])),(sa 2 4)] .ret))⟩
def QS:aE:=⟨14,[.cell 4 (some 2)],(rg [(so 2 (.box 95 (.t 0))),(so 4 (.new 95 (zs 2)))] (rg [(sa 5 1),(se 6 0 2),(sb 7 6),(b1 8 .mul 5 7),(sa 9 1),(se 10 1 2),(sb 11 10),(b1 12 .mul 9 11),(so 13 (.agg (zs 2) [(0,1,(.t 8)),(1,1,(.t 12))])),(b8 2 4 13)] .ret))⟩
def PB:aE:=⟨35,[.cell 6 (some 2)],(rg [(so 3 (.box 97 (.t 0))),(so 4 (.box 95 (.t 1))),(so 6 (.new 95 (zs 2)))] (rg [(sc 8 2 4),(se 9 0 3),(sc 10 2 9),(b3 11 84 [8,10]),(so 7 (.new 95 (zs 2))),(b8 2 7 11)] (rg [(se 12 2 3),(sb 13 12),(se 14 0 3),(se 15 0 14),(sb 16 15),(b1 17 .mul 13 16),(sa 18 2),(se 19 0 7),(sb 20 19),(b1 21 .mul 18 20),(b1 22 .add 17 21),(se 23 2 3),(sb 24 23),(se 25 0 3),(se 26 1 25),(sb 27 26),(b1 28 .mul 24 27),(sa 29 2),(se 30 1 7),(sb 31 30),(b1 32 .mul 29 31),(b1 33 .add 28 32),(so 34 (.agg (zs 2) [(0,1,(.t 22)),(1,1,(.t 33))])),(b8 2 6 34)] .ret)))⟩
def Rt:aE:=⟨69,[.tmp 6],(rg [(so 3 (.box 133 (.t 0))),(so 4 (.box 95 (.t 1))),(so 6 (.mov (.k (.bool false))))] (.seq (.draw [⟨(se 13 2 3),none,[9,10],[]⟩,⟨(sc 14 2 13),none,[9,10],[]⟩,⟨(se 15 0 3),none,[9,10],[]⟩,⟨(sc 16 2 15),none,[9,10],[]⟩,⟨(b3 17 84 [14,16]),none,[9,10],[]⟩,⟨(sc 18 2 4),none,[9,10],[]⟩,⟨(se 19 0 3),none,[9,10],[]⟩,⟨(sc 20 2 19),none,[9,10],[]⟩,⟨(b3 21 84 [18,20]),none,[9,10],[]⟩,⟨(so 7 (.new 95 (zs 2))),(some 0),[10],[.fresh 0]⟩,⟨(so 8 (.new 95 (zs 2))),(some 1),[9],[.fresh 1]⟩,⟨(b8 2 7 17),none,[],[.fresh 0]⟩,⟨(b8 2 8 21),none,[],[.fresh 1]⟩]) (.seq (.draw [(ec 22 2 8),(ec 23 2 7),(d3 24 85 [22,23]),(ec 25 2 7),(ec 26 2 7),(d3 27 85 [25,26]),(ea 9 24),(ea 10 27)]) (.block 0 (rg [(sa 45 9),(b2 46 .leq 45 0),(sa 44 46)] (.cond (.t 44) (rg [(sc 47 2 8),(sc 48 2 8),(b3 49 85 [47,48]),(sa 50 2),(sa 51 2),(b1 52 .mul 50 51),(b1 53 .leq 49 52),(sa 6 53)] .ret) (rg [(sa 55 9),(sa 56 10),(b1 57 .geq 55 56),(sa 54 57)] (.cond (.t 54) (rg [(sc 58 2 4),(se 59 2 3),(sc 60 2 59),(b3 61 84 [58,60]),(so 11 (.new 95 (zs 2))),(b8 2 11 61)] (rg [(sc 62 2 11),(sc 63 2 11),(b3 64 85 [62,63]),(sa 65 2),(sa 66 2),(b1 67 .mul 65 66),(b1 68 .leq 64 67),(sa 6 68)] .ret)) (rg [(sc 28 2 7),(sc 29 2 8),(b3 30 127 [28,29]),(sa 12 30)] (rg [(sa 31 12),(sa 32 12),(so 33 (.un .neg (.t 32))),(so 34 (.mm true (.t 31) [(.t 33)])),(sa 12 34)] (rg [(sa 35 12),(sa 36 12),(b3 37 134 [35,36]),(sa 38 2),(sa 39 2),(b1 40 .mul 38 39),(sa 41 10),(b3 42 134 [40,41]),(b3 43 135 [37,42]),(sa 6 43)] .ret)))))))))))⟩
def QZ:aE:=⟨63,[.tmp 8],(rg [(so 4 (.box 106 (.t 0))),(so 5 (.box 106 (.t 1))),(so 6 (.box 106 (.t 2))),(so 8 (.mov (.k (.bool false))))] (.seq (.draw [⟨(sc 13 2 6),none,[6,7],[]⟩,⟨(sc 14 2 5),none,[6,7],[]⟩,⟨(b3 15 93 [13,14]),none,[6,7],[]⟩,⟨(sc 16 2 4),none,[6,7],[]⟩,⟨(sc 17 2 5),none,[6,7],[]⟩,⟨(b3 18 93 [16,17]),none,[6,7],[]⟩,⟨(so 9 (.new 106 (zs 2))),(some 0),[7],[.fresh 0]⟩,⟨(so 10 (.new 106 (zs 2))),(some 1),[6],[.fresh 1]⟩,⟨(b8 2 9 15),none,[],[.fresh 0]⟩,⟨(b8 2 10 18),none,[],[.fresh 1]⟩]) (.seq (rg [(sc 19 2 10),(sc 20 2 9),(b3 21 92 [19,20]),(b2 22 .leq 21 0)] (.cond (.t 22) (rg [(sc 23 2 10),(sc 24 2 10),(b3 25 92 [23,24]),(sa 26 3),(sa 27 3),(b1 28 .mul 26 27),(b1 29 .leq 25 28),(sa 8 29)] .ret) .skip)) (.seq (.seq (.draw [(ec 30 2 10),(ec 31 2 9),(d3 32 92 [30,31]),(ec 33 2 9),(ec 34 2 9),(d3 35 92 [33,34]),(d1 36 .geq 32 35)]) (.cond (.t 36) (rg [(sc 37 2 4),(sc 38 2 6),(b3 39 93 [37,38]),(so 11 (.new 106 (zs 2))),(b8 2 11 39)] (rg [(sc 40 2 11),(sc 41 2 11),(b3 42 92 [40,41]),(sa 43 3),(sa 44 3),(b1 45 .mul 43 44),(b1 46 .leq 42 45),(sa 8 46)] .ret)) .skip)) (rg [(sc 47 2 9),(sc 48 2 10),(b3 49 79 [47,48]),(b3 50 136 [49]),(sa 12 50)] (.seq (.draw [(ea 51 12),(ea 52 12),(d3 53 138 [51,52]),(ea 54 3),(ea 55 3),(d1 56 .mul 54 55),(ec 57 2 9),(ec 58 2 9),(d3 59 92 [57,58]),(d3 60 138 [56,59]),(d3 61 137 [53,60]),(eo 62 (.un .not (.t 61))),(ea 8 62)]) .ret))))))⟩
def Qs:aE:=⟨19,[.tmp 4],(rg [(b6 4 0)] (.seq (rg [(sa 6 0),(b4 7 6),(b6 8 0)] (.block 0 (.loop (rg [(b1 9 .lss 8 7)] (.seq (.cond (.t 9) .skip (.exit 0)) (.seq (.block 1 (rg [(sa 10 8),(sa 5 10)] (rg [(sa 11 1),(sa 12 0),(sa 13 5),(b7 14 2 12 13),(sc 15 2 14),(so 16 (.callv (.t 11) [(.t 15)]))] (.cond (.t 16) (rg [(sa 17 5),(sa 4 17)] .ret) .skip)))) (.reg [(b2 18 .add 8 1),(sa 8 18)]))))))) (rg [(b6 4 (-1))] .ret)))⟩
def Rg:aE:=⟨23,[.tmp 2],(rg [(so 2 (.mov (.k (.slice none 0 0))))] (rg [(sa 5 0),(so 6 (.call 139 [(.t 5),(.k (.fn (.func 140) [] []))]))] (rg [(sa 7 0),(b3 8 141 [7]),(sa 0 8)] (.seq (rg [(sa 9 0),(b4 10 9),(b2 11 .lss 10 3)] (.cond (.t 11) (rg [(sa 12 0),(sa 2 12)] .ret) .skip)) (rg [(so 3 (.new 111 [(.slice none 0 0)]))] (rg [(so 13 (.mkf (.func 142) [] [(.t 3)])),(sa 4 13)] (rg [(sa 14 4),(sa 15 0),(so 16 (.callv (.t 14) [(.t 15)]))] (rg [(sa 17 0),(b3 18 143 [17])] (rg [(sa 19 4),(sa 20 0),(so 21 (.callv (.t 19) [(.t 20)]))] (rg [(sb 22 3),(sa 2 22)] .ret))))))))))⟩
def PM:aE:=⟨81,[.tmp 4],(rg [(so 2 (.box 145 (.t 0))),(so 3 (.box 29 (.t 1))),(b6 4 0)] (rg [(b6 5 0)] (.seq (rg [(sc 11 4 3),(b3 12 54 [11]),(b6 13 0)] (.block 0 (.loop (rg [(b2 14 .lss 13 4)] (.seq (.cond (.t 14) .skip (.exit 0)) (.seq (.block 1 (rg [(so 15 (.ixA 4 2 (some 2) (.t 12) (.t 13))),(so 7 (.new 95 (zs 2))),(b8 2 7 15)] (rg [(sc 16 5 2),(se 17 0 7),(sb 18 17),(se 19 1 7),(sb 20 19),(b3 21 123 [16,18,20])] (.cond (.t 21) (.reg [(sa 22 5),(b2 23 .add 22 1),(sa 5 23)]) .skip)))) (.reg [(b2 24 .add 13 1),(sa 13 24)]))))))) (.seq (.block 2 (rg [(sa 26 5),(b2 27 .eql 26 4),(sa 25 27)] (.cond (.t 25) (rg [(b6 4 2)] .ret) (rg [(sa 29 5),(b2 30 .gtr 29 0),(sa 28 30)] (.cond (.t 28) (rg [(b6 4 1)] .ret) .skip))))) (.seq (rg [(se 31 0 2),(se 32 0 31),(sc 33 2 32),(se 34 0 2),(se 35 2 34),(sc 36 2 35),(so 37 (.agg (zs 4) [(0,2,(.t 33)),(2,2,(.t 36))])),(b6 38 0)] (.block 3 (.loop (rg [(b2 39 .lss 38 2)] (.seq (.cond (.t 39) .skip (.exit 3)) (.seq (.block 4 (rg [(so 40 (.ixA 2 2 (some 2) (.t 37) (.t 38))),(so 9 (.new 95 (zs 2))),(b8 2 9 40)] (rg [(se 41 0 3),(sb 42 41),(so 43 (.bin .mul (ki 2) (.t 42))),(se 44 0 9),(sb 45 44),(b1 46 .sub 43 45),(se 47 0 9),(sb 48 47),(se 49 2 3),(sb 50 49),(so 51 (.bin .mul (ki 2) (.t 50))),(b1 52 .sub 48 51),(so 53 (.mm true (.t 46) [(ki 0),(.t 52)])),(se 54 1 3),(sb 55 54),(so 56 (.bin .mul (ki 2) (.t 55))),(se 57 1 9),(sb 58 57),(b1 59 .sub 56 58),(se 60 1 9),(sb 61 60),(se 62 3 3),(sb 63 62),(so 64 (.bin .mul (ki 2) (.t 63))),(b1 65 .sub 61 64),(so 66 (.mm true (.t 59) [(ki 0),(.t 65)])),(so 67 (.agg (zs 2) [(0,1,(.t 53)),(1,1,(.t 66))])),(so 10 (.new 95 (zs 2))),(b8 2 10 67)] (.seq (.draw [(ec 68 2 10),(ec 69 2 10),(d3 70 85 [68,69]),(ee 71 4 2),(eb 72 71),(ee 73 4 2),(eb 74 73),(d1 75 .mul 72 74),(d1 76 .leq 70 75)]) (.cond (.t 76) (rg [(b6 4 1)] .ret) .skip))))) (.reg [(b2 77 .add 38 1),(sa 38 77)]))))))) (.seq (rg [(sc 78 5 2),(sc 79 4 3),(b3 80 145 [78,79])] (.cond (.t 80) (rg [(b6 4 1)] .ret) .skip)) (rg [(b6 4 0)] .ret)))))))⟩
def RF:aE:=⟨9,[.tmp 3],(rg [(so 2 (.box 54 (.t 0))),(so 3 (.mov (.k (.bool false))))] (rg [(se 4 0 2),(sb 5 4),(se 6 0 1),(sb 7 6),(b1 8 .eql 5 7),(sa 3 8)] .ret))⟩
def RM:aE:=⟨9,[.tmp 2],(rg [(so 1 (.box 72 (.t 0))),(so 2 (.mov (.k (.bool false))))] (rg [(so 3 (.iaA 2 1 (.t 1) (ki 0))),(sb 4 3),(so 5 (.iaA 2 1 (.t 1) (ki 1))),(sb 6 5),(so 7 (.bsl 3 2 (zs 2) [(0,1,(.t 4)),(1,1,(.t 6))])),(b3 8 45 [7]),(sa 2 8)] .ret))⟩
def Pp:aE:=⟨27,[.tmp 2],(rg [(so 2 (.mov (.k (.bool false))))] (rg [(sa 4 0),(so 5 (.call 146 [(.t 4),(.k (.str ⟨#[97,98,99,100,101,102,103,104,105,106,107,108,109,110,111,112,113,114,115,116,117,118,119,120,121,122,48,49,50,51,52,53,54,55,56,57,45]⟩))])),(sa 3 5)] (rg [(sa 6 0),(so 7 (.bin .neq (.t 6) (.k (.str ⟨#[]⟩)))),(sa 8 7),⟨(some 9),.mov (.t 0),(some (8,true))⟩,⟨(some 10),.lenT (.t 9),(some (8,true))⟩,⟨(some 11),.bin .leq (.t 10) (ki 24),(some (8,true))⟩,(so 12 (.pick (.t 8) (.t 11) (.k (.bool false)))),(sa 13 12),⟨(some 14),.mov (.t 3),(some (13,true))⟩,⟨(some 15),.bin .eql (.t 14) (.k (.str ⟨#[]⟩)),(some (13,true))⟩,(so 16 (.pick (.t 13) (.t 15) (.k (.bool false)))),(sa 17 16),⟨(some 18),.mov (.t 0),(some (17,true))⟩,⟨(some 19),.ixS (.t 18) (ki 0),(some (17,true))⟩,⟨(some 20),.bin .geq (.t 19) (.k (.int .u8 97)),(some (17,true))⟩,(so 21 (.pick (.t 17) (.t 20) (.k (.bool false)))),(sa 22 21),⟨(some 23),.mov (.t 0),(some (22,true))⟩,⟨(some 24),.ixS (.t 23) (ki 0),(some (22,true))⟩,⟨(some 25),.bin .leq (.t 24) (.k (.int .u8 122)),(some (22,true))⟩,(so 26 (.pick (.t 22) (.t 25) (.k (.bool false)))),(sa 2 26)] .ret)))⟩
def Q5:aE:=⟨9,[.tmp 4],(rg [(so 4 (.mov (.k (.bool false))))] (rg [(sa 5 0),(sa 6 1),(b3 7 147 [5,6]),(b2 8 .geq 7 0),(sa 4 8)] .ret))⟩
def wD:aE:=⟨61,[.tmp 2],(rg [(so 2 (.mov (.k (.slice none 0 0))))] (.seq (rg [(sa 6 0),(b4 7 6),(b2 8 .lss 7 2)] (.cond (.t 8) (rg [(sa 9 0),(sa 2 9)] .ret) .skip)) (.seq (rg [(b6 3 1)] (.block 0 (.loop (.seq (rg [(sa 10 3),(sa 11 0),(b4 12 11),(b1 13 .lss 10 12)] (.cond (.t 13) .skip (.exit 0))) (.seq (.block 1 (.seq (.draw [(ea 16 0),(ea 17 3),(d7 18 2 16 17),(ec 19 2 18),(ea 20 0),(ea 21 3),(d2 22 .sub 21 1),(d7 23 2 20 22),(ec 24 2 23),(eo 25 (.eqa false 2 (.t 19) (.t 24)))]) (.cond (.t 25) (rg [(sa 26 0),(sa 27 3),(so 28 (.slS 2 (.t 26) (some (.t 27)) none none)),(sa 4 28)] (.seq (rg [(b6 5 1)] (.block 2 (.loop (.seq (rg [(sa 29 5),(sa 30 4),(b4 31 30),(b1 32 .lss 29 31)] (.cond (.t 32) .skip (.exit 2))) (.seq (.block 3 (.seq (.draw [(ea 35 4),(ea 36 5),(d7 37 2 35 36),(ec 38 2 37),(ea 39 4),(ea 40 5),(d2 41 .sub 40 1),(d7 42 2 39 41),(ec 43 2 42),(eo 44 (.eqa true 2 (.t 38) (.t 43)))]) (.cond (.t 44) (rg [(sa 45 0),(sa 46 3),(sa 47 4),(sa 48 5),(b7 49 2 47 48),(sc 50 2 49),(b7 51 2 45 46),(b8 2 51 50)] (.reg [(sa 52 3),(b2 53 .add 52 1),(sa 3 53)])) .skip))) (.reg [(sa 33 5),(b2 34 .add 33 1),(sa 5 34)])))))) (rg [(sa 54 0),(sa 55 3),(so 56 (.slS 2 (.t 54) (some (.t 55)) none none)),⟨none,.clr 2 (zs 2) (.t 56),none⟩] (rg [(sa 57 0),(sa 58 3),(so 59 (.slS 2 (.t 57) none (some (.t 58)) none)),(sa 2 59)] .ret)))) .skip))) (.reg [(sa 14 3),(b2 15 .add 14 1),(sa 3 15)])))))) (rg [(sa 60 0),(sa 2 60)] .ret))))⟩
def wg:aE:=⟨8,[.tmp 2],(rg [(so 2 (.mov (.k (.slice none 0 0))))] (.seq (rg [(sa 3 0),(so 4 (.isn false (.t 3)))] (.cond (.t 4) (rg [(so 2 (.mov (.k (.slice none 0 0))))] .ret) .skip)) (rg [(so 5 (.bsl 72 0 [] [])),(sa 6 0),(so 7 (.app 72 2 16 (zs 2) (.t 5) (.t 6))),(sa 2 7)] .ret)))⟩
def Rv:aE:=⟨27,[.tmp 2],(rg [(so 1 (.box 137 (.t 0))),(so 2 (.mov (.k (.bool false))))] (rg [(se 3 1 1),(sb 4 3),(so 5 (.call 86 [(.t 4),(ki 1),(ki 1000)])),(sa 6 5),⟨(some 7),.fa 0 (.t 1),(some (6,false))⟩,⟨(some 8),.ld (.t 7),(some (6,false))⟩,⟨(some 9),.fa 1 (.t 1),(some (6,false))⟩,⟨(some 10),.ld (.t 9),(some (6,false))⟩,⟨(some 11),.bin .sub (.t 10) (ki 1),(some (6,false))⟩,⟨(some 12),.call 86 [(.t 8),(ki 0),(.t 11)],(some (6,false))⟩,(so 13 (.pick (.t 6) (.k (.bool true)) (.t 12))),(sa 14 13),⟨(some 15),.fa 3 (.t 1),(some (14,false))⟩,⟨(some 16),.ld (.t 15),(some (14,false))⟩,⟨(some 17),.call 86 [(.t 16),(ki 1),(ki 1000)],(some (14,false))⟩,(so 18 (.pick (.t 14) (.k (.bool true)) (.t 17))),(sa 19 18),⟨(some 20),.fa 2 (.t 1),(some (19,false))⟩,⟨(some 21),.ld (.t 20),(some (19,false))⟩,⟨(some 22),.fa 3 (.t 1),(some (19,false))⟩,⟨(some 23),.ld (.t 22),(some (19,false))⟩,⟨(some 24),.bin .sub (.t 23) (ki 1),(some (19,false))⟩,⟨(some 25),.call 86 [(.t 21),(ki 0),(.t 24)],(some (19,false))⟩,(so 26 (.pick (.t 19) (.k (.bool true)) (.t 25))),(sa 2 26)] .ret))⟩
def PD:aE:=⟨9,[.tmp 4],(rg [(so 4 (.mov (.k (.bool false))))] (rg [(sa 5 0),(sa 6 1),(b3 7 148 [5,6]),(b2 8 .geq 7 0),(sa 4 8)] .ret))⟩
def Pi:aE:=⟨9,[.tmp 3],(rg [(so 2 (.box 100 (.t 0))),(so 3 (.mov (.k (.bool false))))] (rg [(se 4 0 2),(sb 5 4),(se 6 0 1),(sb 7 6),(b1 8 .eql 5 7),(sa 3 8)] .ret))⟩
def PZ:aE:=⟨9,[.tmp 4],(rg [(so 4 (.mov (.k (.bool false))))] (rg [(sa 5 0),(sa 6 1),(b3 7 149 [5,6]),(b2 8 .geq 7 0),(sa 4 8)] .ret))⟩
def OX:aE:=⟨54,[.tmp 2],(rg [(so 2 (.mov (.k (.bool false))))] (.seq (rg [(b6 3 0)] (.block 0 (.loop (.seq (rg [(sa 5 3),(sa 6 0),(so 7 (.lenT (.t 6))),(b1 8 .lss 5 7)] (.cond (.t 8) .skip (.exit 0))) (.seq (.block 1 (rg [(sa 11 0),(sa 12 3),(so 13 (.ixS (.t 11) (.t 12))),(so 14 (.bin .geq (.t 13) (.k (.int .u8 97)))),(sa 15 14),⟨(some 16),.mov (.t 0),(some (15,true))⟩,⟨(some 17),.mov (.t 3),(some (15,true))⟩,⟨(some 18),.ixS (.t 16) (.t 17),(some (15,true))⟩,⟨(some 19),.bin .leq (.t 18) (.k (.int .u8 122)),(some (15,true))⟩,(so 20 (.pick (.t 15) (.t 19) (.k (.bool false)))),(sa 4 20)] (rg [(sa 21 4),(b5 22 21),(sa 23 22),⟨(some 24),.mov (.t 3),(some (23,true))⟩,⟨(some 25),.bin .eql (.t 24) (ki 0),(some (23,true))⟩,⟨(some 26),.mov (.t 25),(some (23,true))⟩,⟨(some 27),.mov (.t 0),(some (26,false))⟩,⟨(some 28),.mov (.t 3),(some (26,false))⟩,⟨(some 29),.ixS (.t 27) (.t 28),(some (26,false))⟩,⟨(some 30),.bin .geq (.t 29) (.k (.int .u8 48)),(some (26,false))⟩,⟨(some 31),.mov (.t 30),(some (26,false))⟩,⟨(some 32),.mov (.t 0),(some (31,true))⟩,⟨(some 33),.mov (.t 3),(some (31,true))⟩,⟨(some 34),.ixS (.t 32) (.t 33),(some (31,true))⟩,⟨(some 35),.bin .leq (.t 34) (.k (.int .u8 57)),(some (31,true))⟩,⟨(some 36),.pick (.t 31) (.t 35) (.k (.bool false)),(some (26,false))⟩,⟨(some 37),.un .not (.t 36),(some (26,false))⟩,⟨(some 38),.mov (.t 37),(some (26,false))⟩,⟨(some 39),.mov (.t 0),(some (38,true))⟩,⟨(some 40),.mov (.t 3),(some (38,true))⟩,⟨(some 41),.ixS (.t 39) (.t 40),(some (38,true))⟩,⟨(some 42),.bin .neq (.t 41) (.k (.int .u8 45)),(some (38,true))⟩,⟨(some 43),.pick (.t 38) (.t 42) (.k (.bool false)),(some (26,false))⟩,⟨(some 44),.pick (.t 26) (.k (.bool true)) (.t 43),(some (23,true))⟩,(so 45 (.pick (.t 23) (.t 44) (.k (.bool false))))] (.cond (.t 45) (rg [(so 2 (.mov (.k (.bool false))))] .ret) .skip)))) (.reg [(sa 9 3),(b2 10 .add 9 1),(sa 3 10)])))))) (rg [(sa 46 0),(so 47 (.lenT (.t 46))),(b2 48 .gtr 47 0),(sa 49 48),⟨(some 50),.mov (.t 0),(some (49,true))⟩,⟨(some 51),.lenT (.t 50),(some (49,true))⟩,⟨(some 52),.bin .leq (.t 51) (ki 24),(some (49,true))⟩,(so 53 (.pick (.t 49) (.t 52) (.k (.bool false)))),(sa 2 53)] .ret)))⟩
def Qi:aE:=⟨17,[.tmp 6],(rg [(so 3 (.box 145 (.t 0))),(so 6 (.mov (.k (.bool false))))] (rg [(se 7 0 3),(sc 8 4 7),(sa 9 1),(so 10 (.bin .mul (ki 2) (.t 9))),(sa 11 2),(so 12 (.bin .mul (ki 2) (.t 11))),(so 13 (.agg (zs 2) [(0,1,(.t 10)),(1,1,(.t 12))])),(se 14 4 3),(sb 15 14),(b3 16 103 [8,13,15]),(sa 6 16)] .ret))⟩
def QE:aE:=⟨21,[.tmp 6],(rg [(so 3 (.box 54 (.t 0))),(so 5 (.box 106 (.t 2))),(so 6 (.mov (.k (.bool false))))] (rg [(sc 10 4 3),(sa 11 1),(b3 12 150 [10,11]),(sa 9 12),(so 13 (.ext (.t 9) 0)),(so 14 (.ext (.t 9) 1)),(so 7 (.new 106 (zs 2))),(so 8 (.new 106 (zs 2))),(b8 2 7 13),(b8 2 8 14)] (rg [(sc 15 2 5),(sc 16 2 7),(sc 17 2 8),(se 18 3 3),(sb 19 18),(b3 20 106 [15,16,17,19]),(sa 6 20)] .ret)))⟩
def Rz:aE:=⟨10,[.cell 4 (some 2)],(rg [(so 4 (.new 106 (zs 2)))] (rg [(sa 5 0),(so 6 (.bin .mul (ki 2) (.t 5))),(sa 7 1),(so 8 (.bin .mul (ki 2) (.t 7))),(so 9 (.agg (zs 2) [(0,1,(.t 6)),(1,1,(.t 8))])),(b8 2 4 9)] .ret))⟩
def PC:aE:=⟨16,[.tmp 4],(rg [(so 2 (.box 95 (.t 0))),(so 3 (.box 95 (.t 1))),(b6 4 0)] (rg [(se 5 0 2),(sb 6 5),(se 7 1 3),(sb 8 7),(b1 9 .mul 6 8),(se 10 1 2),(sb 11 10),(se 12 0 3),(sb 13 12),(b1 14 .mul 11 13),(b1 15 .sub 9 14),(sa 4 15)] .ret))⟩
def LM:aE:=⟨19,[.tmp 4],(rg [(b6 4 0)] (.seq (rg [(sa 6 0),(b4 7 6),(b6 8 0)] (.block 0 (.loop (rg [(b1 9 .lss 8 7)] (.seq (.cond (.t 9) .skip (.exit 0)) (.seq (.block 1 (rg [(sa 10 8),(sa 5 10)] (rg [(sa 11 1),(sa 12 0),(sa 13 5),(b7 14 4 12 13),(sc 15 4 14),(so 16 (.callv (.t 11) [(.t 15)]))] (.cond (.t 16) (rg [(sa 17 5),(sa 4 17)] .ret) .skip)))) (.reg [(b2 18 .add 8 1),(sa 8 18)]))))))) (rg [(b6 4 (-1))] .ret)))⟩
def PJ:aE:=⟨148,[],(rg [(so 10 (.mov (.k (.bool true))))] (rg [(so 11 (.mov (.k (.bool true))))] (.block 0 (.loop (.block 1 (rg [(sa 21 2),(sa 22 1),(b1 23 .sub 21 22),(sa 12 23)] (.seq (rg [(sa 24 12),(b2 25 .leq 24 12)] (.cond (.t 25) (rg [(sa 26 0),(sa 27 1),(sa 28 2),(sa 29 4),(b3 30 152 [26,27,28,29])] .ret) .skip)) (.seq (rg [(sa 31 3),(b2 32 .eql 31 0)] (.cond (.t 32) (rg [(sa 33 0),(sa 34 1),(sa 35 2),(sa 36 4),(b3 37 153 [33,34,35,36])] .ret) .skip)) (.seq (rg [(sa 38 10),(b5 39 38)] (.cond (.t 39) (rg [(sa 40 0),(sa 41 1),(sa 42 2),(sa 43 4),(b3 44 154 [40,41,42,43])] (.reg [(sa 45 3),(b2 46 .sub 45 1),(sa 3 46)])) .skip)) (rg [(sa 48 0),(sa 49 1),(sa 50 2),(sa 51 4),(b3 52 155 [48,49,50,51]),(sa 47 52),(so 53 (.ext (.t 47) 0)),(so 54 (.ext (.t 47) 1)),(sa 13 53),(sa 14 54)] (.seq (rg [(sa 55 14),(b2 56 .eql 55 2)] (.cond (.t 56) (rg [(sa 57 0),(sa 58 1),(sa 59 2),(sa 60 4),(b3 61 156 [57,58,59,60])] (rg [(sa 62 2),(b2 63 .sub 62 1),(sa 64 13),(sa 65 1),(b1 66 .sub 64 65),(b1 67 .sub 63 66),(sa 13 67)] (.reg [(b6 14 1)]))) .skip)) (.seq (rg [(sa 68 10),(sa 69 68),⟨(some 70),.mov (.t 11),(some (69,true))⟩,(so 71 (.pick (.t 69) (.t 70) (.k (.bool false)))),(sa 72 71),⟨(some 73),.mov (.t 14),(some (72,true))⟩,⟨(some 74),.bin .eql (.t 73) (ki 1),(some (72,true))⟩,(so 75 (.pick (.t 72) (.t 74) (.k (.bool false))))] (.cond (.t 75) (rg [(sa 76 0),(sa 77 1),(sa 78 2),(sa 79 4),(b3 80 157 [76,77,78,79])] (.cond (.t 80) .ret .skip)) .skip)) (.seq (.seq (.draw [(ea 81 1),(d2 82 .gtr 81 0),(ea 83 82),(dz ⟨(some 84),.mov (.t 4),(some (83,true))⟩),(dz ⟨(some 85),.mov (.t 0),(some (83,true))⟩),(dz ⟨(some 86),.mov (.t 1),(some (83,true))⟩),(dz ⟨(some 87),.bin .sub (.t 86) (ki 1),(some (83,true))⟩),(dz ⟨(some 88),.iaS 3 (.t 85) (.t 87),(some (83,true))⟩),(dz ⟨(some 89),.lds 3 (.t 88),(some (83,true))⟩),(dz ⟨(some 90),.mov (.t 0),(some (83,true))⟩),(dz ⟨(some 91),.mov (.t 13),(some (83,true))⟩),(dz ⟨(some 92),.iaS 3 (.t 90) (.t 91),(some (83,true))⟩),(dz ⟨(some 93),.lds 3 (.t 92),(some (83,true))⟩),(dz ⟨(some 94),.callv (.t 84) [(.t 89),(.t 93)],(some (83,true))⟩),(dz ⟨(some 95),.bin .lss (.t 94) (ki 0),(some (83,true))⟩),(dz ⟨(some 96),.un .not (.t 95),(some (83,true))⟩),(eo 97 (.pick (.t 83) (.t 96) (.k (.bool false))))]) (.cond (.t 97) (rg [(sa 98 0),(sa 99 1),(sa 100 2),(sa 101 13),(sa 102 4),(b3 103 158 [98,99,100,101,102]),(sa 15 103)] (rg [(sa 104 15),(sa 1 104)] (.exit 1))) .skip)) (rg [(sa 106 0),(sa 107 1),(sa 108 2),(sa 109 13),(sa 110 4),(b3 111 159 [106,107,108,109,110]),(sa 105 111),(so 112 (.ext (.t 105) 0)),(so 113 (.ext (.t 105) 1)),(sa 16 112),(sa 17 113)] (rg [(sa 114 17),(sa 11 114)] (rg [(sa 115 16),(sa 116 1),(b1 117 .sub 115 116),(sa 118 2),(sa 119 16),(b1 120 .sub 118 119),(sa 18 117),(sa 19 120)] (rg [(sa 121 12),(b2 122 .quo 121 8),(sa 20 122)] (rg [(sa 123 18),(sa 124 19),(b1 125 .lss 123 124)] (.cond (.t 125) (rg [(sa 126 18),(sa 127 20),(b1 128 .geq 126 127),(sa 10 128)] (rg [(sa 129 0),(sa 130 1),(sa 131 16),(sa 132 3),(sa 133 4),(b3 134 130 [129,130,131,132,133])] (.reg [(sa 135 16),(b2 136 .add 135 1),(sa 1 136)]))) (rg [(sa 137 19),(sa 138 20),(b1 139 .geq 137 138),(sa 10 139)] (rg [(sa 140 0),(sa 141 16),(b2 142 .add 141 1),(sa 143 2),(sa 144 3),(sa 145 4),(b3 146 130 [140,142,143,144,145])] (.reg [(sa 147 16),(sa 2 147)]))))))))))))))))))))))⟩
def Fx:aE:=⟨8,[.tmp 2],(rg [(b6 2 0)] (.seq (.cond (.k (.bool false)) (rg [(sa 3 0),(so 4 (.conv .u32 (.t 3))),(b3 5 160 [4]),(sa 2 5)] .ret) .skip) (rg [(sa 6 0),(b3 7 161 [6]),(sa 2 7)] .ret)))⟩
def RA:aE:=⟨19,[.tmp 4],(rg [(b6 4 0)] (.seq (rg [(sa 6 0),(b4 7 6),(b6 8 0)] (.block 0 (.loop (rg [(b1 9 .lss 8 7)] (.seq (.cond (.t 9) .skip (.exit 0)) (.seq (.block 1 (rg [(sa 10 8),(sa 5 10)] (rg [(sa 11 1),(sa 12 0),(sa 13 5),(b7 14 1 12 13),(sb 15 14),(so 16 (.callv (.t 11) [(.t 15)]))] (.cond (.t 16) (rg [(sa 17 5),(sa 4 17)] .ret) .skip)))) (.reg [(b2 18 .add 8 1),(sa 8 18)]))))))) (rg [(b6 4 (-1))] .ret)))⟩
def Rp:aE:=⟨18,[.cell 4 (some 2)],(rg [(so 4 (.new 192 [(.int .u64 0),(.int .u64 0)]))] (rg [(sa 8 0),(so 9 (.conv .u64 (.t 8))),(sa 10 1),(so 11 (.conv .u64 (.t 10))),(b3 12 162 [9,11]),(sa 7 12),(so 13 (.ext (.t 7) 0)),(so 14 (.ext (.t 7) 1)),(sa 5 13),(sa 6 14)] (rg [(sa 15 5),(sa 16 6),(so 17 (.agg [(.int .u64 0),(.int .u64 0)] [(0,1,(.t 15)),(1,1,(.t 16))])),(b8 2 4 17)] .ret)))⟩
def Rk:aE:=⟨29,[.tmp 4],(rg [(so 2 (.box 192 (.t 0))),(so 3 (.box 192 (.t 1))),(so 4 (.mov (.k (.bool false))))] (rg [(sc 5 2 2),(sc 6 2 3),(so 7 (.eqa false 2 (.t 5) (.t 6))),(sa 8 7),⟨(some 9),.fa 0 (.t 2),(some (8,false))⟩,⟨(some 10),.ld (.t 9),(some (8,false))⟩,⟨(some 11),.fa 0 (.t 3),(some (8,false))⟩,⟨(some 12),.ld (.t 11),(some (8,false))⟩,⟨(some 13),.bin .lss (.t 10) (.t 12),(some (8,false))⟩,(so 14 (.pick (.t 8) (.k (.bool true)) (.t 13))),(sa 15 14),⟨(some 16),.fa 0 (.t 2),(some (15,false))⟩,⟨(some 17),.ld (.t 16),(some (15,false))⟩,⟨(some 18),.fa 0 (.t 3),(some (15,false))⟩,⟨(some 19),.ld (.t 18),(some (15,false))⟩,⟨(some 20),.bin .eql (.t 17) (.t 19),(some (15,false))⟩,⟨(some 21),.mov (.t 20),(some (15,false))⟩,⟨(some 22),.fa 1 (.t 2),(some (21,true))⟩,⟨(some 23),.ld (.t 22),(some (21,true))⟩,⟨(some 24),.fa 1 (.t 3),(some (21,true))⟩,⟨(some 25),.ld (.t 24),(some (21,true))⟩,⟨(some 26),.bin .lss (.t 23) (.t 25),(some (21,true))⟩,⟨(some 27),.pick (.t 21) (.t 26) (.k (.bool false)),(some (15,false))⟩,(so 28 (.pick (.t 15) (.k (.bool true)) (.t 27))),(sa 4 28)] .ret))⟩
def Qf:aE:=⟨7,[.tmp 2],(rg [(b6 2 0)] (rg [(sa 3 0),(sa 4 0),(so 5 (.un .neg (.t 4))),(so 6 (.mm true (.t 3) [(.t 5)])),(sa 2 6)] .ret))⟩
def PQ:aE:=⟨24,[.tmp 4],(rg [(so 2 (.box 198 (.t 0))),(so 3 (.box 198 (.t 1))),(so 4 (.mov (.k (.bool false))))] (rg [(se 5 0 2),(sb 6 5),(se 7 0 3),(sb 8 7),(b1 9 .gtr 6 8),(sa 10 9),⟨(some 11),.fa 0 (.t 2),(some (10,false))⟩,⟨(some 12),.ld (.t 11),(some (10,false))⟩,⟨(some 13),.fa 0 (.t 3),(some (10,false))⟩,⟨(some 14),.ld (.t 13),(some (10,false))⟩,⟨(some 15),.bin .eql (.t 12) (.t 14),(some (10,false))⟩,⟨(some 16),.mov (.t 15),(some (10,false))⟩,⟨(some 17),.fa 1 (.t 2),(some (16,true))⟩,⟨(some 18),.ld (.t 17),(some (16,true))⟩,⟨(some 19),.fa 1 (.t 3),(some (16,true))⟩,⟨(some 20),.ld (.t 19),(some (16,true))⟩,⟨(some 21),.bin .gtr (.t 18) (.t 20),(some (16,true))⟩,⟨(some 22),.pick (.t 16) (.t 21) (.k (.bool false)),(some (10,false))⟩,(so 23 (.pick (.t 10) (.k (.bool true)) (.t 22))),(sa 4 23)] .ret))⟩
def RB:aE:=⟨52,[.cell 4 (some 2)],(rg [(so 4 (.new 198 [(.int .u64 0),(.int .u64 0)]))] (rg [(sa 10 0),(so 11 (.conv .u64 (.t 10))),(sa 12 1),(so 13 (.conv .u64 (.t 12))),(sa 5 11),(sa 6 13)] (rg [(sa 14 5),(so 15 (.bin .rem (.t 14) (.k (.int .u64 4294967296)))),(sa 16 6),(so 17 (.bin .rem (.t 16) (.k (.int .u64 4294967296)))),(b1 18 .mul 15 17),(sa 7 18)] (rg [(sa 19 5),(so 20 (.bin .quo (.t 19) (.k (.int .u64 4294967296)))),(sa 21 6),(so 22 (.bin .rem (.t 21) (.k (.int .u64 4294967296)))),(b1 23 .mul 20 22),(sa 24 7),(so 25 (.bin .quo (.t 24) (.k (.int .u64 4294967296)))),(b1 26 .add 23 25),(sa 8 26)] (rg [(sa 27 5),(so 28 (.bin .rem (.t 27) (.k (.int .u64 4294967296)))),(sa 29 6),(so 30 (.bin .quo (.t 29) (.k (.int .u64 4294967296)))),(b1 31 .mul 28 30),(sa 32 8),(so 33 (.bin .rem (.t 32) (.k (.int .u64 4294967296)))),(b1 34 .add 31 33),(sa 9 34)] (rg [(sa 35 5),(so 36 (.bin .quo (.t 35) (.k (.int .u64 4294967296)))),(sa 37 6),(so 38 (.bin .quo (.t 37) (.k (.int .u64 4294967296)))),(b1 39 .mul 36 38),(sa 40 8),(so 41 (.bin .quo (.t 40) (.k (.int .u64 4294967296)))),(b1 42 .add 39 41),(sa 43 9),(so 44 (.bin .quo (.t 43) (.k (.int .u64 4294967296)))),(b1 45 .add 42 44),(sa 46 9),(so 47 (.bin .mul (.t 46) (.k (.int .u64 4294967296)))),(sa 48 7),(so 49 (.bin .rem (.t 48) (.k (.int .u64 4294967296)))),(b1 50 .add 47 49),(so 51 (.agg [(.int .u64 0),(.int .u64 0)] [(0,1,(.t 45)),(1,1,(.t 50))])),(b8 2 4 51)] .ret))))))⟩
def QM:aE:=⟨14,[],(rg [(sa 5 0),(b4 6 5),(sa 4 6)] (.reg [(sa 7 0),(sa 8 4),(sa 9 4),(so 10 (.conv .u64 (.t 9))),(b3 11 131 [10]),(sa 12 1),(so 13 (.call 163 [(.t 7),(ki 0),(.t 8),(.t 11),(.t 12)]))]))⟩
def Qg:aE:=⟨20,[.tmp 4],(rg [(so 2 (.box 95 (.t 0))),(so 3 (.box 95 (.t 1))),(b6 4 0)] (.seq (rg [(se 5 0 2),(sb 6 5),(se 7 0 3),(sb 8 7),(b1 9 .neq 6 8)] (.cond (.t 9) (rg [(se 10 0 2),(sb 11 10),(se 12 0 3),(sb 13 12),(b1 14 .sub 11 13),(sa 4 14)] .ret) .skip)) (rg [(se 15 1 2),(sb 16 15),(se 17 1 3),(sb 18 17),(b1 19 .sub 16 18),(sa 4 19)] .ret)))⟩
def RG:aE:=⟨61,[.tmp 2],(rg [(so 2 (.mov (.k (.slice none 0 0))))] (.seq (rg [(sa 6 0),(b4 7 6),(b2 8 .lss 7 2)] (.cond (.t 8) (rg [(sa 9 0),(sa 2 9)] .ret) .skip)) (.seq (rg [(b6 3 1)] (.block 0 (.loop (.seq (rg [(sa 10 3),(sa 11 0),(b4 12 11),(b1 13 .lss 10 12)] (.cond (.t 13) .skip (.exit 0))) (.seq (.block 1 (.seq (.draw [(ea 16 0),(ea 17 3),(d7 18 2 16 17),(ec 19 2 18),(ea 20 0),(ea 21 3),(d2 22 .sub 21 1),(d7 23 2 20 22),(ec 24 2 23),(eo 25 (.eqa false 2 (.t 19) (.t 24)))]) (.cond (.t 25) (rg [(sa 26 0),(sa 27 3),(so 28 (.slS 2 (.t 26) (some (.t 27)) none none)),(sa 4 28)] (.seq (rg [(b6 5 1)] (.block 2 (.loop (.seq (rg [(sa 29 5),(sa 30 4),(b4 31 30),(b1 32 .lss 29 31)] (.cond (.t 32) .skip (.exit 2))) (.seq (.block 3 (.seq (.draw [(ea 35 4),(ea 36 5),(d7 37 2 35 36),(ec 38 2 37),(ea 39 4),(ea 40 5),(d2 41 .sub 40 1),(d7 42 2 39 41),(ec 43 2 42),(eo 44 (.eqa true 2 (.t 38) (.t 43)))]) (.cond (.t 44) (rg [(sa 45 0),(sa 46 3),(sa 47 4),(sa 48 5),(b7 49 2 47 48),(sc 50 2 49),(b7 51 2 45 46),(b8 2 51 50)] (.reg [(sa 52 3),(b2 53 .add 52 1),(sa 3 53)])) .skip))) (.reg [(sa 33 5),(b2 34 .add 33 1),(sa 5 34)])))))) (rg [(sa 54 0),(sa 55 3),(so 56 (.slS 2 (.t 54) (some (.t 55)) none none)),⟨none,.clr 2 (zs 2) (.t 56),none⟩] (rg [(sa 57 0),(sa 58 3),(so 59 (.slS 2 (.t 57) none (some (.t 58)) none)),(sa 2 59)] .ret)))) .skip))) (.reg [(sa 14 3),(b2 15 .add 14 1),(sa 3 15)])))))) (rg [(sa 60 0),(sa 2 60)] .ret))))⟩
def OU:aE:=⟨52,[],(rg [(sb 6 1),(b4 7 6),(sa 3 7)] (.seq (rg [(sa 8 0),(b4 9 8),(b6 10 0)] (.block 0 (.loop (rg [(b1 11 .lss 10 9)] (.seq (.cond (.t 11) .skip (.exit 0)) (.seq (.block 1 (rg [(b7 12 2 8 10),(sc 13 2 12),(so 5 (.new 95 (zs 2))),(b8 2 5 13)] (.seq (.block 2 (.loop (.seq (.seq (.draw [(eb 14 1),(d4 15 14),(ea 16 3),(d2 17 .add 16 1),(d1 18 .gtr 15 17),(ea 19 18),(dz ⟨(some 20),.ld (.t 1),(some (19,true))⟩),(dz ⟨(some 21),.ld (.t 1),(some (19,true))⟩),(dz ⟨(some 22),.len (.t 21),(some (19,true))⟩),(dz ⟨(some 23),.bin .sub (.t 22) (ki 2),(some (19,true))⟩),(dz ⟨(some 24),.iaS 2 (.t 20) (.t 23),(some (19,true))⟩),(dz ⟨(some 25),.lds 2 (.t 24),(some (19,true))⟩),(dz ⟨(some 26),.ld (.t 1),(some (19,true))⟩),(dz ⟨(some 27),.ld (.t 1),(some (19,true))⟩),(dz ⟨(some 28),.len (.t 27),(some (19,true))⟩),(dz ⟨(some 29),.bin .sub (.t 28) (ki 1),(some (19,true))⟩),(dz ⟨(some 30),.iaS 2 (.t 26) (.t 29),(some (19,true))⟩),(dz ⟨(some 31),.lds 2 (.t 30),(some (19,true))⟩),(dz ⟨(some 32),.agg (zs 4) [(0,2,(.t 25)),(2,2,(.t 31))],(some (19,true))⟩),(dz ⟨(some 33),.lds 2 (.t 5),(some (19,true))⟩),(dz ⟨(some 34),.call 78 [(.t 32),(.t 33)],(some (19,true))⟩),(dz ⟨(some 35),.bin .leq (.t 34) (ki 0),(some (19,true))⟩),(eo 36 (.pick (.t 19) (.t 35) (.k (.bool false))))]) (.cond (.t 36) .skip (.exit 2))) (.block 3 (.reg [(sb 37 1),(sb 38 1),(b4 39 38),(b2 40 .sub 39 1),(so 41 (.slS 2 (.t 37) none (some (.t 40)) none)),(b8 1 1 41)]))))) (.reg [(sb 42 1),(sc 43 2 5),(so 44 (.bsl 95 1 (zs 2) [(0,2,(.t 43))])),(so 45 (.app 95 2 16 (zs 2) (.t 42) (.t 44))),(b8 1 1 45)])))) (.reg [(b2 46 .add 10 1),(sa 10 46)]))))))) (.reg [(sb 47 1),(sb 48 1),(b4 49 48),(b2 50 .sub 49 1),(so 51 (.slS 2 (.t 47) none (some (.t 50)) none)),(b8 1 1 51)])))⟩
def O7:aE:=⟨28,[],(rg [(sa 4 0),(b4 5 4),(b2 6 .sub 5 1),(b6 2 0),(sa 3 6)] (.block 0 (.loop (.seq (rg [(sa 7 2),(sa 8 3),(b1 9 .lss 7 8)] (.cond (.t 9) .skip (.exit 0))) (.seq (.block 1 (.draw [(ea 14 0),(ea 15 2),⟨(sa 16 0),none,[13],[]⟩,⟨(sa 17 3),none,[13],[]⟩,(ea 18 0),(ea 19 3),(d7 20 2 18 19),(ec 21 2 20),(ea 22 0),(ea 23 2),(d7 24 2 22 23),(ec 25 2 24),(d7 26 2 14 15),⟨(b8 2 26 21),none,[],[.slot 0]⟩,(d7 27 2 16 17),⟨(b8 2 27 25),none,[],[.slot 0]⟩])) (.reg [(sa 10 2),(b2 11 .add 10 1),(sa 12 3),(b2 13 .sub 12 1),(sa 2 11),(sa 3 13)]))))))⟩
def RP:aE:=⟨93,[.tmp 4],(rg [(so 2 (.box 145 (.t 0))),(so 3 (.box 29 (.t 1))),(so 4 (.mov (.k (.bool false))))] (.seq (rg [(se 10 0 2),(se 11 0 10),(se 12 0 11),(sb 13 12),(se 14 0 2),(se 15 2 14),(se 16 0 15),(sb 17 16),(so 18 (.mm true (.t 13) [(.t 17)])),(se 19 0 3),(sb 20 19),(so 21 (.bin .mul (ki 2) (.t 20))),(b1 22 .lss 18 21),(sa 23 22),⟨(some 24),.fa 0 (.t 2),(some (23,false))⟩,⟨(some 25),.fa 0 (.t 24),(some (23,false))⟩,⟨(some 26),.fa 0 (.t 25),(some (23,false))⟩,⟨(some 27),.ld (.t 26),(some (23,false))⟩,⟨(some 28),.fa 0 (.t 2),(some (23,false))⟩,⟨(some 29),.fa 2 (.t 28),(some (23,false))⟩,⟨(some 30),.fa 0 (.t 29),(some (23,false))⟩,⟨(some 31),.ld (.t 30),(some (23,false))⟩,⟨(some 32),.mm false (.t 27) [(.t 31)],(some (23,false))⟩,⟨(some 33),.fa 2 (.t 3),(some (23,false))⟩,⟨(some 34),.ld (.t 33),(some (23,false))⟩,⟨(some 35),.bin .mul (ki 2) (.t 34),(some (23,false))⟩,⟨(some 36),.bin .gtr (.t 32) (.t 35),(some (23,false))⟩,(so 37 (.pick (.t 23) (.k (.bool true)) (.t 36))),(sa 38 37),⟨(some 39),.fa 0 (.t 2),(some (38,false))⟩,⟨(some 40),.fa 0 (.t 39),(some (38,false))⟩,⟨(some 41),.fa 1 (.t 40),(some (38,false))⟩,⟨(some 42),.ld (.t 41),(some (38,false))⟩,⟨(some 43),.fa 0 (.t 2),(some (38,false))⟩,⟨(some 44),.fa 2 (.t 43),(some (38,false))⟩,⟨(some 45),.fa 1 (.t 44),(some (38,false))⟩,⟨(some 46),.ld (.t 45),(some (38,false))⟩,⟨(some 47),.mm true (.t 42) [(.t 46)],(some (38,false))⟩,⟨(some 48),.fa 1 (.t 3),(some (38,false))⟩,⟨(some 49),.ld (.t 48),(some (38,false))⟩,⟨(some 50),.bin .mul (ki 2) (.t 49),(some (38,false))⟩,⟨(some 51),.bin .lss (.t 47) (.t 50),(some (38,false))⟩,(so 52 (.pick (.t 38) (.k (.bool true)) (.t 51))),(sa 53 52),⟨(some 54),.fa 0 (.t 2),(some (53,false))⟩,⟨(some 55),.fa 0 (.t 54),(some (53,false))⟩,⟨(some 56),.fa 1 (.t 55),(some (53,false))⟩,⟨(some 57),.ld (.t 56),(some (53,false))⟩,⟨(some 58),.fa 0 (.t 2),(some (53,false))⟩,⟨(some 59),.fa 2 (.t 58),(some (53,false))⟩,⟨(some 60),.fa 1 (.t 59),(some (53,false))⟩,⟨(some 61),.ld (.t 60),(some (53,false))⟩,⟨(some 62),.mm false (.t 57) [(.t 61)],(some (53,false))⟩,⟨(some 63),.fa 3 (.t 3),(some (53,false))⟩,⟨(some 64),.ld (.t 63),(some (53,false))⟩,⟨(some 65),.bin .mul (ki 2) (.t 64),(some (53,false))⟩,⟨(some 66),.bin .gtr (.t 62) (.t 65),(some (53,false))⟩,(so 67 (.pick (.t 53) (.k (.bool true)) (.t 66)))] (.cond (.t 67) (rg [(so 4 (.mov (.k (.bool false))))] .ret) .skip)) (rg [(so 5 (.mov (.k (.bool false)))),(so 6 (.mov (.k (.bool false))))] (.seq (rg [(sc 68 4 3),(b3 69 54 [68]),(b6 70 0)] (.block 0 (.loop (rg [(b2 71 .lss 70 4)] (.seq (.cond (.t 71) .skip (.exit 0)) (.seq (.block 1 (rg [(so 72 (.ixA 4 2 (some 2) (.t 69) (.t 70))),(so 8 (.new 95 (zs 2))),(b8 2 8 72)] (.seq (.draw [(ee 73 0 2),(ec 74 4 73),(ec 75 2 8),(eo 76 (.call 101 [(.t 75),(ki 2)])),(d3 77 78 [74,76]),(ea 9 77)]) (.reg [(sa 78 5),(sa 79 78),⟨(some 80),.mov (.t 9),(some (79,false))⟩,⟨(some 81),.bin .geq (.t 80) (ki 0),(some (79,false))⟩,(so 82 (.pick (.t 79) (.k (.bool true)) (.t 81))),(sa 83 6),(sa 84 83),⟨(some 85),.mov (.t 9),(some (84,false))⟩,⟨(some 86),.bin .leq (.t 85) (ki 0),(some (84,false))⟩,(so 87 (.pick (.t 84) (.k (.bool true)) (.t 86))),(sa 5 82),(sa 6 87)])))) (.reg [(b2 88 .add 70 1),(sa 70 88)]))))))) (rg [(sa 89 5),(sa 90 89),⟨(some 91),.mov (.t 6),(some (90,true))⟩,(so 92 (.pick (.t 90) (.t 91) (.k (.bool false)))),(sa 4 92)] .ret)))))⟩
def Pl:aE:=⟨19,[.tmp 4],(rg [(b6 4 0)] (.seq (rg [(sa 6 0),(b4 7 6),(b6 8 0)] (.block 0 (.loop (rg [(b1 9 .lss 8 7)] (.seq (.cond (.t 9) .skip (.exit 0)) (.seq (.block 1 (rg [(sa 10 8),(sa 5 10)] (rg [(sa 11 1),(sa 12 0),(sa 13 5),(b7 14 2 12 13),(sc 15 2 14),(so 16 (.callv (.t 11) [(.t 15)]))] (.cond (.t 16) (rg [(sa 17 5),(sa 4 17)] .ret) .skip)))) (.reg [(b2 18 .add 8 1),(sa 8 18)]))))))) (rg [(b6 4 (-1))] .ret)))⟩
def P1:aE:=⟨19,[.tmp 4],(rg [(b6 4 0)] (.seq (rg [(sa 6 0),(b4 7 6),(b6 8 0)] (.block 0 (.loop (rg [(b1 9 .lss 8 7)] (.seq (.cond (.t 9) .skip (.exit 0)) (.seq (.block 1 (rg [(sa 10 8),(sa 5 10)] (rg [(sa 11 1),(sa 12 0),(sa 13 5),(b7 14 4 12 13),(sc 15 4 14),(so 16 (.callv (.t 11) [(.t 15)]))] (.cond (.t 16) (rg [(sa 17 5),(sa 4 17)] .ret) .skip)))) (.reg [(b2 18 .add 8 1),(sa 8 18)]))))))) (rg [(b6 4 (-1))] .ret)))⟩
def Pe:aE:=⟨19,[.tmp 4],(rg [(b6 4 0)] (.seq (rg [(sa 6 0),(b4 7 6),(b6 8 0)] (.block 0 (.loop (rg [(b1 9 .lss 8 7)] (.seq (.cond (.t 9) .skip (.exit 0)) (.seq (.block 1 (rg [(sa 10 8),(sa 5 10)] (rg [(sa 11 1),(sa 12 0),(sa 13 5),(b7 14 6 12 13),(sc 15 6 14),(so 16 (.callv (.t 11) [(.t 15)]))] (.cond (.t 16) (rg [(sa 17 5),(sa 4 17)] .ret) .skip)))) (.reg [(b2 18 .add 8 1),(sa 8 18)]))))))) (rg [(b6 4 (-1))] .ret)))⟩
def Pf:aE:=⟨34,[.cell 4 (some 2),.cell 5 (some 2)],(rg [(so 2 (.box 54 (.t 0))),(so 4 (.new 106 (zs 2))),(so 5 (.new 106 (zs 2)))] (.seq (.draw [(ee 6 2 2),(eb 7 6),(ea 8 1),(d7 9 2 7 8),(eo 10 (.iaA 2 1 (.t 9) (ki 0))),(eb 11 10),(ee 12 2 2),(eb 13 12),(ea 14 1),(d7 15 2 13 14),(eo 16 (.iaA 2 1 (.t 15) (ki 1))),(eb 17 16),(d3 18 125 [11,17]),(ee 19 2 2),(eb 20 19),(ea 21 1),(d2 22 .add 21 1),(d7 23 2 20 22),(eo 24 (.iaA 2 1 (.t 23) (ki 0))),(eb 25 24),(ee 26 2 2),(eb 27 26),(ea 28 1),(d2 29 .add 28 1),(d7 30 2 27 29),(eo 31 (.iaA 2 1 (.t 30) (ki 1))),(eb 32 31),(d3 33 125 [25,32]),⟨(b8 2 4 18),none,[],[.slot 4]⟩,⟨(b8 2 5 33),none,[],[.slot 5]⟩]) .ret))⟩
def Qw:aE:=⟨53,[],(rg [(sa 10 1),(b2 11 .add 10 1),(sa 8 11)] (.block 0 (.loop (.seq (rg [(sa 12 8),(sa 13 2),(b1 14 .lss 12 13)] (.cond (.t 14) .skip (.exit 0))) (.seq (.block 1 (rg [(sa 17 8),(sa 9 17)] (.block 2 (.loop (.seq (.seq (.draw [(ea 18 9),(ea 19 1),(d1 20 .gtr 18 19),(ea 21 20),(dz ⟨(some 22),.mov (.t 3),(some (21,true))⟩),(dz ⟨(some 23),.mov (.t 0),(some (21,true))⟩),(dz ⟨(some 24),.mov (.t 9),(some (21,true))⟩),(dz ⟨(some 25),.iaS 3 (.t 23) (.t 24),(some (21,true))⟩),(dz ⟨(some 26),.lds 3 (.t 25),(some (21,true))⟩),(dz ⟨(some 27),.mov (.t 0),(some (21,true))⟩),(dz ⟨(some 28),.mov (.t 9),(some (21,true))⟩),(dz ⟨(some 29),.bin .sub (.t 28) (ki 1),(some (21,true))⟩),(dz ⟨(some 30),.iaS 3 (.t 27) (.t 29),(some (21,true))⟩),(dz ⟨(some 31),.lds 3 (.t 30),(some (21,true))⟩),(dz ⟨(some 32),.callv (.t 22) [(.t 26),(.t 31)],(some (21,true))⟩),(dz ⟨(some 33),.bin .lss (.t 32) (ki 0),(some (21,true))⟩),(eo 34 (.pick (.t 21) (.t 33) (.k (.bool false))))]) (.cond (.t 34) .skip (.exit 2))) (.seq (.block 3 (.draw [(ea 37 0),(ea 38 9),⟨(sa 39 0),none,[15],[]⟩,⟨(sa 40 9),none,[15],[]⟩,⟨(b2 41 .sub 40 1),none,[15],[]⟩,(ea 42 0),(ea 43 9),(d2 44 .sub 43 1),(d7 45 3 42 44),(ec 46 3 45),(ea 47 0),(ea 48 9),(d7 49 3 47 48),(ec 50 3 49),(d7 51 3 37 38),⟨(b8 3 51 46),none,[],[.slot 0]⟩,(d7 52 3 39 41),⟨(b8 3 52 50),none,[],[.slot 0]⟩])) (.reg [(sa 35 9),(b2 36 .sub 35 1),(sa 9 36)]))))))) (.reg [(sa 15 8),(b2 16 .add 15 1),(sa 8 16)]))))))⟩
def HO:aE:=⟨25,[.tmp 2],(rg [(b6 2 0)] (.seq (rg [(sa 3 0),(so 4 (.bin .geq (.t 3) (.k (.int .u64 4294967296))))] (.cond (.t 4) (rg [(sa 5 0),(so 6 (.bin .shr (.t 5) (.k (.int .u64 32)))),(sa 0 6)] (.reg [(b6 2 32)])) .skip)) (.seq (rg [(sa 7 0),(so 8 (.bin .geq (.t 7) (.k (.int .u64 65536))))] (.cond (.t 8) (rg [(sa 9 0),(so 10 (.bin .shr (.t 9) (.k (.int .u64 16)))),(sa 0 10)] (.reg [(sa 11 2),(b2 12 .add 11 16),(sa 2 12)])) .skip)) (.seq (rg [(sa 13 0),(so 14 (.bin .geq (.t 13) (.k (.int .u64 256))))] (.cond (.t 14) (rg [(sa 15 0),(so 16 (.bin .shr (.t 15) (.k (.int .u64 8)))),(sa 0 16)] (.reg [(sa 17 2),(b2 18 .add 17 8),(sa 2 18)])) .skip)) (rg [(sa 19 2),(sa 20 0),(so 21 (.conv .u8 (.t 20))),(so 22 (.ixS (.k (.str ⟨#[0,1,2,2,3,3,3,3,4,4,4,4,4,4,4,4,5,5,5,5,5,5,5,5,5,5,5,5,5,5,5,5,6,6,6,6,6,6,6,6,6,6,6,6,6,6,6,6,6,6,6,6,6,6,6,6,6,6,6,6,6,6,6,6,7,7,7,7,7,7,7,7,7,7,7,7,7,7,7,7,7,7,7,7,7,7,7,7,7,7,7,7,7,7,7,7,7,7,7,7,7,7,7,7,7,7,7,7,7,7,7,7,7,7,7,7,7,7,7,7,7,7,7,7,7,7,7,7,8,8,8,8,8,8,8,8,8,8,8,8,8,8,8,8,8,8,8,8,8,8,8,8,8,8,8,8,8,8,8,8,8,8,8,8,8,8,8,8,8,8,8,8,8,8,8,8,8,8,8,8,8,8,8,8,8,8,8,8,8,8,8,8,8,8,8,8,8,8,8,8,8,8,8,8,8,8,8,8,8,8,8,8,8,8,8,8,8,8,8,8,8,8,8,8,8,8,8,8,8,8,8,8,8,8,8,8,8,8,8,8,8,8,8,8,8,8,8,8,8,8,8,8,8,8,8,8]⟩)) (.t 21))),(so 23 (.conv .i64 (.t 22))),(b1 24 .add 19 23),(sa 2 24)] .ret)))))⟩
def QK:aE:=⟨51,[.tmp 4,.tmp 5],(rg [(so 4 (.mov (.k (.int .u64 0)))),(so 5 (.mov (.k (.int .u64 0))))] (rg [(sa 14 0),(so 15 (.bin .and (.t 14) (.k (.int .u64 4294967295)))),(sa 6 15)] (rg [(sa 16 0),(so 17 (.bin .shr (.t 16) (.k (.int .u64 32)))),(sa 7 17)] (rg [(sa 18 1),(so 19 (.bin .and (.t 18) (.k (.int .u64 4294967295)))),(sa 8 19)] (rg [(sa 20 1),(so 21 (.bin .shr (.t 20) (.k (.int .u64 32)))),(sa 9 21)] (rg [(sa 22 6),(sa 23 8),(b1 24 .mul 22 23),(sa 10 24)] (rg [(sa 25 7),(sa 26 8),(b1 27 .mul 25 26),(sa 28 10),(so 29 (.bin .shr (.t 28) (.k (.int .u64 32)))),(b1 30 .add 27 29),(sa 11 30)] (rg [(sa 31 11),(so 32 (.bin .and (.t 31) (.k (.int .u64 4294967295)))),(sa 12 32)] (rg [(sa 33 11),(so 34 (.bin .shr (.t 33) (.k (.int .u64 32)))),(sa 13 34)] (rg [(sa 35 12),(sa 36 6),(sa 37 9),(b1 38 .mul 36 37),(b1 39 .add 35 38),(sa 12 39)] (rg [(sa 40 7),(sa 41 9),(b1 42 .mul 40 41),(sa 43 13),(b1 44 .add 42 43),(sa 45 12),(so 46 (.bin .shr (.t 45) (.k (.int .u64 32)))),(b1 47 .add 44 46),(sa 4 47)] (rg [(sa 48 0),(sa 49 1),(b1 50 .mul 48 49),(sa 5 50)] .ret))))))))))))⟩
def RC:aE:=⟨148,[],(rg [(so 10 (.mov (.k (.bool true))))] (rg [(so 11 (.mov (.k (.bool true))))] (.block 0 (.loop (.block 1 (rg [(sa 21 2),(sa 22 1),(b1 23 .sub 21 22),(sa 12 23)] (.seq (rg [(sa 24 12),(b2 25 .leq 24 12)] (.cond (.t 25) (rg [(sa 26 0),(sa 27 1),(sa 28 2),(sa 29 4),(b3 30 177 [26,27,28,29])] .ret) .skip)) (.seq (rg [(sa 31 3),(b2 32 .eql 31 0)] (.cond (.t 32) (rg [(sa 33 0),(sa 34 1),(sa 35 2),(sa 36 4),(b3 37 178 [33,34,35,36])] .ret) .skip)) (.seq (rg [(sa 38 10),(b5 39 38)] (.cond (.t 39) (rg [(sa 40 0),(sa 41 1),(sa 42 2),(sa 43 4),(b3 44 179 [40,41,42,43])] (.reg [(sa 45 3),(b2 46 .sub 45 1),(sa 3 46)])) .skip)) (rg [(sa 48 0),(sa 49 1),(sa 50 2),(sa 51 4),(b3 52 180 [48,49,50,51]),(sa 47 52),(so 53 (.ext (.t 47) 0)),(so 54 (.ext (.t 47) 1)),(sa 13 53),(sa 14 54)] (.seq (rg [(sa 55 14),(b2 56 .eql 55 2)] (.cond (.t 56) (rg [(sa 57 0),(sa 58 1),(sa 59 2),(sa 60 4),(b3 61 181 [57,58,59,60])] (rg [(sa 62 2),(b2 63 .sub 62 1),(sa 64 13),(sa 65 1),(b1 66 .sub 64 65),(b1 67 .sub 63 66),(sa 13 67)] (.reg [(b6 14 1)]))) .skip)) (.seq (rg [(sa 68 10),(sa 69 68),⟨(some 70),.mov (.t 11),(some (69,true))⟩,(so 71 (.pick (.t 69) (.t 70) (.k (.bool false)))),(sa 72 71),⟨(some 73),.mov (.t 14),(some (72,true))⟩,⟨(some 74),.bin .eql (.t 73) (ki 1),(some (72,true))⟩,(so 75 (.pick (.t 72) (.t 74) (.k (.bool false))))] (.cond (.t 75) (rg [(sa 76 0),(sa 77 1),(sa 78 2),(sa 79 4),(b3 80 182 [76,77,78,79])] (.cond (.t 80) .ret .skip)) .skip)) (.seq (.seq (.draw [(ea 81 1),(d2 82 .gtr 81 0),(ea 83 82),(dz ⟨(some 84),.mov (.t 4),(some (83,true))⟩),(dz ⟨(some 85),.mov (.t 0),(some (83,true))⟩),(dz ⟨(some 86),.mov (.t 1),(some (83,true))⟩),(dz ⟨(some 87),.bin .sub (.t 86) (ki 1),(some (83,true))⟩),(dz ⟨(some 88),.iaS 2 (.t 85) (.t 87),(some (83,true))⟩),(dz ⟨(some 89),.lds 2 (.t 88),(some (83,true))⟩),(dz ⟨(some 90),.mov (.t 0),(some (83,true))⟩),(dz ⟨(some 91),.mov (.t 13),(some (83,true))⟩),(dz ⟨(some 92),.iaS 2 (.t 90) (.t 91),(some (83,true))⟩),(dz ⟨(some 93),.lds 2 (.t 92),(some (83,true))⟩),(dz ⟨(some 94),.callv (.t 84) [(.t 89),(.t 93)],(some (83,true))⟩),(dz ⟨(some 95),.bin .lss (.t 94) (ki 0),(some (83,true))⟩),(dz ⟨(some 96),.un .not (.t 95),(some (83,true))⟩),(eo 97 (.pick (.t 83) (.t 96) (.k (.bool false))))]) (.cond (.t 97) (rg [(sa 98 0),(sa 99 1),(sa 100 2),(sa 101 13),(sa 102 4),(b3 103 183 [98,99,100,101,102]),(sa 15 103)] (rg [(sa 104 15),(sa 1 104)] (.exit 1))) .skip)) (rg [(sa 106 0),(sa 107 1),(sa 108 2),(sa 109 13),(sa 110 4),(b3 111 184 [106,107,108,109,110]),(sa 105 111),(so 112 (.ext (.t 105) 0)),(so 113 (.ext (.t 105) 1)),(sa 16 112),(sa 17 113)] (rg [(sa 114 17),(sa 11 114)] (rg [(sa 115 16),(sa 116 1),(b1 117 .sub 115 116),(sa 118 2),(sa 119 16),(b1 120 .sub 118 119),(sa 18 117),(sa 19 120)] (rg [(sa 121 12),(b2 122 .quo 121 8),(sa 20 122)] (rg [(sa 123 18),(sa 124 19),(b1 125 .lss 123 124)] (.cond (.t 125) (rg [(sa 126 18),(sa 127 20),(b1 128 .geq 126 127),(sa 10 128)] (rg [(sa 129 0),(sa 130 1),(sa 131 16),(sa 132 3),(sa 133 4),(b3 134 163 [129,130,131,132,133])] (.reg [(sa 135 16),(b2 136 .add 135 1),(sa 1 136)]))) (rg [(sa 137 19),(sa 138 20),(b1 139 .geq 137 138),(sa 10 139)] (rg [(sa 140 0),(sa 141 16),(b2 142 .add 141 1),(sa 143 2),(sa 144 3),(sa 145 4),(b3 146 163 [140,142,143,144,145])] (.reg [(sa 147 16),(sa 2 147)]))))))))))))))))))))))⟩
def Pz:aE:=⟨53,[],(rg [(sa 10 1),(b2 11 .add 10 1),(sa 8 11)] (.block 0 (.loop (.seq (rg [(sa 12 8),(sa 13 2),(b1 14 .lss 12 13)] (.cond (.t 14) .skip (.exit 0))) (.seq (.block 1 (rg [(sa 17 8),(sa 9 17)] (.block 2 (.loop (.seq (.seq (.draw [(ea 18 9),(ea 19 1),(d1 20 .gtr 18 19),(ea 21 20),(dz ⟨(some 22),.mov (.t 3),(some (21,true))⟩),(dz ⟨(some 23),.mov (.t 0),(some (21,true))⟩),(dz ⟨(some 24),.mov (.t 9),(some (21,true))⟩),(dz ⟨(some 25),.iaS 2 (.t 23) (.t 24),(some (21,true))⟩),(dz ⟨(some 26),.lds 2 (.t 25),(some (21,true))⟩),(dz ⟨(some 27),.mov (.t 0),(some (21,true))⟩),(dz ⟨(some 28),.mov (.t 9),(some (21,true))⟩),(dz ⟨(some 29),.bin .sub (.t 28) (ki 1),(some (21,true))⟩),(dz ⟨(some 30),.iaS 2 (.t 27) (.t 29),(some (21,true))⟩),(dz ⟨(some 31),.lds 2 (.t 30),(some (21,true))⟩),(dz ⟨(some 32),.callv (.t 22) [(.t 26),(.t 31)],(some (21,true))⟩),(dz ⟨(some 33),.bin .lss (.t 32) (ki 0),(some (21,true))⟩),(eo 34 (.pick (.t 21) (.t 33) (.k (.bool false))))]) (.cond (.t 34) .skip (.exit 2))) (.seq (.block 3 (.draw [(ea 37 0),(ea 38 9),⟨(sa 39 0),none,[15],[]⟩,⟨(sa 40 9),none,[15],[]⟩,⟨(b2 41 .sub 40 1),none,[15],[]⟩,(ea 42 0),(ea 43 9),(d2 44 .sub 43 1),(d7 45 2 42 44),(ec 46 2 45),(ea 47 0),(ea 48 9),(d7 49 2 47 48),(ec 50 2 49),(d7 51 2 37 38),⟨(b8 2 51 46),none,[],[.slot 0]⟩,(d7 52 2 39 41),⟨(b8 2 52 50),none,[],[.slot 0]⟩])) (.reg [(sa 35 9),(b2 36 .sub 35 1),(sa 9 36)]))))))) (.reg [(sa 15 8),(b2 16 .add 15 1),(sa 8 16)]))))))⟩
end Go.Dx
namespace Go.Dx
abbrev jv0 (l:List V):Int:=iv (hdV l)
abbrev jv1 (l:List V):Int:=iv (hdV (tlV l))
abbrev jv2 (l:List V):Int:=iv (hdV (tlV (tlV l)))
abbrev jv3 (l:List V):Int:=iv (hdV (tlV (tlV (tlV l))))
abbrev jv4 (l:List V):Int:=iv (hdV (tlV (tlV (tlV (tlV l)))))
abbrev jv5 (l:List V):Int:=iv (hdV (tlV (tlV (tlV (tlV (tlV l))))))
theorem dqt {p:Prop} [inst:Decidable p] (h:p):decide p=true:=decide_eq_true h
theorem dqf {p:Prop} [inst:Decidable p] (h:¬p):decide p=false:=decide_eq_false h
theorem imn {a b:Int} (h:0<=a) (g:0<=b):0<=a * b:=Int.mul_nonneg h g
theorem iml {a b c:Int} (h:a<=b) (g:0<=c):c * a<=c * b:=Int.mul_le_mul_of_nonneg_left h g
def iR:Nat->Nat->Rho->Rho
 | _,0,l=>l
 | k,n+1,l=>some (some k)::iR (k+1) n l
def rdP (ct:aX) (un:Unr) (j:JJ) (l:Lp JJ) (s:Env × List O × Option Sx.Ex):T (bF JJ):=rdT ct un j l s.1 s.2.1 s.2.2
abbrev vi (n:Int):V:=.int .i64 n
abbrev tp2:List Ty:=[Ty.int IntKind.i64,Ty.int IntKind.i64]
abbrev tp4:List Ty:=[Ty.int IntKind.i64,Ty.int IntKind.i64,Ty.int IntKind.i64,Ty.int IntKind.i64]
abbrev tp1:List Ty:=[Ty.int IntKind.i64]
abbrev tyR:List Ty:=[Ty.str,Ty.int IntKind.i64,Ty.sl [Ty.int IntKind.i64,Ty.int IntKind.i64],Ty.int IntKind.i64]
abbrev tyF:List Ty:=[Ty.int IntKind.i64,Ty.int IntKind.i64,Ty.int IntKind.i64,Ty.int IntKind.i64,Ty.sl [Ty.int IntKind.i64,Ty.int IntKind.i64,Ty.int IntKind.i64,Ty.int IntKind.i64]]
abbrev tyC:List Ty:=[Ty.str,Ty.int IntKind.i64,Ty.int IntKind.i64,Ty.int IntKind.i64,Ty.int IntKind.i64,Ty.int IntKind.i64]
abbrev tyT:List Ty:=[Ty.int IntKind.i64,Ty.int IntKind.i64,Ty.int IntKind.i64,Ty.int IntKind.i64,Ty.int IntKind.i64]
abbrev scV (n0:Nat) (f0:FnV) (n2:Nat) (f2:FnV) (n4:Nat) (f4:FnV) (n6:Nat) (f6:FnV):V:=.agg [.sl n0 (elV tyR f0),.sl n2 (elV tyT f2),.sl n4 (elV tyF f4),.sl n6 (elV tyC f6)]
end Go.Dx
namespace Go.Dx
open Go.IntKind (i64 u64 u8)
open Go.Sx Go.Proofs
def eqs:List TypeId:=[68,29,72,192,95]
theorem hE:∀ t ∈ eqs,cm Tryz.prog t:=by
 intro t ht
 simp only [eqs,List.mem_cons,List.not_mem_nil,or_false] at ht
 rcases ht with rfl | rfl | rfl | rfl | rfl
 ·exact eN (by kernel_rfl) (by kernel_rfl) (by kernel_rfl) (by kernel_rfl) (by kernel_rfl)
 ·exact eN (by kernel_rfl) (by kernel_rfl) (by kernel_rfl) (by kernel_rfl) (by kernel_rfl)
 ·exact u3 3 2 (by kernel_rfl) (by kernel_rfl) (by kernel_rfl) (by kernel_rfl) (by kernel_rfl) (by kernel_rfl)
 ·exact eN (by kernel_rfl) (by kernel_rfl) (by kernel_rfl) (by kernel_rfl) (by kernel_rfl)
 ·exact eN (by kernel_rfl) (by kernel_rfl) (by kernel_rfl) (by kernel_rfl) (by kernel_rfl)
theorem hI:jK Tryz.prog eqs its:=by
 intro it ht
 simp only [its,List.mem_cons,List.not_mem_nil,or_false] at ht
 subst ht
 exact ⟨_,Tryz.func128,by kernel_rfl,by kernel_rfl⟩
def u0:Unr:=fun _=>0
noncomputable def fnQ (fn : Func) (sf : aE) (ts : List Ty) : Bool × Option aE × Bool × Bool := (fn.name == "runtime.NumGoroutine", dO Tryz.prog eqs its fn, dZ sf.ntmps sf.body, er ts)
theorem gG {fn : Func} {sf : aE} {ts : List Ty} (h : fnQ fn sf ts = (false, some sf, true, true)) : (fn.name == "runtime.NumGoroutine") = false /\ dO Tryz.prog eqs its fn = some sf /\ dZ sf.ntmps sf.body = true /\ er ts = true := by
 have h1:=congrArg Prod.fst h
 have h2:=congrArg (fun x=>x.2.1) h
 have h3:=congrArg (fun x=>x.2.2.1) h
 have h4:=congrArg (fun x=>x.2.2.2) h
 exact ⟨h1,h2,h3,h4⟩
section
variable {ct:aX} {f:FuncId} {fn:Func} {sf:aE} {un:Unr} {ts:List Ty} {pre:List V->Prop} {r:List V->V}
theorem mkE (hT:aW Tryz.prog eqs its ct) (hf:Tryz.prog.funcs[f]? = some fn) (hk:fnQ fn sf ts=(false,some sf,true,true)) (h:∀ ds,pre (ak ts ds)->Run ct (aZ JJ ct un sf (ak ts ds)) (r (ak ts ds))):(vP (mkC ts pre r)).Ok Tryz.prog f :=
 y6 (J:=JJ) (un:=un) hT hE hI hf (gG hk).1 (gG hk).2.1 (gG hk).2.2.1 (gG hk).2.2.2 fun w0 ds hp=>h ds hp hT.dst w0
theorem Gv {e:Nat} {ty:TypeId} (hT:aW Tryz.prog eqs its ct) (hf:Tryz.prog.funcs[f]? = some fn) (hk:fnQ fn sf ts=(false,some sf,true,true)) (h:∀ ds,pre (ak ts ds)->Run ct (tA JJ e ty ct un sf (ak ts ds)) (r (ak ts ds))):(vL e ty (mkC ts pre r)).Ok Tryz.prog f :=
 FN (J:=JJ) (un:=un) hT hE hI hf (gG hk).1 (gG hk).2.1 (gG hk).2.2.1 (gG hk).2.2.2 fun w0 ds hp=>h ds hp hT.dst w0
end
end Go.Dx
namespace Go.Dx
open Go.IntKind (i64 u64 u8)
open Go.Sx Go.Proofs
def nh:aX:=[]
theorem jn:aW Tryz.prog eqs its nh:=.nil
def m84 (x0 x1 x2 x3:Int):RT Empty:=.ret (V.agg [vi (i64.wrap (x0 - x2)),vi (i64.wrap (x1 - x3))])
theorem OO (x0 x1 x2 x3:Int):Fit noD (aZ JJ nh u0 s84 [V.agg [vi x0,vi x1],V.agg [vi x2,vi x3]]) (m84 x0 x1 x2 x3):=⟨by kernel_rfl,by kernel_rfl⟩
def aH (x0 x2:Int):Int:=i64.wrap (x0 - x2)
def aI (x1 x3:Int):Int:=i64.wrap (x1 - x3)
def R84 (x0 x1 x2 x3:Int):V:=.agg [.int i64 (aH x0 x2),.int i64 (aI x1 x3)]
theorem RS (x0 x1 x2 x3:Int):evR noE (m84 x0 x1 x2 x3) (R84 x0 x1 x2 x3):=evRet (by unfold R84 aH aI; rfl)
def C84:aJ:=mkC [.agg tp2,.agg tp2] (fun _=>True) fun
 | [.agg [.int _ x0,.int _ x1],.agg [.int _ x2,.int _ x3]]=>R84 x0 x1 x2 x3
 | _=>.any
theorem tQ:(vP C84).Ok Tryz.prog 84:=mkE jn Tryz.func84 (by kernel_rfl) fun ds hp=>rf0 (OO ..) (RS _ _ _ _)
def m85 (x0 x1 x2 x3:Int):RT Empty:=.ret (vi (i64.wrap (i64.wrap (x0 * x2)+i64.wrap (x1 * x3))))
theorem LS (x0 x1 x2 x3:Int):Fit noD (aZ JJ nh u0 s85 [V.agg [vi x0,vi x1],V.agg [vi x2,vi x3]]) (m85 x0 x1 x2 x3):=⟨by kernel_rfl,by kernel_rfl⟩
def cP (x0 x1 x2 x3:Int):Int:=i64.wrap (i64.wrap (x0 * x2)+i64.wrap (x1 * x3))
def R85 (x0 x1 x2 x3:Int):V:=.int i64 (cP x0 x1 x2 x3)
theorem RH (x0 x1 x2 x3:Int):evR noE (m85 x0 x1 x2 x3) (R85 x0 x1 x2 x3):=evRet (by unfold R85 cP; rfl)
def C85:aJ:=mkC [.agg tp2,.agg tp2] (fun _=>True) fun
 | [.agg [.int _ x0,.int _ x1],.agg [.int _ x2,.int _ x3]]=>R85 x0 x1 x2 x3
 | _=>.any
theorem uw:(vP C85).Ok Tryz.prog 85:=mkE jn Tryz.func85 (by kernel_rfl) fun ds hp=>rf0 (LS ..) (RH _ _ _ _)
def LG (x0 x1 x2 x3:Int):RT Empty:=.ret (vi (i64.wrap (i64.wrap (x0 * x3) - i64.wrap (x1 * x2))))
theorem Jx (x0 x1 x2 x3:Int):Fit noD (aZ JJ nh u0 PC [V.agg [vi x0,vi x1],V.agg [vi x2,vi x3]]) (LG x0 x1 x2 x3):=⟨by kernel_rfl,by kernel_rfl⟩
def cI (x0 x1 x2 x3:Int):Int:=i64.wrap (i64.wrap (x0 * x3) - i64.wrap (x1 * x2))
def HT (x0 x1 x2 x3:Int):V:=.int i64 (cI x0 x1 x2 x3)
theorem KS (x0 x1 x2 x3:Int):evR noE (LG x0 x1 x2 x3) (HT x0 x1 x2 x3):=evRet (by unfold HT cI; rfl)
def rR:aJ:=mkC [.agg tp2,.agg tp2] (fun _=>True) fun
 | [.agg [.int _ x0,.int _ x1],.agg [.int _ x2,.int _ x3]]=>HT x0 x1 x2 x3
 | _=>.any
theorem mP:(vP rR).Ok Tryz.prog 127:=mkE jn Tryz.func127 (by kernel_rfl) fun ds hp=>rf0 (Jx ..) (KS _ _ _ _)
def Oy (x0 x1 x2:Int):RT Empty:=.ret (V.agg [vi (i64.wrap (x2 * x0)),vi (i64.wrap (x2 * x1))])
theorem H3 (x0 x1 x2:Int):Fit noD (aZ JJ nh u0 QS [V.agg [vi x0,vi x1],vi x2]) (Oy x0 x1 x2):=⟨by kernel_rfl,by kernel_rfl⟩
def cQ (x0 x2:Int):Int:=i64.wrap (x2 * x0)
def da (x1 x2:Int):Int:=i64.wrap (x2 * x1)
def IE (x0 x1 x2:Int):V:=.agg [.int i64 (cQ x0 x2),.int i64 (da x1 x2)]
theorem Lj (x0 x1 x2:Int):evR noE (Oy x0 x1 x2) (IE x0 x1 x2):=evRet (by unfold IE cQ da; rfl)
def sA:aJ:=mkC [.agg tp2,.int .i64] (fun _=>True) fun
 | [.agg [.int _ x0,.int _ x1],.int _ x2]=>IE x0 x1 x2
 | _=>.any
theorem mw:(vP sA).Ok Tryz.prog 101:=mkE jn Tryz.func101 (by kernel_rfl) fun ds hp=>rf0 (H3 ..) (Lj _ _ _)
def m86 (x0 x1 x2:Int):RT Empty:=.obi (.obi (.obi (.ret (V.bool (bif decide (x0 < x1) then true else decide (x2 < x0))))))
theorem LA (x0 x1 x2:Int):Fit noD (aZ JJ nh u0 s86 [vi x0,vi x1,vi x2]) (m86 x0 x1 x2):=⟨by kernel_rfl,by kernel_rfl⟩
def aT (x0 x1 x2:Int):Bool:=bif decide (x0 < x1) then true else decide (x2 < x0)
def R86 (x0 x1 x2:Int):V:=.bool (aT x0 x1 x2)
theorem RL (x0 x1 x2:Int):evR noE (m86 x0 x1 x2) (R86 x0 x1 x2):=ae (ae (ae (evRet (by unfold R86 aT; rfl))))
def C86:aJ:=mkC [.int .i64,.int .i64,.int .i64] (fun _=>True) fun
 | [.int _ x0,.int _ x1,.int _ x2]=>R86 x0 x1 x2
 | _=>.any
theorem uU:(vP C86).Ok Tryz.prog 86:=mkE jn Tryz.func86 (by kernel_rfl) fun ds hp=>rf0 (LA ..) (RL _ _ _)
def m71 (x0 x1 x2:Int):RT Empty:=.obi (.obi (.obi (.ret (V.bool (bif decide (x1<=x0) then decide (x0<=x2) else false)))))
theorem Og (x0 x1 x2:Int):Fit noD (aZ JJ nh u0 s71 [vi x0,vi x1,vi x2]) (m71 x0 x1 x2):=⟨by kernel_rfl,by kernel_rfl⟩
def bR (x0 x1 x2:Int):Bool:=bif decide (x1<=x0) then decide (x0<=x2) else false
def R71 (x0 x1 x2:Int):V:=.bool (bR x0 x1 x2)
theorem Qe (x0 x1 x2:Int):evR noE (m71 x0 x1 x2) (R71 x0 x1 x2):=ae (ae (ae (evRet (by unfold R71 bR; rfl))))
def C71:aJ:=mkC [.int .i64,.int .i64,.int .i64] (fun _=>True) fun
 | [.int _ x0,.int _ x1,.int _ x2]=>R71 x0 x1 x2
 | _=>.any
theorem uZ:(vP C71).Ok Tryz.prog 71:=mkE jn Tryz.func71 (by kernel_rfl) fun ds hp=>rf0 (Og ..) (Qe _ _ _)
def m93 (x0 x1 x2 x3:Int):RT Empty:=.ret (V.agg [vi (i64.wrap (x0 - x2)),vi (i64.wrap (x1 - x3))])
theorem NU (x0 x1 x2 x3:Int):Fit noD (aZ JJ nh u0 s93 [V.agg [vi x0,vi x1],V.agg [vi x2,vi x3]]) (m93 x0 x1 x2 x3):=⟨by kernel_rfl,by kernel_rfl⟩
def aN (x0 x2:Int):Int:=i64.wrap (x0 - x2)
def aM (x1 x3:Int):Int:=i64.wrap (x1 - x3)
def R93 (x0 x1 x2 x3:Int):V:=.agg [.int i64 (aN x0 x2),.int i64 (aM x1 x3)]
theorem QT (x0 x1 x2 x3:Int):evR noE (m93 x0 x1 x2 x3) (R93 x0 x1 x2 x3):=evRet (by unfold R93 aN aM; rfl)
def C93:aJ:=mkC [.agg tp2,.agg tp2] (fun _=>True) fun
 | [.agg [.int _ x0,.int _ x1],.agg [.int _ x2,.int _ x3]]=>R93 x0 x1 x2 x3
 | _=>.any
theorem vt:(vP C93).Ok Tryz.prog 93:=mkE jn Tryz.func93 (by kernel_rfl) fun ds hp=>rf0 (NU ..) (QT _ _ _ _)
def m92 (x0 x1 x2 x3:Int):RT Empty:=.ret (vi (i64.wrap (i64.wrap (x0 * x2)+i64.wrap (x1 * x3))))
theorem K7 (x0 x1 x2 x3:Int):Fit noD (aZ JJ nh u0 s92 [V.agg [vi x0,vi x1],V.agg [vi x2,vi x3]]) (m92 x0 x1 x2 x3):=⟨by kernel_rfl,by kernel_rfl⟩
def dI (x0 x1 x2 x3:Int):Int:=i64.wrap (i64.wrap (x0 * x2)+i64.wrap (x1 * x3))
def R92 (x0 x1 x2 x3:Int):V:=.int i64 (dI x0 x1 x2 x3)
theorem PX (x0 x1 x2 x3:Int):evR noE (m92 x0 x1 x2 x3) (R92 x0 x1 x2 x3):=evRet (by unfold R92 dI; rfl)
def C92:aJ:=mkC [.agg tp2,.agg tp2] (fun _=>True) fun
 | [.agg [.int _ x0,.int _ x1],.agg [.int _ x2,.int _ x3]]=>R92 x0 x1 x2 x3
 | _=>.any
theorem ub:(vP C92).Ok Tryz.prog 92:=mkE jn Tryz.func92 (by kernel_rfl) fun ds hp=>rf0 (K7 ..) (PX _ _ _ _)
def m79 (x0 x1 x2 x3:Int):RT Empty:=.ret (vi (i64.wrap (i64.wrap (x0 * x3) - i64.wrap (x1 * x2))))
theorem Me (x0 x1 x2 x3:Int):Fit noD (aZ JJ nh u0 s79 [V.agg [vi x0,vi x1],V.agg [vi x2,vi x3]]) (m79 x0 x1 x2 x3):=⟨by kernel_rfl,by kernel_rfl⟩
def eE (x0 x1 x2 x3:Int):Int:=i64.wrap (i64.wrap (x0 * x3) - i64.wrap (x1 * x2))
def R79 (x0 x1 x2 x3:Int):V:=.int i64 (eE x0 x1 x2 x3)
theorem QL (x0 x1 x2 x3:Int):evR noE (m79 x0 x1 x2 x3) (R79 x0 x1 x2 x3):=evRet (by unfold R79 eE; rfl)
def C79:aJ:=mkC [.agg tp2,.agg tp2] (fun _=>True) fun
 | [.agg [.int _ x0,.int _ x1],.agg [.int _ x2,.int _ x3]]=>R79 x0 x1 x2 x3
 | _=>.any
theorem vm:(vP C79).Ok Tryz.prog 79:=mkE jn Tryz.func79 (by kernel_rfl) fun ds hp=>rf0 (Me ..) (QL _ _ _ _)
def Ks (x0:Int):RT Empty:=.ret (vi (max x0 (i64.wrap (0 - x0))))
theorem HG (x0:Int):Fit noD (aZ JJ nh u0 Qf [vi x0]) (Ks x0):=⟨by kernel_rfl,by kernel_rfl⟩
def ga (x0:Int):Int:=max x0 (i64.wrap (0 - x0))
def J7 (x0:Int):V:=.int i64 (ga x0)
theorem Oi (x0:Int):evR noE (Ks x0) (J7 x0):=evRet (by unfold J7 ga; rfl)
def r0:aJ:=mkC tp1 (fun _=>True) fun
 | [.int _ x0]=>J7 x0
 | _=>.any
theorem mD:(vP r0).Ok Tryz.prog 136:=mkE jn Tryz.func136 (by kernel_rfl) fun ds hp=>rf0 (HG ..) (Oi _)
def oB (x0:Int):Int:=max (-1) (min 1 x0)
def NM (x0 x1:Int):RT Empty:=.ret (V.agg [vi (i64.wrap (2 * x0)),vi (i64.wrap (2 * x1))])
theorem J2 (x0 x1:Int):Fit noD (aZ JJ nh u0 Rz [vi x0,vi x1]) (NM x0 x1):=⟨by kernel_rfl,by kernel_rfl⟩
def fw (x0:Int):Int:=i64.wrap (2 * x0)
def fp (x1:Int):Int:=i64.wrap (2 * x1)
def I9 (x0 x1:Int):V:=.agg [.int i64 (fw x0),.int i64 (fp x1)]
theorem Mo (x0 x1:Int):evR noE (NM x0 x1) (I9 x0 x1):=evRet (by unfold I9 fw fp; rfl)
def sr:aJ:=mkC tp2 (fun _=>True) fun
 | [.int _ x0,.int _ x1]=>I9 x0 x1
 | _=>.any
theorem lE:(vP sr).Ok Tryz.prog 125:=mkE jn Tryz.func125 (by kernel_rfl) fun ds hp=>rf0 (J2 ..) (Mo _ _)
def OD (x0 x1:Int):RT Empty:=.obt (.obt (.obt (.obt (.obt (.ret (V.tup [V.int u64 (u64.wrap (u64.wrap (u64.wrap (x0.fdiv (2 ^ 32) * x1.fdiv (2 ^ 32))+(u64.wrap (u64.wrap (x0.fdiv (2 ^ 32) * bits BinOp.and u64 x1 4294967295)+(u64.wrap (bits BinOp.and u64 x0 4294967295 * bits BinOp.and u64 x1 4294967295)).fdiv (2 ^ 32))).fdiv (2 ^ 32))+(u64.wrap (bits BinOp.and u64 (u64.wrap (u64.wrap (x0.fdiv (2 ^ 32) * bits BinOp.and u64 x1 4294967295)+(u64.wrap (bits BinOp.and u64 x0 4294967295 * bits BinOp.and u64 x1 4294967295)).fdiv (2 ^ 32))) 4294967295+u64.wrap (bits BinOp.and u64 x0 4294967295 * x1.fdiv (2 ^ 32)))).fdiv (2 ^ 32))),V.int u64 (u64.wrap (x0 * x1))]))))))
theorem IG (x0 x1:Int):Fit noD (aZ JJ nh u0 QK [V.int u64 x0,V.int u64 x1]) (OD x0 x1):=⟨by kernel_rfl,by kernel_rfl⟩
def nF (x0 x1:Int):Int:=u64.wrap (u64.wrap (u64.wrap (x0.fdiv (2 ^ 32) * x1.fdiv (2 ^ 32))+(u64.wrap (u64.wrap (x0.fdiv (2 ^ 32) * bits BinOp.and u64 x1 4294967295)+(u64.wrap (bits BinOp.and u64 x0 4294967295 * bits BinOp.and u64 x1 4294967295)).fdiv (2 ^ 32))).fdiv (2 ^ 32))+(u64.wrap (bits BinOp.and u64 (u64.wrap (u64.wrap (x0.fdiv (2 ^ 32) * bits BinOp.and u64 x1 4294967295)+(u64.wrap (bits BinOp.and u64 x0 4294967295 * bits BinOp.and u64 x1 4294967295)).fdiv (2 ^ 32))) 4294967295+u64.wrap (bits BinOp.and u64 x0 4294967295 * x1.fdiv (2 ^ 32)))).fdiv (2 ^ 32))
def nN (x0 x1:Int):Int:=u64.wrap (x0 * x1)
def Ju (x0 x1:Int):V:=.tup [.int u64 (nF x0 x1),.int u64 (nN x0 x1)]
theorem NC (x0 x1:Int):evR noE (OD x0 x1) (Ju x0 x1):=evObt (evObt (evObt (evObt (evObt (evRet (by unfold Ju nF nN; rfl))))))
def rZ:aJ:=mkC [.int .u64,.int .u64] (fun _=>True) fun
 | [.int _ x0,.int _ x1]=>Ju x0 x1
 | _=>.any
theorem lD:(vP rZ).Ok Tryz.prog 162:=mkE jn Tryz.func162 (by kernel_rfl) fun ds hp=>rf0 (IG ..) (NC _ _)
def sE:aX:=[(84,.con C84),(85,.con C85),(127,.con rR),(101,.con sA),(86,.con C86),(71,.con C71),(93,.con C93),(92,.con C92),(79,.con C79),(136,.con r0),(125,.con sr),(162,.con rZ)]
theorem mS:aW Tryz.prog eqs its sE:=.con tQ (.con uw (.con mP (.con mw (.con uU (.con uZ (.con vt (.con ub (.con vm (.con mD (.con lE (.con lD (.nil))))))))))))
def Ln (x0 x1:Int):RT Empty:=.obc (.obt (.ret (V.agg [V.int u64 (nF (u64.wrap x0) (u64.wrap x1)),V.int u64 (nN (u64.wrap x0) (u64.wrap x1))])))
theorem Jk (x0 x1:Int):Fit noD (aZ JJ sE u0 Rp [vi x0,vi x1]) (Ln x0 x1):=⟨by kernel_rfl,by kernel_rfl⟩
def i6 (x0 x1:Int):Int:=nF (u64.wrap x0) (u64.wrap x1)
def jd (x0 x1:Int):Int:=nN (u64.wrap x0) (u64.wrap x1)
def Jz (x0 x1:Int):V:=.agg [.int u64 (i6 x0 x1),.int u64 (jd x0 x1)]
theorem MY (x0 x1:Int):evR noE (Ln x0 x1) (Jz x0 x1):=evObc (evObt (evRet (by unfold Jz i6 jd; rfl)))
def rL:aJ:=mkC tp2 (fun _=>True) fun
 | [.int _ x0,.int _ x1]=>Jz x0 x1
 | _=>.any
theorem mu:(vP rL).Ok Tryz.prog 134:=mkE mS Tryz.func134 (by kernel_rfl) fun ds hp=>rf0 (Jk ..) (MY _ _)
def Nm (x0 x1 x2 x3:Int):RT Empty:=.obi (.obi (.obi (.obi (.obi (.obi (.obi (.obi (.obi (.obi (.obi (.obi (.obi (.obi (.obi (.obi (.obi (.ret (V.bool (bif bif x0 == x2 && (x1 == x3 && true) then true else decide (x0 < x2) then true else bif x0 == x2 then decide (x1 < x3) else false)))))))))))))))))))
theorem JF (x0 x1 x2 x3:Int):Fit noD (aZ JJ sE u0 Rk [V.agg [V.int u64 x0,V.int u64 x1],V.agg [V.int u64 x2,V.int u64 x3]]) (Nm x0 x1 x2 x3):=⟨by kernel_rfl,by kernel_rfl⟩
def nD (x0 x1 x2 x3:Int):Bool:=bif bif x0 == x2 && (x1 == x3 && true) then true else decide (x0 < x2) then true else bif x0 == x2 then decide (x1 < x3) else false
def Hf (x0 x1 x2 x3:Int):V:=.bool (nD x0 x1 x2 x3)
theorem Kh (x0 x1 x2 x3:Int):evR noE (Nm x0 x1 x2 x3) (Hf x0 x1 x2 x3):=ae (ae (ae (ae (ae (ae (ae (ae (ae (ae (ae (ae (ae (ae (ae (ae (ae (evRet (by unfold Hf nD; rfl))))))))))))))))))
def sB:aJ:=mkC [.agg [.int .u64,.int .u64],.agg [.int .u64,.int .u64]] (fun _=>True) fun
 | [.agg [.int _ x0,.int _ x1],.agg [.int _ x2,.int _ x3]]=>Hf x0 x1 x2 x3
 | _=>.any
theorem lG:(vP sB).Ok Tryz.prog 135:=mkE mS Tryz.func135 (by kernel_rfl) fun ds hp=>rf0 (JF ..) (Kh _ _ _ _)
def OQ (x0 x1 x2 x3:Int):RT Empty:=.obi (.obi (.obi (.obi (.obi (.obi (.obi (.obi (.obi (.obi (.obi (.obi (.ret (V.bool (bif decide (x2 < x0) then true else bif x0 == x2 then decide (x3 < x1) else false))))))))))))))
theorem HQ (x0 x1 x2 x3:Int):Fit noD (aZ JJ sE u0 PQ [V.agg [V.int u64 x0,V.int u64 x1],V.agg [V.int u64 x2,V.int u64 x3]]) (OQ x0 x1 x2 x3):=⟨by kernel_rfl,by kernel_rfl⟩
def ox (x0 x1 x2 x3:Int):Bool:=bif decide (x2 < x0) then true else bif x0 == x2 then decide (x3 < x1) else false
def JL (x0 x1 x2 x3:Int):V:=.bool (ox x0 x1 x2 x3)
theorem Ki (x0 x1 x2 x3:Int):evR noE (OQ x0 x1 x2 x3) (JL x0 x1 x2 x3):=ae (ae (ae (ae (ae (ae (ae (ae (ae (ae (ae (ae (evRet (by unfold JL ox; rfl)))))))))))))
def sC:aJ:=mkC [.agg [.int .u64,.int .u64],.agg [.int .u64,.int .u64]] (fun _=>True) fun
 | [.agg [.int _ x0,.int _ x1],.agg [.int _ x2,.int _ x3]]=>JL x0 x1 x2 x3
 | _=>.any
theorem lJ:(vP sC).Ok Tryz.prog 137:=mkE mS Tryz.func137 (by kernel_rfl) fun ds hp=>rf0 (HQ ..) (Ki _ _ _ _)
def KN (x0 x1:Int):RT Empty:=.obt (.obt (.obt (.obt (.obt (.obt (.obt (.obt (.obt (.obt (.obt (.obt (.obt (.ret (V.agg [V.int u64 (u64.wrap (u64.wrap (u64.wrap (u64.wrap ((u64.wrap x0).tdiv 4294967296) * u64.wrap ((u64.wrap x1).tdiv 4294967296))+u64.wrap ((u64.wrap (u64.wrap (u64.wrap ((u64.wrap x0).tdiv 4294967296) * (u64.wrap x1).tmod 4294967296)+u64.wrap ((u64.wrap ((u64.wrap x0).tmod 4294967296 * (u64.wrap x1).tmod 4294967296)).tdiv 4294967296))).tdiv 4294967296))+u64.wrap ((u64.wrap (u64.wrap ((u64.wrap x0).tmod 4294967296 * u64.wrap ((u64.wrap x1).tdiv 4294967296))+(u64.wrap (u64.wrap (u64.wrap ((u64.wrap x0).tdiv 4294967296) * (u64.wrap x1).tmod 4294967296)+u64.wrap ((u64.wrap ((u64.wrap x0).tmod 4294967296 * (u64.wrap x1).tmod 4294967296)).tdiv 4294967296))).tmod 4294967296)).tdiv 4294967296))),V.int u64 (u64.wrap (u64.wrap (u64.wrap (u64.wrap ((u64.wrap x0).tmod 4294967296 * u64.wrap ((u64.wrap x1).tdiv 4294967296))+(u64.wrap (u64.wrap (u64.wrap ((u64.wrap x0).tdiv 4294967296) * (u64.wrap x1).tmod 4294967296)+u64.wrap ((u64.wrap ((u64.wrap x0).tmod 4294967296 * (u64.wrap x1).tmod 4294967296)).tdiv 4294967296))).tmod 4294967296) * 4294967296)+(u64.wrap ((u64.wrap x0).tmod 4294967296 * (u64.wrap x1).tmod 4294967296)).tmod 4294967296))]))))))))))))))
theorem If (x0 x1:Int):Fit noD (aZ JJ sE u0 RB [vi x0,vi x1]) (KN x0 x1):=⟨by kernel_rfl,by kernel_rfl⟩
def g8 (x0 x1:Int):Int:=u64.wrap (u64.wrap (u64.wrap (u64.wrap ((u64.wrap x0).tdiv 4294967296) * u64.wrap ((u64.wrap x1).tdiv 4294967296))+u64.wrap ((u64.wrap (u64.wrap (u64.wrap ((u64.wrap x0).tdiv 4294967296) * (u64.wrap x1).tmod 4294967296)+u64.wrap ((u64.wrap ((u64.wrap x0).tmod 4294967296 * (u64.wrap x1).tmod 4294967296)).tdiv 4294967296))).tdiv 4294967296))+u64.wrap ((u64.wrap (u64.wrap ((u64.wrap x0).tmod 4294967296 * u64.wrap ((u64.wrap x1).tdiv 4294967296))+(u64.wrap (u64.wrap (u64.wrap ((u64.wrap x0).tdiv 4294967296) * (u64.wrap x1).tmod 4294967296)+u64.wrap ((u64.wrap ((u64.wrap x0).tmod 4294967296 * (u64.wrap x1).tmod 4294967296)).tdiv 4294967296))).tmod 4294967296)).tdiv 4294967296))
def ik (x0 x1:Int):Int:=u64.wrap (u64.wrap (u64.wrap (u64.wrap ((u64.wrap x0).tmod 4294967296 * u64.wrap ((u64.wrap x1).tdiv 4294967296))+(u64.wrap (u64.wrap (u64.wrap ((u64.wrap x0).tdiv 4294967296) * (u64.wrap x1).tmod 4294967296)+u64.wrap ((u64.wrap ((u64.wrap x0).tmod 4294967296 * (u64.wrap x1).tmod 4294967296)).tdiv 4294967296))).tmod 4294967296) * 4294967296)+(u64.wrap ((u64.wrap x0).tmod 4294967296 * (u64.wrap x1).tmod 4294967296)).tmod 4294967296)
def IN (x0 x1:Int):V:=.agg [.int u64 (g8 x0 x1),.int u64 (ik x0 x1)]
theorem MS (x0 x1:Int):evR noE (KN x0 x1) (IN x0 x1):=evObt (evObt (evObt (evObt (evObt (evObt (evObt (evObt (evObt (evObt (evObt (evObt (evObt (evRet (by unfold IN g8 ik; rfl))))))))))))))
def rS:aJ:=mkC tp2 (fun _=>True) fun
 | [.int _ x0,.int _ x1]=>IN x0 x1
 | _=>.any
theorem mJ:(vP rS).Ok Tryz.prog 138:=mkE mS Tryz.func138 (by kernel_rfl) fun ds hp=>rf0 (If ..) (MS _ _)
def m78 (x0 x1 x2 x3 x4 x5:Int):RT Empty:=.obc (.obt (.obc (.obt (.obc (.obt (.ret (vi (cI (aH x2 x0) (aI x3 x1) (aH x4 x0) (aI x5 x1)))))))))
theorem Li (x0 x1 x2 x3 x4 x5:Int):Fit noD (aZ JJ sE u0 s78 [V.agg [vi x0,vi x1,vi x2,vi x3],V.agg [vi x4,vi x5]]) (m78 x0 x1 x2 x3 x4 x5):=⟨by kernel_rfl,by kernel_rfl⟩
def eu (x0 x1 x2 x3 x4 x5:Int):Int:=cI (aH x2 x0) (aI x3 x1) (aH x4 x0) (aI x5 x1)
def R78 (x0 x1 x2 x3 x4 x5:Int):V:=.int i64 (eu x0 x1 x2 x3 x4 x5)
theorem PK (x0 x1 x2 x3 x4 x5:Int):evR noE (m78 x0 x1 x2 x3 x4 x5) (R78 x0 x1 x2 x3 x4 x5):=evObc (evObt (evObc (evObt (evObc (evObt (evRet (by unfold R78 eu; rfl)))))))
def C78:aJ:=mkC [.agg tp4,.agg tp2] (fun _=>True) fun
 | [.agg [.int _ x0,.int _ x1,.int _ x2,.int _ x3],.agg [.int _ x4,.int _ x5]]=>R78 x0 x1 x2 x3 x4 x5
 | _=>.any
theorem uD:(vP C78).Ok Tryz.prog 78:=mkE mS Tryz.func78 (by kernel_rfl) fun ds hp=>rf0 (Li ..) (PK _ _ _ _ _ _)
def m54 (x0 x1 x2 x3:Int):RT Empty:=.ret (V.agg [vi x0,vi x1,vi x2,vi x1,vi x2,vi x3,vi x0,vi x3])
theorem Kr (x0 x1 x2 x3:Int):Fit noD (aZ JJ sE u0 s54 [V.agg [vi x0,vi x1,vi x2,vi x3]]) (m54 x0 x1 x2 x3):=⟨by kernel_rfl,by kernel_rfl⟩
def R54 (x0 x1 x2 x3:Int):V:=.agg [.int i64 (x0),.int i64 (x1),.int i64 (x2),.int i64 (x1),.int i64 (x2),.int i64 (x3),.int i64 (x0),.int i64 (x3)]
theorem P5 (x0 x1 x2 x3:Int):evR noE (m54 x0 x1 x2 x3) (R54 x0 x1 x2 x3):=evRet (by unfold R54 ; rfl)
def C54:aJ:=mkC [.agg tp4] (fun _=>True) fun
 | [.agg [.int _ x0,.int _ x1,.int _ x2,.int _ x3]]=>R54 x0 x1 x2 x3
 | _=>.any
theorem tS:(vP C54).Ok Tryz.prog 54:=mkE mS Tryz.func54 (by kernel_rfl) fun ds hp=>rf0 (Kr ..) (P5 _ _ _ _)
def m48 (s0:ByteArray) (x1 x2 x3 x4 x5 x6 x7 x8 x9 x10:Int):RT Empty:=.obc (.obt (.ret (V.agg [vi x1,vi x2,vi x3,vi (max 0 (i64.wrap (x3 - x10))),vi (i64.wrap (x3 - x9)),vi (cQ x6 x3),vi (da x7 x3),vi (i64.wrap (x8 * x3)),V.bool (decide (x3 < x9))])))
theorem Of (s0:ByteArray) (x1 x2 x3 x4 x5 x6 x7 x8 x9 x10:Int):Fit noD (aZ JJ sE u0 s48 [V.agg [V.str s0,vi x1,vi x2,vi x3,vi x4,vi x5],V.agg [vi x6,vi x7,vi x8,vi x9,vi x10]]) (m48 s0 x1 x2 x3 x4 x5 x6 x7 x8 x9 x10):=⟨by kernel_rfl,by kernel_rfl⟩
def AZ (x3 x10:Int):Int:=max 0 (i64.wrap (x3 - x10))
def AB (x3 x9:Int):Int:=i64.wrap (x3 - x9)
def zo (x3 x6:Int):Int:=cQ x6 x3
def AM (x3 x7:Int):Int:=da x7 x3
def AN (x3 x8:Int):Int:=i64.wrap (x8 * x3)
def AP (x3 x9:Int):Bool:=decide (x3 < x9)
def R48 (s0:ByteArray) (x1 x2 x3 x4 x5 x6 x7 x8 x9 x10:Int):V:=.agg [.int i64 (x1),.int i64 (x2),.int i64 (x3),.int i64 (AZ x3 x10),.int i64 (AB x3 x9),.int i64 (zo x3 x6),.int i64 (AM x3 x7),.int i64 (AN x3 x8),.bool (AP x3 x9)]
theorem Pc (s0:ByteArray) (x1 x2 x3 x4 x5 x6 x7 x8 x9 x10:Int):evR noE (m48 s0 x1 x2 x3 x4 x5 x6 x7 x8 x9 x10) (R48 s0 x1 x2 x3 x4 x5 x6 x7 x8 x9 x10):=evObc (evObt (evRet (by unfold R48 AZ AB zo AM AN AP; rfl)))
def C48:aJ:=mkC [.agg tyC,.agg tyT] (fun _=>True) fun
 | [.agg [.str s0,.int _ x1,.int _ x2,.int _ x3,.int _ x4,.int _ x5],.agg [.int _ x6,.int _ x7,.int _ x8,.int _ x9,.int _ x10]]=>R48 s0 x1 x2 x3 x4 x5 x6 x7 x8 x9 x10
 | _=>.any
theorem vl:(vP C48).Ok Tryz.prog 48:=mkE mS Tryz.func48 (by kernel_rfl) fun ds hp=>rf0 (Of ..) (Pc _ _ _ _ _ _ _ _ _ _ _)
def Nk (x0 x1 x2 x3 x4 x5 x6 x7:Int) (b8:Bool) (x9 x10 x11:Int):RT Empty:=.obc (.obt (.ret (V.agg [vi (i64.wrap (i64.wrap (x2 * x0)+i64.wrap (x11 * aH x9 x0))),vi (i64.wrap (i64.wrap (x2 * x1)+i64.wrap (x11 * aI x10 x1)))])))
theorem JH (x0 x1 x2 x3 x4 x5 x6 x7:Int) (b8:Bool) (x9 x10 x11:Int):Fit noD (aZ JJ sE u0 PB [V.agg [vi x0,vi x1,vi x2,vi x3,vi x4,vi x5,vi x6,vi x7,V.bool b8],V.agg [vi x9,vi x10],vi x11]) (Nk x0 x1 x2 x3 x4 x5 x6 x7 b8 x9 x10 x11):=⟨by kernel_rfl,by kernel_rfl⟩
def nx (x0 x2 x9 x11:Int):Int:=i64.wrap (i64.wrap (x2 * x0)+i64.wrap (x11 * aH x9 x0))
def nH (x1 x2 x10 x11:Int):Int:=i64.wrap (i64.wrap (x2 * x1)+i64.wrap (x11 * aI x10 x1))
def Io (x0 x1 x2 x3 x4 x5 x6 x7:Int) (b8:Bool) (x9 x10 x11:Int):V:=.agg [.int i64 (nx x0 x2 x9 x11),.int i64 (nH x1 x2 x10 x11)]
theorem Kt (x0 x1 x2 x3 x4 x5 x6 x7:Int) (b8:Bool) (x9 x10 x11:Int):evR noE (Nk x0 x1 x2 x3 x4 x5 x6 x7 b8 x9 x10 x11) (Io x0 x1 x2 x3 x4 x5 x6 x7 b8 x9 x10 x11):=evObc (evObt (evRet (by unfold Io nx nH; rfl)))
def sw:aJ:=mkC [.agg [.int .i64,.int .i64,.int .i64,.int .i64,.int .i64,.int .i64,.int .i64,.int .i64,.bool],.agg tp2,.int .i64] (fun _=>True) fun
 | [.agg [.int _ x0,.int _ x1,.int _ x2,.int _ x3,.int _ x4,.int _ x5,.int _ x6,.int _ x7,.bool b8],.agg [.int _ x9,.int _ x10],.int _ x11]=>Io x0 x1 x2 x3 x4 x5 x6 x7 b8 x9 x10 x11
 | _=>.any
theorem my:(vP sw).Ok Tryz.prog 102:=mkE mS Tryz.func102 (by kernel_rfl) fun ds hp=>rf0 (JH ..) (Kt _ _ _ _ _ _ _ _ _ _ _ _)
end Go.Dx
namespace Go.Dx
open Go.IntKind (i64 u64 u8)
open Go.Sx
theorem bJ {n:Nat} {P:Nat->Prop} (h:∀ i,i<=n->(i < n->P (i+1))->P i):∀ i,i<=n->P i:=by
 have key:∀ k i,i+k=n->P i:=by
  intro k
  induction k with
  | zero=>intro i e; exact h i (by omega) fun h=>by omega
  | succ k ih=>intro i e; exact h i (by omega) fun _=>ih (i+1) (by omega)
 exact fun i hi=>key (n - i) i (by omega)
theorem av {x:Int} (h1:-9223372036854775808<=x) (h2:x<=9223372036854775807):i64.wrap x=x:=IntWalk.i64_in _ (by omega)
theorem ED {i n:Nat} (h:i < n) (hn:n<=9223372036854775807):i64.wrap ((i:Int)+1)=((i+1:Nat):Int):=by
 rw [av (by omega) (by omega)]; omega
theorem Bn {n:Nat} {p:Nat->Bool}:iL n p=true ↔ ∀ i,i < n->p i=true:=⟨fH,iQ⟩
theorem iU {n:Nat} {p:Nat->Bool} (i:Nat) (hi:i < n) (h:p i=false):iL n p=false:=by
 cases hb:iL n p with
 | false=>rfl
 | true=>rw [fH hb i hi] at h; cases h
def yI (p:Nat->Bool):Nat->Nat->Int
 | 0,_=>-1
 | k+1,i=>bif p i then (i:Int) else yI p k (i+1)
def idx (n:Nat) (p:Nat->Bool):Int:=yI p n 0
theorem tk {p:Nat->Bool}:∀ (k i:Nat),(∀ j,i<=j->j < i+k->p j=false)->yI p k i=-1
 | 0,_,_=>rfl
 | k+1,i,h=>by simp only [yI,h i (Nat.le_refl _) (by omega),cond_false]; exact tk k (i+1) fun j h1 h2=>h j (by omega) (by omega)
theorem sK {p:Nat->Bool} {j:Nat} (hj:p j=true):∀ (k i:Nat),i<=j->j < i+k->(∀ l,i<=l->l < j->p l=false)->yI p k i=j
 | 0,i,h1,h2,_=>by omega
 | k+1,i,h1,h2,h=>by
   by_cases e:i=j
   ·subst e; simp only [yI,hj,cond_true]
   ·simp only [yI,h i (Nat.le_refl _) (by omega),cond_false]
    exact sK hj k (i+1) (by omega) (by omega) fun l h3 h4=>h l (by omega) h4
theorem mU {n:Nat} {p:Nat->Bool} (h:∀ j,j < n->p j=false):idx n p=-1:=tk n 0 fun j _ h2=>h j (by omega)
theorem ma {n:Nat} {p:Nat->Bool} {j:Nat} (hj:p j=true) (h1:j < n) (h:∀ l,l < j->p l=false):idx n p=j:=sK hj n 0 (by omega) (by omega) fun l _ h4=>h l h4
theorem EE {n:Nat} {p:Nat->Bool}:(idx n p=-1/\∀ j,j < n->p j=false) ∨ ∃ j,j < n/\idx n p=(j:Int)/\p j=true/\∀ l,l < j->p l=false:=by
 by_cases h:∀ j,j < n->p j=false
 ·exact .inl ⟨mU h,h⟩
 ·right
  have:∃ j,j < n/\p j=true:=by
   simp only [Classical.not_forall] at h
   obtain ⟨j,hj,hp⟩:=h
   exact ⟨j,hj,by simpa using hp⟩
  have key:∀ m,(∃ j,j < m/\j < n/\p j=true)->∃ j,j < n/\p j=true/\∀ l,l < j->p l=false:=by
   intro m
   induction m with
   | zero=>rintro ⟨j,hj,_⟩; omega
   | succ m ih =>
     rintro ⟨j,hj,hn,hp⟩
     by_cases hm:∃ j,j < m/\j < n/\p j=true
     ·exact ih hm
     ·refine ⟨j,hn,hp,fun l hl=>?_⟩
      cases hb:p l with
      | false=>rfl
      | true=>exact (hm ⟨l,by omega,by omega,hb⟩).elim
  obtain ⟨j,hj,hp⟩:=this
  obtain ⟨j,h1,h2,h3⟩:=key n ⟨j,hj,hj,hp⟩
  exact ⟨j,h1,ma h2 h1 h3,h2,h3⟩
def exB (n:Nat) (p:Nat->Bool):Bool:=!iL n fun i=>!p i
theorem ko {n:Nat} {p:Nat->Bool}:decide (0<=idx n p)=exB n p:=by
 rcases EE (n:=n) (p:=p) with ⟨h1,h2⟩ | ⟨j,h1,h2,h3,_⟩
 ·rw [h1]; unfold exB; rw [iQ fun i hi=>by rw [h2 i hi]; rfl]; rfl
 ·rw [h2]; unfold exB; rw [iU j h1 (by rw [h3]; rfl)]; simp
section
variable {S:Type} {step:S->RT S} {r:V}
theorem Ev.st {s:S} (h0:cE (step s)=true) (h:evR (Ev step) (step s) r):Ev step s r:=Ev.of h0 h
end
end Go.Dx
namespace Go.Dx
open Go.IntKind (i64 u64 u8)
open Go.Sx
section
variable {S:Type} {step:S->RT S}
theorem kQ {L : Int -> S} {n:Nat} {p:Nat->Bool} (hn:n<=9223372036854775807)
 (hst:∀ i:Nat,step (L i)=.br (decide ((i:Int) < (n:Int))) (.ob (decide (0<=(i:Int)/\(i:Int) < (n:Int))) (.obc (.obt (.br (p i) (.ret (.int .i64 i)) (.next [] (L (i64.wrap ((i:Int)+1))) []))))) (.ret (.int .i64 (-1)))) :
 Ev step (L 0) (.int .i64 (idx n p)):=by
 have key := bJ (n := n) (P:=fun i=>(∀ j,j < i->p j=false)->Ev step (L i) (.int .i64 (idx n p))) fun i hi ih hj=>by
  refine Ev.of (by rw [hst]; rfl) ?_
  rw [hst]
  refine aC (fun h=>?_) (fun h=>?_)
  ·have hlt:i < n:=by simpa using h
   refine ar (by simpa using hlt) (evObc (evObt (aC (fun hb=>evRet ?_) (fun hb=>aL ?_))))
   ·rw [ma hb hlt hj]
   ·rw [ED hlt hn]
    exact ih hlt fun j h1=>by
     by_cases e:j=i
     ·subst e; exact hb
     ·exact hj j (by omega)
  ·have : i = n := by have:¬ i < n:=by simpa using h
                      omega
   subst this
   refine evRet ?_
   rw [mU hj]
 exact key 0 (Nat.zero_le _) fun j hj=>by omega
end
end Go.Dx
namespace Go.Dx
open Go.IntKind (i64 u64 u8)
open Go.Sx
theorem ru {n:Nat} (hn:n<=9223372036854775807) (p:Nat->Bool) {P:Int->Prop} (hstep:∀ i:Nat,i < n->(∀ j,j < i->p j=false)->(p i=false->P (i64.wrap ((i:Int)+1)))->P i) (hend:(∀ j,j < n->p j=false)->P n):P 0:=by
 have key:=bJ (n:=n) (P:=fun i=>(∀ j,j < i->p j=false)->P i) fun i hi ih hj=>by
  by_cases hlt:i < n
  ·refine hstep i hlt hj fun hp=>?_
   rw [ED hlt hn]
   exact ih hlt fun j h1=>by
    by_cases e:j=i
    ·subst e; exact hp
    ·exact hj j (by omega)
  ·have:i=n:=by omega
   subst this; exact hend hj
 exact key 0 (Nat.zero_le _) fun j hj=>by omega
section
variable {S:Type} {Nx:S->V->Prop} {r:V} {x y:RT S} {i n:Nat}
theorem im (h:i < n) (hx:evR Nx x r):evR Nx (.br (decide ((i:Int) < (n:Int))) x y) r:=⟨fun _=>hx,fun k=>by have:=of_decide_eq_false k; omega⟩
theorem eC (hy:evR Nx y r):evR Nx (.br (decide ((n:Int) < (n:Int))) x y) r:=⟨(fun k=>by have:=of_decide_eq_true k; omega),fun _=>hy⟩
theorem ig (h:i < n) (hx:evR Nx x r):evR Nx (.ob (decide (0<=(i:Int)/\(i:Int) < (n:Int))) x) r:=⟨decide_eq_true (by omega),hx⟩
theorem zR {c:Bool} (h:i < n) (hx:evR Nx x r):evR Nx (.obj c (decide (0<=(i:Int)/\(i:Int) < (n:Int))) x) r:=⟨fun _=>decide_eq_true (by omega),hx⟩
theorem dT {b:Bool} (h:b=true) (hx:evR Nx x r):evR Nx (.br b x y) r:=⟨fun _=>hx,fun k=>by rw [h] at k; cases k⟩
theorem dF {b:Bool} (h:b=false) (hy:evR Nx y r):evR Nx (.br b x y) r:=⟨(fun k=>by rw [h] at k; cases k),fun _=>hy⟩
end
end Go.Dx
namespace Go.Dx
open Go.IntKind (i64 u64 u8)
theorem bz {n:Nat} {p:Nat->Bool} (i:Nat) (hi:i < n) (h:p i=true):exB n p=true:=by
 unfold exB; rw [iU i hi (by rw [h]; rfl)]; rfl
theorem bG {n:Nat} {p:Nat->Bool} (h:∀ i,i < n->p i=false):exB n p=false:=by
 unfold exB; rw [iQ fun i hi=>by rw [h i hi]; rfl]; rfl
theorem uo {n:Nat} {p:Nat->Bool}:exB n p=true ↔ ∃ i,i < n/\p i=true:=by
 constructor
 ·intro h
  apply Classical.byContradiction
  intro hn
  rw [bG fun i hi=>by
   cases hp:p i with
   | false=>rfl
   | true=>exact (hn ⟨i,hi,hp⟩).elim] at h
  cases h
 ·rintro ⟨i,hi,h⟩; exact bz i hi h
end Go.Dx
namespace Go.Dx
open Go.IntKind (i64 u64 u8)
open Go.Sx
def eK (n:Nat) (c:Nat->Int):Int:=bif idx n (fun i=>c i != 0) == -1 then 0 else idx n fun i=>c i != 0
def cL (n:Nat) (c:Nat->Int):Int:=bif idx n (fun i=>c i != 0) == -1 then 0 else c (idx n fun i=>c i != 0).toNat
theorem lm {n:Nat} {c:Nat->Int} (h:∀ j,j < n->(c j != 0)=false):eK n c=0/\cL n c=0:=by
 unfold eK cL; rw [mU h]; exact ⟨rfl,rfl⟩
theorem lk {n:Nat} {c:Nat->Int} {i:Nat} (hi:i < n) (hc:(c i != 0)=true) (h:∀ j,j < i->(c j != 0)=false):eK n c=i/\cL n c=c i:=by
 unfold eK cL; rw [ma hc hi h]
 have:((i:Int) == -1)=false:=by rw [beq_eq_false_iff_ne]; omega
 rw [this]; exact ⟨rfl,rfl⟩
section
variable {S:Type} {step:S->RT S}
theorem mL {L:Int->S} {n:Nat} {c:Nat->Int} {Q:Nat->Prop} {ρ:Rho} (W:Nat->RT S->RT S) (hW:∀ i x r,Q i->evR (Ev step) x r->evR (Ev step) (W i x) r) (hWn:∀ i x,cE (W i x)=cE x) (hn:n<=9223372036854775807) (hQ:∀ i,i < n->Q i)
 (hst:∀ i:Nat,step (L i)=.br (decide ((i:Int) < (n:Int))) (.ob (decide (0<=(i:Int)/\(i:Int) < (n:Int))) (.ob (decide (0<=(i:Int)/\(i:Int)<=(n:Int))) (W i (.br (c i != 0) (.ret (.tup [.int .i64 i,.int .i64 (c i)])) (.next ρ (L (i64.wrap ((i:Int)+1))) []))))) (.ret (.tup [.int .i64 0,.int .i64 0]))) :
 Ev step (L 0) (.tup [.int .i64 (eK n c),.int .i64 (cL n c)]) :=
 ru hn (fun i=>c i != 0) (P:=fun i=>Ev step (L i) (.tup [.int .i64 (eK n c),.int .i64 (cL n c)])) (fun i hlt hj next=>Ev.of (by rw [hst]; simp only [cE,hWn,Bool.and_self]) (by
  rw [hst]
  refine im hlt (ig hlt (ar (decide_eq_true (by omega)) (hW i _ _ (hQ i hlt) (aC (fun hb=>evRet ?_) (fun hb=>aL (next hb))))))
  rw [(lk hlt hb hj).1,(lk hlt hb hj).2])) (fun hj=>Ev.of (by rw [hst]; simp only [cE,hWn,Bool.and_self]) (by
  rw [hst]
  refine eC (evRet ?_)
  rw [(lm hj).1,(lm hj).2]))
end
def bc (n:Nat) (f:Nat->List V):Prop:=∀ i,i < n->(sv (hdV (f i))).size<=9223372036854775807
end Go.Dx
namespace Go.Dx
open Go.IntKind (i64 u64 u8)
theorem ng {b:Bool} (h:(!!b)=true):(!b)=false:=by cases b <;> first | rfl | cases h
theorem ng' {b:Bool} (h:(!!b)=false):(!b)=true:=by cases b <;> first | rfl | cases h
end Go.Dx
namespace Go.Dx
open Go.IntKind (i64 u64 u8)
open Go.Sx Go.Proofs
def BT:aX:=(134,.con rL)::(135,.con sB)::(137,.con sC)::(138,.con rS)::(78,.con C78)::(54,.con C54)::(48,.con C48)::(102,.con sw)::sE
theorem v8:aW Tryz.prog eqs its BT:=.con mu (.con lG (.con lJ (.con mJ (.con uD (.con tS (.con vl (.con my (mS))))))))
def Nc (x0 x1 x2 x3 x4 x5 x6:Int):RT Empty:=.obc (.obt (.obc (.obt (.obc (.obt (.obc (.obt (.br (decide (cP (aH x4 x0) (aI x5 x1) (aH x2 x0) (aI x3 x1)<=0)) (.obc (.obt (.ret (V.bool (decide (cP (aH x4 x0) (aI x5 x1) (aH x4 x0) (aI x5 x1)<=i64.wrap (x6 * x6))))))) (.br (decide (cP (aH x2 x0) (aI x3 x1) (aH x2 x0) (aI x3 x1)<=cP (aH x4 x0) (aI x5 x1) (aH x2 x0) (aI x3 x1))) (.obc (.obt (.obc (.obt (.ret (V.bool (decide (cP (aH x4 x2) (aI x5 x3) (aH x4 x2) (aI x5 x3)<=i64.wrap (x6 * x6))))))))) (.obc (.obt (.obc (.obt (.obc (.obt (.obc (.obt (.ret (V.bool (nD (i6 (max (cI (aH x2 x0) (aI x3 x1) (aH x4 x0) (aI x5 x1)) (i64.wrap (0 - cI (aH x2 x0) (aI x3 x1) (aH x4 x0) (aI x5 x1)))) (max (cI (aH x2 x0) (aI x3 x1) (aH x4 x0) (aI x5 x1)) (i64.wrap (0 - cI (aH x2 x0) (aI x3 x1) (aH x4 x0) (aI x5 x1))))) (jd (max (cI (aH x2 x0) (aI x3 x1) (aH x4 x0) (aI x5 x1)) (i64.wrap (0 - cI (aH x2 x0) (aI x3 x1) (aH x4 x0) (aI x5 x1)))) (max (cI (aH x2 x0) (aI x3 x1) (aH x4 x0) (aI x5 x1)) (i64.wrap (0 - cI (aH x2 x0) (aI x3 x1) (aH x4 x0) (aI x5 x1))))) (i6 (i64.wrap (x6 * x6)) (cP (aH x2 x0) (aI x3 x1) (aH x2 x0) (aI x3 x1))) (jd (i64.wrap (x6 * x6)) (cP (aH x2 x0) (aI x3 x1) (aH x2 x0) (aI x3 x1)))))))))))))))))))))))
theorem Jv (x0 x1 x2 x3 x4 x5 x6:Int):Fit noD (aZ JJ BT u0 Rt [V.agg [vi x0,vi x1,vi x2,vi x3],V.agg [vi x4,vi x5],vi x6]) (Nc x0 x1 x2 x3 x4 x5 x6):=⟨by kernel_rfl,by kernel_rfl⟩
def fX (x0 x1 x2 x3 x4 x5 x6:Int):Bool:=bif decide (cP (aH x4 x0) (aI x5 x1) (aH x2 x0) (aI x3 x1)<=0) then decide (cP (aH x4 x0) (aI x5 x1) (aH x4 x0) (aI x5 x1)<=i64.wrap (x6 * x6)) else bif decide (cP (aH x2 x0) (aI x3 x1) (aH x2 x0) (aI x3 x1)<=cP (aH x4 x0) (aI x5 x1) (aH x2 x0) (aI x3 x1)) then decide (cP (aH x4 x2) (aI x5 x3) (aH x4 x2) (aI x5 x3)<=i64.wrap (x6 * x6)) else nD (i6 (max (cI (aH x2 x0) (aI x3 x1) (aH x4 x0) (aI x5 x1)) (i64.wrap (0 - cI (aH x2 x0) (aI x3 x1) (aH x4 x0) (aI x5 x1)))) (max (cI (aH x2 x0) (aI x3 x1) (aH x4 x0) (aI x5 x1)) (i64.wrap (0 - cI (aH x2 x0) (aI x3 x1) (aH x4 x0) (aI x5 x1))))) (jd (max (cI (aH x2 x0) (aI x3 x1) (aH x4 x0) (aI x5 x1)) (i64.wrap (0 - cI (aH x2 x0) (aI x3 x1) (aH x4 x0) (aI x5 x1)))) (max (cI (aH x2 x0) (aI x3 x1) (aH x4 x0) (aI x5 x1)) (i64.wrap (0 - cI (aH x2 x0) (aI x3 x1) (aH x4 x0) (aI x5 x1))))) (i6 (i64.wrap (x6 * x6)) (cP (aH x2 x0) (aI x3 x1) (aH x2 x0) (aI x3 x1))) (jd (i64.wrap (x6 * x6)) (cP (aH x2 x0) (aI x3 x1) (aH x2 x0) (aI x3 x1)))
def Dg (x0 x1 x2 x3 x4 x5 x6:Int):V:=.bool (fX x0 x1 x2 x3 x4 x5 x6)
theorem Oa (x0 x1 x2 x3 x4 x5 x6:Int):evR noE (Nc x0 x1 x2 x3 x4 x5 x6) (Dg x0 x1 x2 x3 x4 x5 x6):=evObc (evObt (evObc (evObt (evObc (evObt (evObc (evObt (aC (fun h0=>evObc (evObt (evRet (by unfold Dg fX; try rw [h0]; rfl)))) (fun h0=>aC (fun h1=>evObc (evObt (evObc (evObt (evRet (by unfold Dg fX; try rw [h0]; try rw [h1]; rfl)))))) (fun h1=>evObc (evObt (evObc (evObt (evObc (evObt (evObc (evObt (evRet (by unfold Dg fX; try rw [h0]; try rw [h1]; rfl)))))))))))))))))))
def sg:aJ:=mkC [.agg tp4,.agg tp2,.int .i64] (fun _=>True) fun
 | [.agg [.int _ x0,.int _ x1,.int _ x2,.int _ x3],.agg [.int _ x4,.int _ x5],.int _ x6]=>Dg x0 x1 x2 x3 x4 x5 x6
 | _=>.any
theorem lL:(vP sg).Ok Tryz.prog 103:=mkE v8 Tryz.func103 (by kernel_rfl) fun ds hp=>rf0 (Jv ..) (Oa _ _ _ _ _ _ _)
def LR (x0 x1 x2 x3 x4 x5 x6:Int):RT Empty:=.obc (.obt (.obc (.obt (.obc (.obt (.br (decide (dI (aN x0 x2) (aM x1 x3) (aN x4 x2) (aM x5 x3)<=0)) (.obc (.obt (.ret (V.bool (decide (dI (aN x0 x2) (aM x1 x3) (aN x0 x2) (aM x1 x3)<=i64.wrap (x6 * x6))))))) (.obc (.obt (.obc (.obt (.br (decide (dI (aN x4 x2) (aM x5 x3) (aN x4 x2) (aM x5 x3)<=dI (aN x0 x2) (aM x1 x3) (aN x4 x2) (aM x5 x3))) (.obc (.obt (.obc (.obt (.ret (V.bool (decide (dI (aN x0 x4) (aM x1 x5) (aN x0 x4) (aM x1 x5)<=i64.wrap (x6 * x6))))))))) (.obc (.obt (.obc (.obt (.obc (.obt (.obc (.obt (.obc (.obt (.obc (.obt (.ret (V.bool !ox (g8 (ga (eE (aN x4 x2) (aM x5 x3) (aN x0 x2) (aM x1 x3))) (ga (eE (aN x4 x2) (aM x5 x3) (aN x0 x2) (aM x1 x3)))) (ik (ga (eE (aN x4 x2) (aM x5 x3) (aN x0 x2) (aM x1 x3))) (ga (eE (aN x4 x2) (aM x5 x3) (aN x0 x2) (aM x1 x3)))) (g8 (i64.wrap (x6 * x6)) (dI (aN x4 x2) (aM x5 x3) (aN x4 x2) (aM x5 x3))) (ik (i64.wrap (x6 * x6)) (dI (aN x4 x2) (aM x5 x3) (aN x4 x2) (aM x5 x3))))))))))))))))))))))))))))
theorem HP (x0 x1 x2 x3 x4 x5 x6:Int):Fit noD (aZ JJ BT u0 QZ [V.agg [vi x0,vi x1],V.agg [vi x2,vi x3],V.agg [vi x4,vi x5],vi x6]) (LR x0 x1 x2 x3 x4 x5 x6):=⟨by kernel_rfl,by kernel_rfl⟩
def gY (x0 x1 x2 x3 x4 x5 x6:Int):Bool:=bif decide (dI (aN x0 x2) (aM x1 x3) (aN x4 x2) (aM x5 x3)<=0) then decide (dI (aN x0 x2) (aM x1 x3) (aN x0 x2) (aM x1 x3)<=i64.wrap (x6 * x6)) else bif decide (dI (aN x4 x2) (aM x5 x3) (aN x4 x2) (aM x5 x3)<=dI (aN x0 x2) (aM x1 x3) (aN x4 x2) (aM x5 x3)) then decide (dI (aN x0 x4) (aM x1 x5) (aN x0 x4) (aM x1 x5)<=i64.wrap (x6 * x6)) else !ox (g8 (ga (eE (aN x4 x2) (aM x5 x3) (aN x0 x2) (aM x1 x3))) (ga (eE (aN x4 x2) (aM x5 x3) (aN x0 x2) (aM x1 x3)))) (ik (ga (eE (aN x4 x2) (aM x5 x3) (aN x0 x2) (aM x1 x3))) (ga (eE (aN x4 x2) (aM x5 x3) (aN x0 x2) (aM x1 x3)))) (g8 (i64.wrap (x6 * x6)) (dI (aN x4 x2) (aM x5 x3) (aN x4 x2) (aM x5 x3))) (ik (i64.wrap (x6 * x6)) (dI (aN x4 x2) (aM x5 x3) (aN x4 x2) (aM x5 x3)))
def EN (x0 x1 x2 x3 x4 x5 x6:Int):V:=.bool (gY x0 x1 x2 x3 x4 x5 x6)
theorem Nv (x0 x1 x2 x3 x4 x5 x6:Int):evR noE (LR x0 x1 x2 x3 x4 x5 x6) (EN x0 x1 x2 x3 x4 x5 x6):=evObc (evObt (evObc (evObt (evObc (evObt (aC (fun h0=>evObc (evObt (evRet (by unfold EN gY; try rw [h0]; rfl)))) (fun h0=>evObc (evObt (evObc (evObt (aC (fun h1=>evObc (evObt (evObc (evObt (evRet (by unfold EN gY; try rw [h0]; try rw [h1]; rfl)))))) (fun h1=>evObc (evObt (evObc (evObt (evObc (evObt (evObc (evObt (evObc (evObt (evObc (evObt (evRet (by unfold EN gY; try rw [h0]; try rw [h1]; rfl)))))))))))))))))))))))))
def sk:aJ:=mkC [.agg tp2,.agg tp2,.agg tp2,.int .i64] (fun _=>True) fun
 | [.agg [.int _ x0,.int _ x1],.agg [.int _ x2,.int _ x3],.agg [.int _ x4,.int _ x5],.int _ x6]=>EN x0 x1 x2 x3 x4 x5 x6
 | _=>.any
theorem lV:(vP sk).Ok Tryz.prog 106:=mkE v8 Tryz.func106 (by kernel_rfl) fun ds hp=>rf0 (HP ..) (Nv _ _ _ _ _ _ _)
def JR (x0 x1 x2 x3 x4 x5 x6 x7:Int):Bool:=bif !eE (aN x4 x2) (aM x5 x3) (aN x6 x2) (aM x7 x3) == 0 then bif bif bif decide (0<=oB (eE (aN x4 x2) (aM x5 x3) (aN x0 x2) (aM x1 x3))) then decide (0<=oB (eE (aN x6 x4) (aM x7 x5) (aN x0 x4) (aM x1 x5))) else false then decide (0<=oB (eE (aN x2 x6) (aM x3 x7) (aN x0 x6) (aM x1 x7))) else false then true else bif bif decide (oB (eE (aN x4 x2) (aM x5 x3) (aN x0 x2) (aM x1 x3))<=0) then decide (oB (eE (aN x6 x4) (aM x7 x5) (aN x0 x4) (aM x1 x5))<=0) else false then decide (oB (eE (aN x2 x6) (aM x3 x7) (aN x0 x6) (aM x1 x7))<=0) else false else false
def Ku (x0:Int):RT Empty:=.obc (.obt (.ret (V.bool (aT x0 (-100000) 100000))))
theorem HH (x0:Int):Fit noD (aZ JJ BT u0 Po [vi x0]) (Ku x0):=⟨by kernel_rfl,by kernel_rfl⟩
def vj (x0:Int):Bool:=aT x0 (-100000) 100000
def Hl (x0:Int):V:=.bool (vj x0)
theorem LU (x0:Int):evR noE (Ku x0) (Hl x0):=evObc (evObt (evRet (by unfold Hl vj; rfl)))
def sj:aJ:=mkC tp1 (fun _=>True) fun
 | [.int _ x0]=>Hl x0
 | _=>.any
theorem mX:(vP sj).Ok Tryz.prog 100:=mkE v8 Tryz.func100 (by kernel_rfl) fun ds hp=>rf0 (HH ..) (LU _)
def Nr (s0:ByteArray) (x1:Int) (n2:Nat) (f2:FnV) (x4 x5:Int):RT Empty:=.ob (decide (0<=x5/\x5 < (↑n2:Int))) (.obt (.ob (decide (0<=x5/\x5 < (↑n2:Int))) (.obt (.obc (.obt (.ob (decide (0<=i64.wrap (x5+1)/\i64.wrap (x5+1) < (↑n2:Int))) (.obt (.ob (decide (0<=i64.wrap (x5+1)/\i64.wrap (x5+1) < (↑n2:Int))) (.obt (.obc (.obt (.ret (V.tup [V.agg [vi (fw (jv0 (f2 x5.toNat))),vi (fp (jv1 (f2 x5.toNat)))],V.agg [vi (fw (jv0 (f2 (i64.wrap (x5+1)).toNat))),vi (fp (jv1 (f2 (i64.wrap (x5+1)).toNat)))]])))))))))))))
theorem I8 (s0:ByteArray) (x1:Int) (n2:Nat) (f2:FnV) (x4 x5:Int):Fit noD (aZ JJ BT u0 Pf [V.agg [V.str s0,vi x1,V.sl n2 (elV tp2 f2),vi x4],vi x5]) (Nr s0 x1 n2 f2 x4 x5):=⟨by kernel_rfl,by kernel_rfl⟩
def qF (f2:FnV) (x5:Int):Int:=fw (jv0 (f2 x5.toNat))
def rr (f2:FnV) (x5:Int):Int:=fp (jv1 (f2 x5.toNat))
def p8 (f2:FnV) (x5:Int):Int:=fw (jv0 (f2 (i64.wrap (x5+1)).toNat))
def qS (f2:FnV) (x5:Int):Int:=fp (jv1 (f2 (i64.wrap (x5+1)).toNat))
def I5 (s0:ByteArray) (x1:Int) (n2:Nat) (f2:FnV) (x4 x5:Int):V:=.tup [.agg [.int i64 (qF f2 x5),.int i64 (rr f2 x5)],.agg [.int i64 (p8 f2 x5),.int i64 (qS f2 x5)]]
theorem LQ (s0:ByteArray) (x1:Int) (n2:Nat) (f2:FnV) (x4 x5:Int) (hp:0<=x5/\i64.wrap (x5+1)=x5+1/\x5+1 < n2):evR noE (Nr s0 x1 n2 f2 x4 x5) (I5 s0 x1 n2 f2 x4 x5):=ar (by first | assumption | (simp only [hp.2.1,decide_eq_true_eq]; omega)) (evObt (ar (by first | assumption | (simp only [hp.2.1,decide_eq_true_eq]; omega)) (evObt (evObc (evObt (ar (by first | assumption | (simp only [hp.2.1,decide_eq_true_eq]; omega)) (evObt (ar (by first | assumption | (simp only [hp.2.1,decide_eq_true_eq]; omega)) (evObt (evObc (evObt (evRet (by unfold I5 qF rr p8 qS; rfl)))))))))))))
def rJ:aJ:=mkC [.agg tyR,.int .i64] (fun
 | [.agg [.str s0,.int _ x1,.sl n2 f2,.int _ x4],.int _ x5]=>0<=x5/\i64.wrap (x5+1)=x5+1/\x5+1 < n2
 | _=>False) fun
 | [.agg [.str s0,.int _ x1,.sl n2 f2,.int _ x4],.int _ x5]=>I5 s0 x1 n2 f2 x4 x5
 | _=>.any
theorem mn:(vP rJ).Ok Tryz.prog 150:=mkE v8 Tryz.func150 (by kernel_rfl) fun ds hp=>rf0 (I8 ..) (LQ _ _ _ _ _ _ hp)
def uF:aX:=(103,.con sg)::(106,.con sk)::(100,.con sj)::(150,.con rJ)::BT
theorem td:aW Tryz.prog eqs its uF:=.con lL (.con lV (.con mX (.con mn (v8))))
def ML (s0:ByteArray) (x1:Int) (n2:Nat) (f2:FnV) (x4:Int) (s5:ByteArray) (x6:Int) (n7:Nat) (f7:FnV) (x9:Int):RT Empty:=.ret (V.bool (s0.toList == s5.toList))
theorem HY (s0:ByteArray) (x1:Int) (n2:Nat) (f2:FnV) (x4:Int) (s5:ByteArray) (x6:Int) (n7:Nat) (f7:FnV) (x9:Int):Fit noD (aZ JJ uF u0 RF [V.agg [V.str s0,vi x1,V.sl n2 (elV tp2 f2),vi x4],V.pd [V.str s5,vi x6,V.sl n7 (elV tp2 f7),vi x9]]) (ML s0 x1 n2 f2 x4 s5 x6 n7 f7 x9):=⟨by kernel_rfl,by kernel_rfl⟩
def uK (s0:ByteArray) (s5:ByteArray):Bool:=s0.toList == s5.toList
def IU (s0:ByteArray) (x1:Int) (n2:Nat) (f2:FnV) (x4:Int) (s5:ByteArray) (x6:Int) (n7:Nat) (f7:FnV) (x9:Int):V:=.bool (uK s0 s5)
theorem NE (s0:ByteArray) (x1:Int) (n2:Nat) (f2:FnV) (x4:Int) (s5:ByteArray) (x6:Int) (n7:Nat) (f7:FnV) (x9:Int):evR noE (ML s0 x1 n2 f2 x4 s5 x6 n7 f7 x9) (IU s0 x1 n2 f2 x4 s5 x6 n7 f7 x9):=evRet (by unfold IU uK; rfl)
def rY:aJ:=mkC [.agg tyR,.pd tyR] (fun _=>True) fun
 | [.agg [.str s0,.int _ x1,.sl n2 f2,.int _ x4],.pd [.str s5,.int _ x6,.sl n7 f7,.int _ x9]]=>IU s0 x1 n2 f2 x4 s5 x6 n7 f7 x9
 | _=>.any
theorem mj:(vP rY).Ok Tryz.prog 112:=mkE td Tryz.func112 (by kernel_rfl) fun ds hp=>rf0 (HY ..) (NE _ _ _ _ _ _ _ _ _ _)
def LN (x0 x1 x2 x3:Int):RT Empty:=.obc (.obt (.obi (.obi (.obi (.br (!aT x1 1 1000) (.ob (!aT x1 1 1000) (.ob (!aT x1 1 1000) (.obc (.obt (.obi (.br (!aT x0 0 (i64.wrap (x1 - 1))) (.ob (!aT x0 0 (i64.wrap (x1 - 1))) (.obc (.obt (.obi (.obi (.obi (.br (!aT x3 1 1000) (.ob (!aT x3 1 1000) (.ob (!aT x3 1 1000) (.obc (.obt (.ret (V.bool (aT x2 0 (i64.wrap (x3 - 1))))))))) (.ret (V.kb true))))))))) (.ret (V.kb true)))))))) (.ret (V.kb true)))))))
theorem Iu (x0 x1 x2 x3:Int):Fit noD (aZ JJ uF u0 Rv [V.agg [vi x0,vi x1,vi x2,vi x3]]) (LN x0 x1 x2 x3):=⟨by kernel_rfl,by kernel_rfl⟩
def ia (x0 x1 x2 x3:Int):Bool:=bif !aT x1 1 1000 then bif !aT x0 0 (i64.wrap (x1 - 1)) then bif !aT x3 1 1000 then aT x2 0 (i64.wrap (x3 - 1)) else true else true else true
def B2 (x0 x1 x2 x3:Int):V:=.bool (ia x0 x1 x2 x3)
theorem Lv (x0 x1 x2 x3:Int):evR noE (LN x0 x1 x2 x3) (B2 x0 x1 x2 x3):=evObc (evObt (ae (ae (ae (aC (fun h0=>ar (by first | assumption | (fail)) (ar (by first | assumption | (fail)) (evObc (evObt (ae (aC (fun h1=>ar (by first | assumption | (fail)) (evObc (evObt (ae (ae (ae (aC (fun h2=>ar (by first | assumption | (fail)) (ar (by first | assumption | (fail)) (evObc (evObt (evRet (by unfold B2 ia; try rw [h0]; try rw [h1]; try rw [h2]; rfl)))))) (fun h2=>evRet (by unfold B2 ia; try rw [h0]; try rw [h1]; try rw [h2]; rfl))))))))) (fun h1=>evRet (by unfold B2 ia; try rw [h0]; try rw [h1]; rfl)))))))) (fun h0=>evRet (by unfold B2 ia; try rw [h0]; rfl)))))))
def rQ:aJ:=mkC [.agg tp4] (fun _=>True) fun
 | [.agg [.int _ x0,.int _ x1,.int _ x2,.int _ x3]]=>B2 x0 x1 x2 x3
 | _=>.any
theorem mH:(vP rQ).Ok Tryz.prog 118:=mkE td Tryz.func118 (by kernel_rfl) fun ds hp=>rf0 (Iu ..) (Lv _ _ _ _)
def M9 (s0:ByteArray) (x1 x2 x3 x4 x5:Int) (s6:ByteArray) (x7 x8 x9 x10 x11:Int):RT Empty:=.ret (V.bool (s0.toList == s6.toList))
theorem IH (s0:ByteArray) (x1 x2 x3 x4 x5:Int) (s6:ByteArray) (x7 x8 x9 x10 x11:Int):Fit noD (aZ JJ uF u0 Pi [V.agg [V.str s0,vi x1,vi x2,vi x3,vi x4,vi x5],V.pd [V.str s6,vi x7,vi x8,vi x9,vi x10,vi x11]]) (M9 s0 x1 x2 x3 x4 x5 s6 x7 x8 x9 x10 x11):=⟨by kernel_rfl,by kernel_rfl⟩
def tT (s0:ByteArray) (s6:ByteArray):Bool:=s0.toList == s6.toList
def JB (s0:ByteArray) (x1 x2 x3 x4 x5:Int) (s6:ByteArray) (x7 x8 x9 x10 x11:Int):V:=.bool (tT s0 s6)
theorem NP (s0:ByteArray) (x1 x2 x3 x4 x5:Int) (s6:ByteArray) (x7 x8 x9 x10 x11:Int):evR noE (M9 s0 x1 x2 x3 x4 x5 s6 x7 x8 x9 x10 x11) (JB s0 x1 x2 x3 x4 x5 s6 x7 x8 x9 x10 x11):=evRet (by unfold JB tT; rfl)
def sF:aJ:=mkC [.agg tyC,.pd tyC] (fun _=>True) fun
 | [.agg [.str s0,.int _ x1,.int _ x2,.int _ x3,.int _ x4,.int _ x5],.pd [.str s6,.int _ x7,.int _ x8,.int _ x9,.int _ x10,.int _ x11]]=>JB s0 x1 x2 x3 x4 x5 s6 x7 x8 x9 x10 x11
 | _=>.any
theorem mF:(vP sF).Ok Tryz.prog 120:=mkE td Tryz.func120 (by kernel_rfl) fun ds hp=>rf0 (IH ..) (NP _ _ _ _ _ _ _ _ _ _ _ _)
inductive S51 where
 | L0 (ia0:Int)
def NI (n0:Nat) (f0:FnV):S51->Env × List O × Option Ex
 | .L0 ia0=>([(3,vi ia0),(2,V.kb false),(0,V.sl n0 (elV tp1 f0))],[],none)
def PL:S51->JJ
 | .L0 ia0=>(0,[])
def NY (n0:Nat) (f0:FnV):T (bF JJ):=aZ JJ uF u0 s51 [V.sl n0 (elV tp1 f0)]
def Dn (n0:Nat) (f0:FnV) (cx:List Cx):Lp JJ:=lpT (atT (NY n0 f0) [])
def PV (n0:Nat) (f0:FnV):JJ->Lp JJ
 | (0,cx)=>Dn n0 f0 cx
 | (_,cx)=>Dn n0 f0 cx
def D51 (n0:Nat) (f0:FnV):LD JJ S51:=⟨PL,PV n0 f0,NI n0 f0⟩
def Fs (n0:Nat) (f0:FnV):S51->RT S51
 | .L0 ia0=>.asm (true=true->n0<=9223372036854775807) (.br (decide (ia0 < (↑n0:Int))) (.ob (decide (0<=ia0/\ia0 < (↑n0:Int))) (.obc (.obt (.br (!bR (jv0 (f0 ia0.toNat)) (-100000) 100000) (.ret (V.kb false)) (.next [] (S51.L0 (i64.wrap (ia0+1))) []))))) (.ret (V.kb true)))
def m51 (n0:Nat) (f0:FnV):RT S51:=.enter [] (S51.L0 (0)) []
theorem Lf (n0:Nat) (f0:FnV):ep uF u0 (D51 n0 f0) (NY n0 f0) (m51 n0 f0) (Fs n0 f0):=⟨⟨by kernel_rfl,by kernel_rfl⟩,fun s=>by cases s <;> exact ⟨by kernel_rfl,by kernel_rfl⟩⟩
def F51 (n0:Nat) (f0:FnV):Bool:=iL n0 fun i=>bR (jv0 (f0 i)) (-100000) 100000
theorem Iq0 (n0:Nat) (f0:FnV):evR (Ev (Fs n0 f0)) (m51 n0 f0) (.bool (F51 n0 f0)):=by
 refine aG ?_
 have key:=bJ (n:=n0) (P:=fun i=>(∀ j,j < i->bR (jv0 (f0 j)) (-100000) 100000=true)->Ev (Fs n0 f0) (.L0 i) (.bool (F51 n0 f0))) fun i hi ih hj=>by
  refine Ev.of rfl (bt fun hn=>aC (fun h=>?_) (fun h=>evRet ?_))
  ·have hlt:i < n0:=by simpa using h
   refine ar (by simpa using hlt) (evObc (evObt (aC (fun hb=>evRet ?_) (fun hb=>aL ?_))))
   ·simp only [toA]; unfold F51; rw [iU i hlt (by simpa using hb)]
   ·rw [ED hlt hn]; exact ih hlt fun j h1=>by
     by_cases e:j=i
     ·subst e; simpa using hb
     ·exact hj j (by omega)
  ·have:i=n0:=by
    have:¬ i < n0:=by simpa using h
    omega
   subst this
   simp only [toA]; unfold F51; rw [iQ hj]
 exact key 0 (Nat.zero_le _) fun j hj=>by omega
theorem RI (n0:Nat) (f0:FnV):evR (Ev (Fs n0 f0)) (m51 n0 f0) (.bool (F51 n0 (elV tp1 f0))):=Iq0 n0 f0
def C51:aJ:=mkC [.sl tp1] (fun _=>True) fun
 | [.sl n0 f0]=>.bool (F51 n0 f0)
 | _=>.any
theorem tP:(vP C51).Ok Tryz.prog 51:=mkE td Tryz.func51 (by kernel_rfl) fun ds hp=>rfs (Lf ..) (RI _ _)
inductive vY where
 | L0 (ia0:Int)
def Hv (n0:Nat) (f0:FnV):vY->Env × List O × Option Ex
 | .L0 ia0=>([(8,vi ia0),(7,vi (↑n0:Int)),(6,V.sl n0 (elV tp1 f0)),(4,vi 0),(0,V.sl n0 (elV tp1 f0)),(1,V.fn 100 [] [])],[],none)
def K3:vY->JJ
 | .L0 ia0=>(0,[])
def GV (n0:Nat) (f0:FnV):T (bF JJ):=aZ JJ uF u0 RA [V.sl n0 (elV tp1 f0),V.fn 100 [] []]
def Ap (n0:Nat) (f0:FnV) (cx:List Cx):Lp JJ:=lpT (atT (GV n0 f0) [])
def LL (n0:Nat) (f0:FnV):JJ->Lp JJ
 | (0,cx)=>Ap n0 f0 cx
 | (_,cx)=>Ap n0 f0 cx
def Ri (n0:Nat) (f0:FnV):LD JJ vY:=⟨K3,LL n0 f0,Hv n0 f0⟩
def CG (n0:Nat) (f0:FnV):vY->RT vY
 | .L0 ia0=>.br (decide (ia0 < (↑n0:Int))) (.ob (decide (0<=ia0/\ia0 < (↑n0:Int))) (.obc (.obt (.br (vj (jv0 (f0 ia0.toNat))) (.ret (vi ia0)) (.next [] (vY.L0 (i64.wrap (ia0+1))) []))))) (.ret (vi (-1)))
def I6 (n0:Nat) (f0:FnV):RT vY:=.asm (true=true->n0<=9223372036854775807) (.enter [] (vY.L0 (0)) [])
theorem HN (n0:Nat) (f0:FnV):ep uF u0 (Ri n0 f0) (GV n0 f0) (I6 n0 f0) (CG n0 f0):=⟨⟨by kernel_rfl,by kernel_rfl⟩,fun s=>by cases s <;> exact ⟨by kernel_rfl,by kernel_rfl⟩⟩
def Bv (n0:Nat) (f0:FnV):Int  :=idx n0 fun ii=>vj (jv0 (f0 ii))
theorem Gr (n0:Nat) (f0:FnV):evR (Ev (CG n0 f0)) (I6 n0 f0) (.int .i64 (Bv n0 f0)):=bt fun hn=>aG (kQ hn fun i=>rfl)
theorem MJ (n0:Nat) (f0:FnV):evR (Ev (CG n0 f0)) (I6 n0 f0) (.int .i64 (Bv n0 (elV tp1 f0))):=Gr n0 f0
def sD:aJ:=mkC [.sl tp1,.fn 100 [] []] (fun _=>True) fun
 | [.sl n0 f0,.fn _ [] []]=>.int .i64 (Bv n0 f0)
 | _=>.any
theorem mN:(vP sD).Ok Tryz.prog 133:=mkE td Tryz.func133 (by kernel_rfl) fun ds hp=>rfs (HN ..) (MJ _ _)
def uV:aX:=(112,.con rY)::(118,.con rQ)::(120,.con sF)::(51,.con C51)::(133,.con sD)::uF
theorem wx:aW Tryz.prog eqs its uV:=.con mj (.con mH (.con mF (.con tP (.con mN (td)))))
def m99 (n0:Nat) (f0:FnV):RT Empty:=.obc (.obt (.ret (V.bool (decide (0<=Bv n0 (elV tp1 f0))))))
theorem OM (n0:Nat) (f0:FnV):Fit noD (aZ JJ uV u0 s99 [V.sl n0 (elV tp1 f0),V.fn 100 [] []]) (m99 n0 f0):=⟨by kernel_rfl,by kernel_rfl⟩
def xG (n0:Nat) (f0:FnV):Bool:=decide (0<=Bv n0 (elV tp1 f0))
def R99 (n0:Nat) (f0:FnV):V:=.bool (xG n0 f0)
theorem QY (n0:Nat) (f0:FnV):evR noE (m99 n0 f0) (R99 n0 f0):=evObc (evObt (evRet (by unfold R99 xG; rfl)))
def C99:aJ:=mkC [.sl tp1,.fn 100 [] []] (fun _=>True) fun
 | [.sl n0 f0,.fn _ [] []]=>R99 n0 f0
 | _=>.any
theorem uc:(vP C99).Ok Tryz.prog 99:=mkE wx Tryz.func99 (by kernel_rfl) fun ds hp=>rf0 (OM ..) (QY _ _)
inductive wh where
 | L0 (ia0:Int)
def H7 (n0:Nat) (f0:FnV) (s2:ByteArray) (x3:Int) (n4:Nat) (f4:FnV) (x6:Int):wh->Env × List O × Option Ex
 | .L0 ia0=>([(8,vi ia0),(7,vi (↑n0:Int)),(6,V.sl n0 (elV tyR f0)),(4,vi 0),(0,V.sl n0 (elV tyR f0)),(1,V.fn 112 [] [V.pd [V.str s2,vi x3,V.sl n4 (elV tp2 f4),vi x6]])],[],none)
def Kx:wh->JJ
 | .L0 ia0=>(0,[])
def G5 (n0:Nat) (f0:FnV) (s2:ByteArray) (x3:Int) (n4:Nat) (f4:FnV) (x6:Int):T (bF JJ):=aZ JJ uV u0 LM [V.sl n0 (elV tyR f0),V.fn 112 [] [V.pd [V.str s2,vi x3,V.sl n4 (elV tp2 f4),vi x6]]]
def Af (n0:Nat) (f0:FnV) (s2:ByteArray) (x3:Int) (n4:Nat) (f4:FnV) (x6:Int) (cx:List Cx):Lp JJ:=lpT (atT (G5 n0 f0 s2 x3 n4 f4 x6) [])
def Oz (n0:Nat) (f0:FnV) (s2:ByteArray) (x3:Int) (n4:Nat) (f4:FnV) (x6:Int):JJ->Lp JJ
 | (0,cx)=>Af n0 f0 s2 x3 n4 f4 x6 cx
 | (_,cx)=>Af n0 f0 s2 x3 n4 f4 x6 cx
def Ru (n0:Nat) (f0:FnV) (s2:ByteArray) (x3:Int) (n4:Nat) (f4:FnV) (x6:Int):LD JJ wh:=⟨Kx,Oz n0 f0 s2 x3 n4 f4 x6,H7 n0 f0 s2 x3 n4 f4 x6⟩
def D0 (n0:Nat) (f0:FnV) (s2:ByteArray) (x3:Int) (n4:Nat) (f4:FnV) (x6:Int):wh->RT wh
 | .L0 ia0=>.br (decide (ia0 < (↑n0:Int))) (.ob (decide (0<=ia0/\ia0 < (↑n0:Int))) (.obc (.obt (.br (uK (sv (hdV (f0 ia0.toNat))) s2) (.ret (vi ia0)) (.next [] (wh.L0 (i64.wrap (ia0+1))) []))))) (.ret (vi (-1)))
def H8 (n0:Nat) (f0:FnV) (s2:ByteArray) (x3:Int) (n4:Nat) (f4:FnV) (x6:Int):RT wh:=.asm (true=true->n0<=9223372036854775807) (.enter [] (wh.L0 (0)) [])
theorem Ho (n0:Nat) (f0:FnV) (s2:ByteArray) (x3:Int) (n4:Nat) (f4:FnV) (x6:Int):ep uV u0 (Ru n0 f0 s2 x3 n4 f4 x6) (G5 n0 f0 s2 x3 n4 f4 x6) (H8 n0 f0 s2 x3 n4 f4 x6) (D0 n0 f0 s2 x3 n4 f4 x6):=⟨⟨by kernel_rfl,by kernel_rfl⟩,fun s=>by cases s <;> exact ⟨by kernel_rfl,by kernel_rfl⟩⟩
def Bu (n0:Nat) (f0:FnV) (s2:ByteArray):Int  :=idx n0 fun ii=>uK (sv (hdV (f0 ii))) s2
theorem Fi (n0:Nat) (f0:FnV) (s2:ByteArray) (x3:Int) (n4:Nat) (f4:FnV) (x6:Int):evR (Ev (D0 n0 f0 s2 x3 n4 f4 x6)) (H8 n0 f0 s2 x3 n4 f4 x6) (.int .i64 (Bu n0 f0 s2)):=bt fun hn=>aG (kQ hn fun i=>rfl)
theorem Lz (n0:Nat) (f0:FnV) (s2:ByteArray) (x3:Int) (n4:Nat) (f4:FnV) (x6:Int):evR (Ev (D0 n0 f0 s2 x3 n4 f4 x6)) (H8 n0 f0 s2 x3 n4 f4 x6) (.int .i64 (Bu n0 (elV tyR f0) s2)):=Fi n0 f0 s2 x3 n4 f4 x6
def xN:aJ:=mkC [.sl tyR,.fn 112 [] [.pd tyR]] (fun _=>True) fun
 | [.sl n0 f0,.fn _ [] [.pd [.str s2,.int _ x3,.sl n4 f4,.int _ x6]]]=>.int .i64 (Bu n0 f0 s2)
 | _=>.any
theorem th:(vP xN).Ok Tryz.prog 129:=mkE wx Tryz.func129 (by kernel_rfl) fun ds hp=>rfs (Ho ..) (Lz _ _ _ _ _ _ _)
inductive xm where
 | L0 (ia0:Int)
def J0 (n0:Nat) (f0:FnV):xm->Env × List O × Option Ex
 | .L0 ia0=>([(8,vi ia0),(7,vi (↑n0:Int)),(6,V.sl n0 (elV tp4 f0)),(4,vi 0),(0,V.sl n0 (elV tp4 f0)),(1,V.fn 118 [] [])],[],none)
def KF:xm->JJ
 | .L0 ia0=>(0,[])
def G4 (n0:Nat) (f0:FnV):T (bF JJ):=aZ JJ uV u0 P1 [V.sl n0 (elV tp4 f0),V.fn 118 [] []]
def zr (n0:Nat) (f0:FnV) (cx:List Cx):Lp JJ:=lpT (atT (G4 n0 f0) [])
def Mx (n0:Nat) (f0:FnV):JJ->Lp JJ
 | (0,cx)=>zr n0 f0 cx
 | (_,cx)=>zr n0 f0 cx
def Qj (n0:Nat) (f0:FnV):LD JJ xm:=⟨KF,Mx n0 f0,J0 n0 f0⟩
def Dt (n0:Nat) (f0:FnV):xm->RT xm
 | .L0 ia0=>.br (decide (ia0 < (↑n0:Int))) (.ob (decide (0<=ia0/\ia0 < (↑n0:Int))) (.obc (.obt (.br (ia (jv0 (f0 ia0.toNat)) (jv1 (f0 ia0.toNat)) (jv2 (f0 ia0.toNat)) (jv3 (f0 ia0.toNat))) (.ret (vi ia0)) (.next [] (xm.L0 (i64.wrap (ia0+1))) []))))) (.ret (vi (-1)))
def Il (n0:Nat) (f0:FnV):RT xm:=.asm (true=true->n0<=9223372036854775807) (.enter [] (xm.L0 (0)) [])
theorem Ip (n0:Nat) (f0:FnV):ep uV u0 (Qj n0 f0) (G4 n0 f0) (Il n0 f0) (Dt n0 f0):=⟨⟨by kernel_rfl,by kernel_rfl⟩,fun s=>by cases s <;> exact ⟨by kernel_rfl,by kernel_rfl⟩⟩
def BG (n0:Nat) (f0:FnV):Int  :=idx n0 fun ii=>ia (jv0 (f0 ii)) (jv1 (f0 ii)) (jv2 (f0 ii)) (jv3 (f0 ii))
theorem FV (n0:Nat) (f0:FnV):evR (Ev (Dt n0 f0)) (Il n0 f0) (.int .i64 (BG n0 f0)):=bt fun hn=>aG (kQ hn fun i=>rfl)
theorem Lm (n0:Nat) (f0:FnV):evR (Ev (Dt n0 f0)) (Il n0 f0) (.int .i64 (BG n0 (elV tp4 f0))):=FV n0 f0
def rX:aJ:=mkC [.sl tp4,.fn 118 [] []] (fun _=>True) fun
 | [.sl n0 f0,.fn _ [] []]=>.int .i64 (BG n0 f0)
 | _=>.any
theorem mz:(vP rX).Ok Tryz.prog 148:=mkE wx Tryz.func148 (by kernel_rfl) fun ds hp=>rfs (Ip ..) (Lm _ _)
inductive xo where
 | L0 (ia0:Int)
def HL (n0:Nat) (f0:FnV) (s2:ByteArray) (x3 x4 x5 x6 x7:Int):xo->Env × List O × Option Ex
 | .L0 ia0=>([(8,vi ia0),(7,vi (↑n0:Int)),(6,V.sl n0 (elV tyC f0)),(4,vi 0),(0,V.sl n0 (elV tyC f0)),(1,V.fn 120 [] [V.pd [V.str s2,vi x3,vi x4,vi x5,vi x6,vi x7]])],[],none)
def ND:xo->JJ
 | .L0 ia0=>(0,[])
def G7 (n0:Nat) (f0:FnV) (s2:ByteArray) (x3 x4 x5 x6 x7:Int):T (bF JJ):=aZ JJ uV u0 Pe [V.sl n0 (elV tyC f0),V.fn 120 [] [V.pd [V.str s2,vi x3,vi x4,vi x5,vi x6,vi x7]]]
def Au (n0:Nat) (f0:FnV) (s2:ByteArray) (x3 x4 x5 x6 x7:Int) (cx:List Cx):Lp JJ:=lpT (atT (G7 n0 f0 s2 x3 x4 x5 x6 x7) [])
def K9 (n0:Nat) (f0:FnV) (s2:ByteArray) (x3 x4 x5 x6 x7:Int):JJ->Lp JJ
 | (0,cx)=>Au n0 f0 s2 x3 x4 x5 x6 x7 cx
 | (_,cx)=>Au n0 f0 s2 x3 x4 x5 x6 x7 cx
def QH (n0:Nat) (f0:FnV) (s2:ByteArray) (x3 x4 x5 x6 x7:Int):LD JJ xo:=⟨ND,K9 n0 f0 s2 x3 x4 x5 x6 x7,HL n0 f0 s2 x3 x4 x5 x6 x7⟩
def Er (n0:Nat) (f0:FnV) (s2:ByteArray) (x3 x4 x5 x6 x7:Int):xo->RT xo
 | .L0 ia0=>.br (decide (ia0 < (↑n0:Int))) (.ob (decide (0<=ia0/\ia0 < (↑n0:Int))) (.obc (.obt (.br (tT (sv (hdV (f0 ia0.toNat))) s2) (.ret (vi ia0)) (.next [] (xo.L0 (i64.wrap (ia0+1))) []))))) (.ret (vi (-1)))
def Hj (n0:Nat) (f0:FnV) (s2:ByteArray) (x3 x4 x5 x6 x7:Int):RT xo:=.asm (true=true->n0<=9223372036854775807) (.enter [] (xo.L0 (0)) [])
theorem HC (n0:Nat) (f0:FnV) (s2:ByteArray) (x3 x4 x5 x6 x7:Int):ep uV u0 (QH n0 f0 s2 x3 x4 x5 x6 x7) (G7 n0 f0 s2 x3 x4 x5 x6 x7) (Hj n0 f0 s2 x3 x4 x5 x6 x7) (Er n0 f0 s2 x3 x4 x5 x6 x7):=⟨⟨by kernel_rfl,by kernel_rfl⟩,fun s=>by cases s <;> exact ⟨by kernel_rfl,by kernel_rfl⟩⟩
def BZ (n0:Nat) (f0:FnV) (s2:ByteArray):Int  :=idx n0 fun ii=>tT (sv (hdV (f0 ii))) s2
theorem Gm (n0:Nat) (f0:FnV) (s2:ByteArray) (x3 x4 x5 x6 x7:Int):evR (Ev (Er n0 f0 s2 x3 x4 x5 x6 x7)) (Hj n0 f0 s2 x3 x4 x5 x6 x7) (.int .i64 (BZ n0 f0 s2)):=bt fun hn=>aG (kQ hn fun i=>rfl)
theorem Lh (n0:Nat) (f0:FnV) (s2:ByteArray) (x3 x4 x5 x6 x7:Int):evR (Ev (Er n0 f0 s2 x3 x4 x5 x6 x7)) (Hj n0 f0 s2 x3 x4 x5 x6 x7) (.int .i64 (BZ n0 (elV tyC f0) s2)):=Gm n0 f0 s2 x3 x4 x5 x6 x7
def su:aJ:=mkC [.sl tyC,.fn 120 [] [.pd tyC]] (fun _=>True) fun
 | [.sl n0 f0,.fn _ [] [.pd [.str s2,.int _ x3,.int _ x4,.int _ x5,.int _ x6,.int _ x7]]]=>.int .i64 (BZ n0 f0 s2)
 | _=>.any
theorem lW:(vP su).Ok Tryz.prog 149:=mkE wx Tryz.func149 (by kernel_rfl) fun ds hp=>rfs (HC ..) (Lh _ _ _ _ _ _ _ _)
def B0:aX:=(99,.con C99)::(129,.con xN)::(148,.con rX)::(149,.con su)::uV
theorem wP:aW Tryz.prog eqs its B0:=.con uc (.con th (.con mz (.con lW (wx))))
def m45 (n0:Nat) (f0:FnV):RT Empty:=.obc (.obt (.ret (V.bool (xG n0 (elV tp1 f0)))))
theorem MT (n0:Nat) (f0:FnV):Fit noD (aZ JJ B0 u0 s45 [V.sl n0 (elV tp1 f0)]) (m45 n0 f0):=⟨by kernel_rfl,by kernel_rfl⟩
def eF (n0:Nat) (f0:FnV):Bool:=xG n0 (elV tp1 f0)
def R45 (n0:Nat) (f0:FnV):V:=.bool (eF n0 f0)
theorem OY (n0:Nat) (f0:FnV):evR noE (m45 n0 f0) (R45 n0 f0):=evObc (evObt (evRet (by unfold R45 eF; rfl)))
def C45:aJ:=mkC [.sl tp1] (fun _=>True) fun
 | [.sl n0 f0]=>R45 n0 f0
 | _=>.any
theorem uA:(vP C45).Ok Tryz.prog 45:=mkE wP Tryz.func45 (by kernel_rfl) fun ds hp=>rf0 (MT ..) (OY _ _)
def m90 (n0:Nat) (f0:FnV) (s2:ByteArray) (x3:Int) (n4:Nat) (f4:FnV) (x6:Int):RT Empty:=.obc (.obt (.ret (V.bool (decide (0<=Bu n0 (elV tyR f0) s2)))))
theorem Lc (n0:Nat) (f0:FnV) (s2:ByteArray) (x3:Int) (n4:Nat) (f4:FnV) (x6:Int):Fit noD (aZ JJ B0 u0 s90 [V.sl n0 (elV tyR f0),V.fn 112 [] [V.pd [V.str s2,vi x3,V.sl n4 (elV tp2 f4),vi x6]]]) (m90 n0 f0 s2 x3 n4 f4 x6):=⟨by kernel_rfl,by kernel_rfl⟩
def oT (n0:Nat) (f0:FnV) (s2:ByteArray):Bool:=decide (0<=Bu n0 (elV tyR f0) s2)
def R90 (n0:Nat) (f0:FnV) (s2:ByteArray) (x3:Int) (n4:Nat) (f4:FnV) (x6:Int):V:=.bool (oT n0 f0 s2)
theorem Rm (n0:Nat) (f0:FnV) (s2:ByteArray) (x3:Int) (n4:Nat) (f4:FnV) (x6:Int):evR noE (m90 n0 f0 s2 x3 n4 f4 x6) (R90 n0 f0 s2 x3 n4 f4 x6):=evObc (evObt (evRet (by unfold R90 oT; rfl)))
def C90:aJ:=mkC [.sl tyR,.fn 112 [] [.pd tyR]] (fun _=>True) fun
 | [.sl n0 f0,.fn _ [] [.pd [.str s2,.int _ x3,.sl n4 f4,.int _ x6]]]=>R90 n0 f0 s2 x3 n4 f4 x6
 | _=>.any
theorem yU:(vP C90).Ok Tryz.prog 90:=mkE wP Tryz.func90 (by kernel_rfl) fun ds hp=>rf0 (Lc ..) (Rm _ _ _ _ _ _ _)
def MA (n0:Nat) (f0:FnV):RT Empty:=.obc (.obt (.ret (V.bool (decide (0<=BG n0 (elV tp4 f0))))))
theorem Jm (n0:Nat) (f0:FnV):Fit noD (aZ JJ B0 u0 PD [V.sl n0 (elV tp4 f0),V.fn 118 [] []]) (MA n0 f0):=⟨by kernel_rfl,by kernel_rfl⟩
def nX (n0:Nat) (f0:FnV):Bool:=decide (0<=BG n0 (elV tp4 f0))
def Js (n0:Nat) (f0:FnV):V:=.bool (nX n0 f0)
theorem Ma (n0:Nat) (f0:FnV):evR noE (MA n0 f0) (Js n0 f0):=evObc (evObt (evRet (by unfold Js nX; rfl)))
def rG:aJ:=mkC [.sl tp4,.fn 118 [] []] (fun _=>True) fun
 | [.sl n0 f0,.fn _ [] []]=>Js n0 f0
 | _=>.any
theorem mC:(vP rG).Ok Tryz.prog 119:=mkE wP Tryz.func119 (by kernel_rfl) fun ds hp=>rf0 (Jm ..) (Ma _ _)
def M1 (n0:Nat) (f0:FnV) (s2:ByteArray) (x3 x4 x5 x6 x7:Int):RT Empty:=.obc (.obt (.ret (V.bool (decide (0<=BZ n0 (elV tyC f0) s2)))))
theorem IP (n0:Nat) (f0:FnV) (s2:ByteArray) (x3 x4 x5 x6 x7:Int):Fit noD (aZ JJ B0 u0 PZ [V.sl n0 (elV tyC f0),V.fn 120 [] [V.pd [V.str s2,vi x3,vi x4,vi x5,vi x6,vi x7]]]) (M1 n0 f0 s2 x3 x4 x5 x6 x7):=⟨by kernel_rfl,by kernel_rfl⟩
def om (n0:Nat) (f0:FnV) (s2:ByteArray):Bool:=decide (0<=BZ n0 (elV tyC f0) s2)
def JP (n0:Nat) (f0:FnV) (s2:ByteArray) (x3 x4 x5 x6 x7:Int):V:=.bool (om n0 f0 s2)
theorem MO (n0:Nat) (f0:FnV) (s2:ByteArray) (x3 x4 x5 x6 x7:Int):evR noE (M1 n0 f0 s2 x3 x4 x5 x6 x7) (JP n0 f0 s2 x3 x4 x5 x6 x7):=evObc (evObt (evRet (by unfold JP om; rfl)))
def rU:aJ:=mkC [.sl tyC,.fn 120 [] [.pd tyC]] (fun _=>True) fun
 | [.sl n0 f0,.fn _ [] [.pd [.str s2,.int _ x3,.int _ x4,.int _ x5,.int _ x6,.int _ x7]]]=>JP n0 f0 s2 x3 x4 x5 x6 x7
 | _=>.any
theorem mf:(vP rU).Ok Tryz.prog 121:=mkE wP Tryz.func121 (by kernel_rfl) fun ds hp=>rf0 (IP ..) (MO _ _ _ _ _ _ _ _)
def rF:aX:=(45,.con C45)::(90,.con C90)::(119,.con rG)::(121,.con rU)::B0
theorem qI:aW Tryz.prog eqs its rF:=.con uA (.con yU (.con mC (.con mf (wP))))
def KG (x0 x1:Int):RT Empty:=.obt (.obt (.obc (.obt (.ret (V.bool (eF 2 (elV tp1 (cq [vi x0,vi x1] 0 1))))))))
theorem JV (x0 x1:Int):Fit noD (aZ JJ rF u0 RM [V.agg [vi x0,vi x1]]) (KG x0 x1):=⟨by kernel_rfl,by kernel_rfl⟩
def oc (x0 x1:Int):Bool:=eF 2 (elV tp1 (cq [vi x0,vi x1] 0 1))
def HX (x0 x1:Int):V:=.bool (oc x0 x1)
theorem Oo (x0 x1:Int):evR noE (KG x0 x1) (HX x0 x1):=evObt (evObt (evObc (evObt (evRet (by unfold HX oc; rfl)))))
def sd:aJ:=mkC [.agg tp2] (fun _=>True) fun
 | [.agg [.int _ x0,.int _ x1]]=>HX x0 x1
 | _=>.any
theorem mT:(vP sd).Ok Tryz.prog 113:=mkE qI Tryz.func113 (by kernel_rfl) fun ds hp=>rf0 (JV ..) (Oo _ _)
def m65 (n0:Nat) (f0:FnV) (x2 x3 x4 x5 x6:Int):RT Empty:=.obc (.obt (.obi (.br (!eF 2 (elV tp1 (cq [vi x2,vi x3] 0 1))) (.ob (!eF 2 (elV tp1 (cq [vi x2,vi x3] 0 1))) (.obc (.obt (.obi (.obi (.obi (.br (!aT x4 1 20000) (.ob (!aT x4 1 20000) (.ob (!aT x4 1 20000) (.obc (.obt (.obi (.br (!aT x5 0 (i64.wrap (x6 - 1))) (.ob (!aT x5 0 (i64.wrap (x6 - 1))) (.obc (.obt (.br (aT x6 1 1000) (.ret (vi 7)) (.ret (vi 0)))))) (.ret (vi 7)))))))) (.ret (vi 7))))))))) (.ret (vi 7)))))
theorem Ni (n0:Nat) (f0:FnV) (x2 x3 x4 x5 x6:Int):Fit noD (aZ JJ rF u0 s65 [V.sl n0 (elV tyT f0),V.agg [vi x2,vi x3,vi x4,vi x5,vi x6]]) (m65 n0 f0 x2 x3 x4 x5 x6):=⟨by kernel_rfl,by kernel_rfl⟩
def jz (x2 x3 x4 x5 x6:Int):Int:=bif !eF 2 (elV tp1 (cq [vi x2,vi x3] 0 1)) then bif !aT x4 1 20000 then bif !aT x5 0 (i64.wrap (x6 - 1)) then bif aT x6 1 1000 then 7 else 0 else 7 else 7 else 7
def R65 (n0:Nat) (f0:FnV) (x2 x3 x4 x5 x6:Int):V:=.int i64 (jz x2 x3 x4 x5 x6)
theorem Qp (n0:Nat) (f0:FnV) (x2 x3 x4 x5 x6:Int):evR noE (m65 n0 f0 x2 x3 x4 x5 x6) (R65 n0 f0 x2 x3 x4 x5 x6):=evObc (evObt (ae (aC (fun h0=>ar (by first | assumption | (fail)) (evObc (evObt (ae (ae (ae (aC (fun h1=>ar (by first | assumption | (fail)) (ar (by first | assumption | (fail)) (evObc (evObt (ae (aC (fun h2=>ar (by first | assumption | (fail)) (evObc (evObt (aC (fun h3=>evRet (by unfold R65 jz; try rw [h0]; try rw [h1]; try rw [h2]; try rw [h3]; rfl)) (fun h3=>evRet (by unfold R65 jz; try rw [h0]; try rw [h1]; try rw [h2]; try rw [h3]; rfl)))))) (fun h2=>evRet (by unfold R65 jz; try rw [h0]; try rw [h1]; try rw [h2]; rfl)))))))) (fun h1=>evRet (by unfold R65 jz; try rw [h0]; try rw [h1]; rfl))))))))) (fun h0=>evRet (by unfold R65 jz; try rw [h0]; rfl)))))
def C65:aJ:=mkC [.sl tyT,.agg tyT] (fun _=>True) fun
 | [.sl n0 f0,.agg [.int _ x2,.int _ x3,.int _ x4,.int _ x5,.int _ x6]]=>R65 n0 f0 x2 x3 x4 x5 x6
 | _=>.any
theorem tR:(vP C65).Ok Tryz.prog 65:=mkE qI Tryz.func65 (by kernel_rfl) fun ds hp=>rf0 (Ni ..) (Qp _ _ _ _ _ _ _)
def m67 (n0:Nat) (f0:FnV) (x2 x3 x4 x5:Int) (n6:Nat) (f6:FnV):RT Empty:=.obt (.obt (.obt (.obt (.obc (.obt (.br (eF 4 (elV tp1 (cq [vi x2,vi x3,vi x4,vi x5] 0 1))) (.ret (vi 7)) (.br (x2 == x4 && (x3 == x5 && true)) (.ret (vi 2)) (.asm (true=true->n6<=9223372036854775807) (.br (decide (6 < (↑n6:Int))) (.ret (vi 3)) (.obc (.obt (.br (nX n6 (elV tp4 f6)) (.ret (vi 7)) (.ret (vi 0))))))))))))))
theorem KM (n0:Nat) (f0:FnV) (x2 x3 x4 x5:Int) (n6:Nat) (f6:FnV):Fit noD (aZ JJ rF u0 s67 [V.sl n0 (elV tyF f0),V.agg [vi x2,vi x3,vi x4,vi x5,V.sl n6 (elV tp4 f6)]]) (m67 n0 f0 x2 x3 x4 x5 n6 f6):=⟨by kernel_rfl,by kernel_rfl⟩
def jx (x2 x3 x4 x5:Int) (n6:Nat) (f6:FnV):Int:=bif eF 4 (elV tp1 (cq [vi x2,vi x3,vi x4,vi x5] 0 1)) then 7 else bif x2 == x4 && (x3 == x5 && true) then 2 else bif decide (6 < (↑n6:Int)) then 3 else bif nX n6 (elV tp4 f6) then 7 else 0
def R67 (n0:Nat) (f0:FnV) (x2 x3 x4 x5:Int) (n6:Nat) (f6:FnV):V:=.int i64 (jx x2 x3 x4 x5 n6 f6)
theorem Qc (n0:Nat) (f0:FnV) (x2 x3 x4 x5:Int) (n6:Nat) (f6:FnV):evR noE (m67 n0 f0 x2 x3 x4 x5 n6 f6) (R67 n0 f0 x2 x3 x4 x5 n6 f6):=evObt (evObt (evObt (evObt (evObc (evObt (aC (fun h0=>evRet (by unfold R67 jx; try rw [h0]; rfl)) (fun h0=>aC (fun h1=>evRet (by unfold R67 jx; try rw [h0]; try rw [h1]; rfl)) (fun h1=>bH (fun a2=>aC (fun h2=>evRet (by unfold R67 jx; try rw [h0]; try rw [h1]; try rw [h2]; rfl)) (fun h2=>evObc (evObt (aC (fun h3=>evRet (by unfold R67 jx; try rw [h0]; try rw [h1]; try rw [h2]; try rw [h3]; rfl)) (fun h3=>evRet (by unfold R67 jx; try rw [h0]; try rw [h1]; try rw [h2]; try rw [h3]; rfl))))))))))))))
def C67:aJ:=mkC [.sl tyF,.agg tyF] (fun _=>True) fun
 | [.sl n0 f0,.agg [.int _ x2,.int _ x3,.int _ x4,.int _ x5,.sl n6 f6]]=>R67 n0 f0 x2 x3 x4 x5 n6 f6
 | _=>.any
theorem uO:(vP C67).Ok Tryz.prog 67:=mkE qI Tryz.func67 (by kernel_rfl) fun ds hp=>rf0 (KM ..) (Qc _ _ _ _ _ _ _ _)
def m53 (x0 x1 x2 x3:Int):RT Empty:=.obc (.obt (.obi (.obi (.obi (.obi (.obi (.obi (.obi (.obi (.obi (.obi (.ret (V.bool (bif bif eF 4 (elV tp1 (cq [vi x0,vi x1,vi x2,vi x3] 0 1)) then true else decide (x2 < x0) then true else decide (x3 < x1)))))))))))))))
theorem Lo (x0 x1 x2 x3:Int):Fit noD (aZ JJ rF u0 s53 [V.agg [vi x0,vi x1,vi x2,vi x3]]) (m53 x0 x1 x2 x3):=⟨by kernel_rfl,by kernel_rfl⟩
def wc (x0 x1 x2 x3:Int):Bool:=bif bif eF 4 (elV tp1 (cq [vi x0,vi x1,vi x2,vi x3] 0 1)) then true else decide (x2 < x0) then true else decide (x3 < x1)
def R53 (x0 x1 x2 x3:Int):V:=.bool (wc x0 x1 x2 x3)
theorem QJ (x0 x1 x2 x3:Int):evR noE (m53 x0 x1 x2 x3) (R53 x0 x1 x2 x3):=evObc (evObt (ae (ae (ae (ae (ae (ae (ae (ae (ae (ae (evRet (by unfold R53 wc; rfl)))))))))))))
def C53:aJ:=mkC [.agg tp4] (fun _=>True) fun
 | [.agg [.int _ x0,.int _ x1,.int _ x2,.int _ x3]]=>R53 x0 x1 x2 x3
 | _=>.any
theorem tW:(vP C53).Ok Tryz.prog 53:=mkE qI Tryz.func53 (by kernel_rfl) fun ds hp=>rf0 (Lo ..) (QJ _ _ _ _)
inductive v7 where
 | L0 (ia0:Int)
def Hq (s0:ByteArray):v7->Env × List O × Option Ex
 | .L0 ia0=>([(3,vi ia0),(2,V.kb false),(0,V.str s0)],[],none)
def N7:v7->JJ
 | .L0 ia0=>(0,[])
def GW (s0:ByteArray):T (bF JJ):=aZ JJ rF u0 OX [V.str s0]
def AA (s0:ByteArray) (cx:List Cx):Lp JJ:=lpT (atT (GW s0) [])
def KD (s0:ByteArray):JJ->Lp JJ
 | (0,cx)=>AA s0 cx
 | (_,cx)=>AA s0 cx
def RQ (s0:ByteArray):LD JJ v7:=⟨N7,KD s0,Hq s0⟩
def zN (s0:ByteArray):v7->RT v7
 | .L0 ia0=>.br (decide (ia0 < (↑s0.size:Int))) (.ob (decide (0<=ia0/\ia0 < (↑s0.size:Int))) (.obi (.obi (.obj (decide (97<=(↑(s0.data.1.getD ia0.toNat 0).toNat:Int))) (decide (0<=ia0/\ia0 < (↑s0.size:Int))) (.obi (.obi (.obi (.obi (.obi (.obi (.obj ((!bif decide (97<=(↑(s0.data.1.getD ia0.toNat 0).toNat:Int)) then decide ((↑(s0.data.1.getD ia0.toNat 0).toNat:Int)<=122) else false) && !ia0 == 0) (decide (0<=ia0/\ia0 < (↑s0.size:Int))) (.obi (.obi (.obi (.obi (.obj ((!bif decide (97<=(↑(s0.data.1.getD ia0.toNat 0).toNat:Int)) then decide ((↑(s0.data.1.getD ia0.toNat 0).toNat:Int)<=122) else false) && !ia0 == 0 && decide (48<=(↑(s0.data.1.getD ia0.toNat 0).toNat:Int))) (decide (0<=ia0/\ia0 < (↑s0.size:Int))) (.obi (.obi (.obi (.obi (.obi (.obi (.obi (.obj ((!bif decide (97<=(↑(s0.data.1.getD ia0.toNat 0).toNat:Int)) then decide ((↑(s0.data.1.getD ia0.toNat 0).toNat:Int)<=122) else false) && !ia0 == 0 && !bif decide (48<=(↑(s0.data.1.getD ia0.toNat 0).toNat:Int)) then decide ((↑(s0.data.1.getD ia0.toNat 0).toNat:Int)<=57) else false) (decide (0<=ia0/\ia0 < (↑s0.size:Int))) (.obi (.obi (.obi (.obi (.obi (.obi (.br (bif !bif decide (97<=(↑(s0.data.1.getD ia0.toNat 0).toNat:Int)) then decide ((↑(s0.data.1.getD ia0.toNat 0).toNat:Int)<=122) else false then bif ia0 == 0 then true else bif !bif decide (48<=(↑(s0.data.1.getD ia0.toNat 0).toNat:Int)) then decide ((↑(s0.data.1.getD ia0.toNat 0).toNat:Int)<=57) else false then (↑(s0.data.1.getD ia0.toNat 0).toNat:Int) != 45 else false else false) (.ret (V.kb false)) (.next [] (v7.L0 (i64.wrap (ia0+1))) [])))))))))))))))))))))))))))))))) (.obi (.obi (.obi (.ret (V.bool (bif decide (0 < (↑s0.size:Int)) then decide ((↑s0.size:Int)<=24) else false))))))
def J3 (s0:ByteArray):RT v7:=.enter [] (v7.L0 (0)) []
theorem IY (s0:ByteArray):ep rF u0 (RQ s0) (GW s0) (J3 s0) (zN s0):=⟨⟨by kernel_rfl,by kernel_rfl⟩,fun s=>by cases s <;> exact ⟨by kernel_rfl,by kernel_rfl⟩⟩
def yj (s0:ByteArray) (i:Nat):Bool:=bif !bif decide (97<=((s0.data.toList.getD i 0).toNat:Int)) then decide (((s0.data.toList.getD i 0).toNat:Int)<=122) else false then bif (i:Int) == 0 then true else bif !bif decide (48<=((s0.data.toList.getD i 0).toNat:Int)) then decide (((s0.data.toList.getD i 0).toNat:Int)<=57) else false then ((s0.data.toList.getD i 0).toNat:Int) != 45 else false else false
def gE (s0:ByteArray):Bool:=iL s0.size (fun i=>!yj s0 i) && bif decide (0 < (s0.size:Int)) then decide ((s0.size:Int)<=24) else false
theorem RV {n:Nat} (p:Nat->Bool) {P:Int->Prop} (hstep:∀ i:Nat,i < n->(∀ j,j < i->p j=false)->(p i=false->P (i64.wrap ((i:Int)+1)))->P i) (hend:(∀ j,j < n->p j=false)->P n) (hn:n<=9223372036854775807):P 0:=ru hn p hstep hend
theorem Fc (s0:ByteArray) (hp:s0.size<=9223372036854775807):evR (Ev (zN s0)) (J3 s0) (.bool (gE s0)):=aG (ru hp (yj s0) (P:=fun i=>Ev (zN s0) (.L0 i) (.bool (gE s0))) (fun i hlt hj next=>Ev.of rfl (im hlt (ig hlt (by
 repeat (first | refine ae ?_ | refine zR hlt ?_)
 refine aC (fun hb=>evRet ?_) (fun hb=>aL (next hb))
 simp only [toA]; unfold gE; rw [iU i hlt (by show (!yj s0 i)=false; rw [show yj s0 i=true from hb]; rfl)]; rfl))))
 (fun hj=>Ev.of rfl (eC (by
 repeat refine ae ?_
 refine evRet ?_
 simp only [toA]; unfold gE; rw [iQ fun i hi=>by rw [hj i hi]; rfl]; rfl))))
theorem LW (s0:ByteArray) (hp:s0.size<=9223372036854775807):evR (Ev (zN s0)) (J3 s0) (.bool (gE s0)):=Fc s0 hp
def rP:aJ:=mkC [.str] (fun
 | [.str s0]=>s0.size<=9223372036854775807
 | _=>False) fun
 | [.str s0]=>.bool (gE s0)
 | _=>.any
theorem mI:(vP rP).Ok Tryz.prog 122:=mkE qI Tryz.func122 (by kernel_rfl) fun ds hp=>rfs (IY ..) (LW _ hp)
inductive S72 where
 | L0 (ia0:Int)
def MK (x0 x1 x2 x3:Int) (n4:Nat) (f4:FnV):S72->Env × List O × Option Ex
 | .L0 ia0=>([(3,vi ia0),(28,V.kb false),(27,vi (↑n4:Int)),(26,V.sl n4 (elV tp4 f4)),(25,V.pl 0 4),(24,V.kb false),(23,V.agg [vi x2,vi x3]),(22,V.pl 0 2),(21,V.agg [vi x0,vi x1]),(20,V.pl 0 0),(19,V.kb false),(18,V.bool (F51 4 (elV tp1 (cq [vi x0,vi x1,vi x2,vi x3] 0 1)))),(17,V.ss 1 0 4 4),(16,vi x3),(15,V.pl 0 3),(14,V.pl 0 2),(13,vi x2),(12,V.pl 0 2),(11,V.pl 0 2),(10,vi x1),(9,V.pl 0 1),(8,V.pl 0 0),(7,vi x0),(6,V.pl 0 0),(5,V.pl 0 0),(2,vi 0),(1,V.pl 0 0),(0,V.agg [vi x0,vi x1,vi x2,vi x3,V.sl n4 (elV tp4 f4)])],[O.cells [vi x0,vi x1,vi x2,vi x3,V.sl n4 (elV tp4 f4)] 123,O.cells [vi x0,vi x1,vi x2,vi x3] 3],none)
def P6:S72->JJ
 | .L0 ia0=>(0,[])
def MP (x0 x1 x2 x3:Int) (n4:Nat) (f4:FnV):T (bF JJ):=aZ JJ rF u0 s72 [V.agg [vi x0,vi x1,vi x2,vi x3,V.sl n4 (elV tp4 f4)]]
def Dw (x0 x1 x2 x3:Int) (n4:Nat) (f4:FnV) (cx:List Cx):Lp JJ:=lpT (atT (MP x0 x1 x2 x3 n4 f4) [false,false,false])
def Pq (x0 x1 x2 x3:Int) (n4:Nat) (f4:FnV):JJ->Lp JJ
 | (0,cx)=>Dw x0 x1 x2 x3 n4 f4 cx
 | (_,cx)=>Dw x0 x1 x2 x3 n4 f4 cx
def D72 (x0 x1 x2 x3:Int) (n4:Nat) (f4:FnV):LD JJ S72:=⟨P6,Pq x0 x1 x2 x3 n4 f4,MK x0 x1 x2 x3 n4 f4⟩
def GM (x0 x1 x2 x3:Int) (n4:Nat) (f4:FnV):S72->RT S72
 | .L0 ia0=>.asm (true=true->n4<=9223372036854775807) (.br (decide (ia0 < (↑n4:Int))) (.ob (decide (0<=ia0/\ia0 < (↑n4:Int))) (.obi (.obi (.obi (.obi (.obi (.obi (.obi (.obi (.obi (.obi (.obi (.obi (.obi (.obi (.obi (.obi (.obi (.obi (.obi (.br (bif bif bif bif bif decide (jv0 (f4 ia0.toNat) < 0) then true else decide (jv1 (f4 ia0.toNat)<=jv0 (f4 ia0.toNat)) then true else decide (1000 < jv1 (f4 ia0.toNat)) then true else decide (jv2 (f4 ia0.toNat) < 0) then true else decide (jv3 (f4 ia0.toNat)<=jv2 (f4 ia0.toNat)) then true else decide (1000 < jv3 (f4 ia0.toNat))) (.ret (vi 7)) (.next [some (some 0),some (some 1)] (S72.L0 (i64.wrap (ia0+1))) [])))))))))))))))))))))) (.ret (vi 0)))
def m72 (x0 x1 x2 x3:Int) (n4:Nat) (f4:FnV):RT S72:=.obt (.obt (.obt (.obt (.obc (.obt (.br (!F51 4 (elV tp1 (cq [vi x0,vi x1,vi x2,vi x3] 0 1))) (.ret (vi 7)) (.br (x0 == x2 && (x1 == x3 && true)) (.ret (vi 2)) (.asm (true=true->n4<=9223372036854775807) (.br (decide (6 < (↑n4:Int))) (.ret (vi 3)) (.enter [some (some 0),some (some 1)] (S72.L0 (0)) []))))))))))
theorem Nd (x0 x1 x2 x3:Int) (n4:Nat) (f4:FnV):ep rF u0 (D72 x0 x1 x2 x3 n4 f4) (MP x0 x1 x2 x3 n4 f4) (m72 x0 x1 x2 x3 n4 f4) (GM x0 x1 x2 x3 n4 f4):=⟨⟨by kernel_rfl,by kernel_rfl⟩,fun s=>by cases s <;> exact ⟨by kernel_rfl,by kernel_rfl⟩⟩
def C6 (l:List V):Bool:=bif bif bif bif bif decide (jv0 l < 0) then true else decide (jv1 l<=jv0 l) then true else decide (1000 < jv1 l) then true else decide (jv2 l < 0) then true else decide (jv3 l<=jv2 l) then true else decide (1000 < jv3 l)
def F72 (x0 x1 x2 x3:Int) (n4:Nat) (f4:FnV):Int:=bif !F51 4 (elV tp1 (cq [V.int .i64 x0,V.int .i64 x1,V.int .i64 x2,V.int .i64 x3] 0 ((1+1+1+1 - 0) / 4))) then 7 else bif x0 == x2 && (x1 == x3 && true) then 2 else bif decide (6 < (n4:Int)) then 3 else bif exB n4 (fun i=>C6 (f4 i)) then 7 else 0
theorem Hn (x0 x1 x2 x3:Int) (n4:Nat) (f4:FnV):evR (Ev (GM x0 x1 x2 x3 n4 f4)) (m72 x0 x1 x2 x3 n4 f4) (.int .i64 (F72 x0 x1 x2 x3 n4 f4)):=by
 unfold F72
 repeat (first | refine evObt ?_ | refine evObc ?_)
 refine aC (fun h0=>evRet (by rw [h0]; rfl)) (fun h0=>?_)
 rw [h0,cond_false]
 refine aC (fun h1=>evRet (by rw [h1]; rfl)) (fun h1=>?_)
 rw [h1,cond_false]
 refine bt fun hn=>?_
 refine aC (fun h2=>evRet (by rw [h2]; rfl)) (fun h2=>?_)
 rw [h2,cond_false]
 refine aG (ru hn (fun i=>C6 (f4 i)) (P:=fun i=>Ev (GM x0 x1 x2 x3 n4 f4) (.L0 i) (.int .i64 (bif exB n4 (fun i=>C6 (f4 i)) then 7 else 0))) (fun i hlt hj next=>Ev.of rfl (bt fun _=>im hlt (ig hlt (by
  repeat (first | refine ae ?_ | refine zR hlt ?_)
  refine aC (fun hb=>evRet ?_) (fun hb=>aL (next hb))
  rw [bz i hlt (show C6 (f4 i)=true from hb)]; rfl))))
  (fun hj=>Ev.of rfl (bt fun _=>eC (evRet ?_))))
 rw [bG hj]; rfl
theorem Rl (x0 x1 x2 x3:Int) (n4:Nat) (f4:FnV):evR (Ev (GM x0 x1 x2 x3 n4 f4)) (m72 x0 x1 x2 x3 n4 f4) (.int .i64 (F72 x0 x1 x2 x3 n4 (elV tp4 f4))):=Hn x0 x1 x2 x3 n4 f4
def C72:aJ:=mkC [.agg tyF] (fun _=>True) fun
 | [.agg [.int _ x0,.int _ x1,.int _ x2,.int _ x3,.sl n4 f4]]=>.int .i64 (F72 x0 x1 x2 x3 n4 f4)
 | _=>.any
theorem vw:(vP C72).Ok Tryz.prog 72:=mkE qI Tryz.func72 (by kernel_rfl) fun ds hp=>rfs (Nd ..) (Rl _ _ _ _ _ _)
def yD:aX:=(113,.con sd)::(65,.con C65)::(67,.con C67)::(53,.con C53)::(122,.con rP)::(72,.con C72)::rF
theorem Dz:aW Tryz.prog eqs its yD:=.con mT (.con tR (.con uO (.con tW (.con mI (.con vw (qI))))))
inductive vO where
 | L0 (ia0:Int)
def IV (n0:Nat) (f0:FnV):vO->Env × List O × Option Ex
 | .L0 ia0=>([(8,vi ia0),(7,vi (↑n0:Int)),(6,V.sl n0 (elV tp2 f0)),(4,vi 0),(0,V.sl n0 (elV tp2 f0)),(1,V.fn 113 [] [])],[],none)
def LT:vO->JJ
 | .L0 ia0=>(0,[])
def G3 (n0:Nat) (f0:FnV):T (bF JJ):=aZ JJ yD u0 Pl [V.sl n0 (elV tp2 f0),V.fn 113 [] []]
def Am (n0:Nat) (f0:FnV) (cx:List Cx):Lp JJ:=lpT (atT (G3 n0 f0) [])
def Ob (n0:Nat) (f0:FnV):JJ->Lp JJ
 | (0,cx)=>Am n0 f0 cx
 | (_,cx)=>Am n0 f0 cx
def Qa (n0:Nat) (f0:FnV):LD JJ vO:=⟨LT,Ob n0 f0,IV n0 f0⟩
def Eh (n0:Nat) (f0:FnV):vO->RT vO
 | .L0 ia0=>.br (decide (ia0 < (↑n0:Int))) (.ob (decide (0<=ia0/\ia0 < (↑n0:Int))) (.obc (.obt (.br (oc (jv0 (f0 ia0.toNat)) (jv1 (f0 ia0.toNat))) (.ret (vi ia0)) (.next [] (vO.L0 (i64.wrap (ia0+1))) []))))) (.ret (vi (-1)))
def HA (n0:Nat) (f0:FnV):RT vO:=.asm (true=true->n0<=9223372036854775807) (.enter [] (vO.L0 (0)) [])
theorem JD (n0:Nat) (f0:FnV):ep yD u0 (Qa n0 f0) (G3 n0 f0) (HA n0 f0) (Eh n0 f0):=⟨⟨by kernel_rfl,by kernel_rfl⟩,fun s=>by cases s <;> exact ⟨by kernel_rfl,by kernel_rfl⟩⟩
def Ba (n0:Nat) (f0:FnV):Int  :=idx n0 fun ii=>oc (jv0 (f0 ii)) (jv1 (f0 ii))
theorem Gz (n0:Nat) (f0:FnV):evR (Ev (Eh n0 f0)) (HA n0 f0) (.int .i64 (Ba n0 f0)):=bt fun hn=>aG (kQ hn fun i=>rfl)
theorem LF (n0:Nat) (f0:FnV):evR (Ev (Eh n0 f0)) (HA n0 f0) (.int .i64 (Ba n0 (elV tp2 f0))):=Gz n0 f0
def vd:aJ:=mkC [.sl tp2,.fn 113 [] []] (fun _=>True) fun
 | [.sl n0 f0,.fn _ [] []]=>.int .i64 (Ba n0 f0)
 | _=>.any
theorem o0:(vP vd).Ok Tryz.prog 147:=mkE Dz Tryz.func147 (by kernel_rfl) fun ds hp=>rfs (JD ..) (LF _ _)
inductive S64 where
 | L0 (ia0:Int)
def Lr (n0:Nat) (f0:FnV):S64->Env × List O × Option Ex
 | .L0 ia0=>([(11,vi ia0),(10,vi (↑n0:Int)),(9,V.sl n0 (elV tyT f0)),(5,vi 0),(4,vi 0),(0,V.sl n0 (elV tyT f0)),(1,V.fn 65 [] [])],[],none)
def Pu:S64->JJ
 | .L0 ia0=>(0,[])
def Od (n0:Nat) (f0:FnV):T (bF JJ):=aZ JJ yD u0 s64 [V.sl n0 (elV tyT f0),V.fn 65 [] []]
def EP (n0:Nat) (f0:FnV) (cx:List Cx):Lp JJ:=lpT (atT (Od n0 f0) [])
def QO (n0:Nat) (f0:FnV):JJ->Lp JJ
 | (0,cx)=>EP n0 f0 cx
 | (_,cx)=>EP n0 f0 cx
def D64 (n0:Nat) (f0:FnV):LD JJ S64:=⟨Pu,QO n0 f0,Lr n0 f0⟩
def Hw (n0:Nat) (f0:FnV):S64->RT S64
 | .L0 ia0=>.br (decide (ia0 < (↑n0:Int))) (.ob (decide (0<=ia0/\ia0 < (↑n0:Int))) (.ob (decide (0<=ia0/\ia0<=(↑n0:Int))) (.obc (.obt (.br (jz (jv0 (f0 ia0.toNat)) (jv1 (f0 ia0.toNat)) (jv2 (f0 ia0.toNat)) (jv3 (f0 ia0.toNat)) (jv4 (f0 ia0.toNat)) != 0) (.ret (V.tup [vi ia0,vi (jz (jv0 (f0 ia0.toNat)) (jv1 (f0 ia0.toNat)) (jv2 (f0 ia0.toNat)) (jv3 (f0 ia0.toNat)) (jv4 (f0 ia0.toNat)))])) (.next [] (S64.L0 (i64.wrap (ia0+1))) [])))))) (.ret (V.tup [vi 0,vi 0]))
def m64 (n0:Nat) (f0:FnV):RT S64:=.asm (true=true->n0<=9223372036854775807) (.enter [] (S64.L0 (0)) [])
theorem LE (n0:Nat) (f0:FnV):ep yD u0 (D64 n0 f0) (Od n0 f0) (m64 n0 f0) (Hw n0 f0):=⟨⟨by kernel_rfl,by kernel_rfl⟩,fun s=>by cases s <;> exact ⟨by kernel_rfl,by kernel_rfl⟩⟩
def c64 (n0:Nat) (f0:FnV) (ii:Nat):Int:=(jz (jv0 (f0 ii)) (jv1 (f0 ii)) (jv2 (f0 ii)) (jv3 (f0 ii)) (jv4 (f0 ii)))
def sJ (n0:Nat) (f0:FnV):Int:=eK n0 (c64 n0 f0)
def kJ (n0:Nat) (f0:FnV):Int:=cL n0 (c64 n0 f0)
theorem Jp (n0:Nat) (f0:FnV):evR (Ev (Hw n0 f0)) (m64 n0 f0) (.tup [.int .i64 (sJ n0 f0),.int .i64 (kJ n0 f0)]):=bt fun hn=>aG (mL (Q:=fun _=>True) (fun _ x=>.obc (.obt x)) (fun i x r h hx=>evObc (evObt hx)) (fun _ _=>rfl) hn (fun _ _=>trivial) fun i=>rfl)
theorem Q1 (n0:Nat) (f0:FnV):evR (Ev (Hw n0 f0)) (m64 n0 f0) (.tup [.int .i64 (sJ n0 (elV tyT f0)),.int .i64 (kJ n0 (elV tyT f0))]):=Jp n0 f0
def C64:aJ:=mkC [.sl tyT,.fn 65 [] []] (fun _=>True) fun
 | [.sl n0 f0,.fn _ [] []]=>.tup [.int .i64 (sJ n0 f0),.int .i64 (kJ n0 f0)]
 | _=>.any
theorem wW:(vP C64).Ok Tryz.prog 64:=mkE Dz Tryz.func64 (by kernel_rfl) fun ds hp=>rfs (LE ..) (Q1 _ _)
inductive S66 where
 | L0 (ia0:Int)
def KV (n0:Nat) (f0:FnV):S66->Env × List O × Option Ex
 | .L0 ia0=>([(11,vi ia0),(10,vi (↑n0:Int)),(9,V.sl n0 (elV tyF f0)),(5,vi 0),(4,vi 0),(0,V.sl n0 (elV tyF f0)),(1,V.fn 67 [] [])],[],none)
def Q6:S66->JJ
 | .L0 ia0=>(0,[])
def Mj (n0:Nat) (f0:FnV):T (bF JJ):=aZ JJ yD u0 s66 [V.sl n0 (elV tyF f0),V.fn 67 [] []]
def Cq (n0:Nat) (f0:FnV) (cx:List Cx):Lp JJ:=lpT (atT (Mj n0 f0) [])
def Pw (n0:Nat) (f0:FnV):JJ->Lp JJ
 | (0,cx)=>Cq n0 f0 cx
 | (_,cx)=>Cq n0 f0 cx
def D66 (n0:Nat) (f0:FnV):LD JJ S66:=⟨Q6,Pw n0 f0,KV n0 f0⟩
def JW (n0:Nat) (f0:FnV):S66->RT S66
 | .L0 ia0=>.br (decide (ia0 < (↑n0:Int))) (.ob (decide (0<=ia0/\ia0 < (↑n0:Int))) (.ob (decide (0<=ia0/\ia0<=(↑n0:Int))) (.obc (.obt (.br ((jx (jv0 (f0 ia0.toNat)) (jv1 (f0 ia0.toNat)) (jv2 (f0 ia0.toNat)) (jv3 (f0 ia0.toNat)) (ap (hdV (tlV (tlV (tlV (tlV (f0 ia0.toNat))))))) fun i=>ak tp4 (atV (hdV (tlV (tlV (tlV (tlV (f0 ia0.toNat)))))) i)) != 0) (.ret (V.tup [vi ia0,vi (jx (jv0 (f0 ia0.toNat)) (jv1 (f0 ia0.toNat)) (jv2 (f0 ia0.toNat)) (jv3 (f0 ia0.toNat)) (ap (hdV (tlV (tlV (tlV (tlV (f0 ia0.toNat))))))) fun i=>ak tp4 (atV (hdV (tlV (tlV (tlV (tlV (f0 ia0.toNat)))))) i))])) (.next [] (S66.L0 (i64.wrap (ia0+1))) [])))))) (.ret (V.tup [vi 0,vi 0]))
def m66 (n0:Nat) (f0:FnV):RT S66:=.asm (true=true->n0<=9223372036854775807) (.enter [] (S66.L0 (0)) [])
theorem NS (n0:Nat) (f0:FnV):ep yD u0 (D66 n0 f0) (Mj n0 f0) (m66 n0 f0) (JW n0 f0):=⟨⟨by kernel_rfl,by kernel_rfl⟩,fun s=>by cases s <;> exact ⟨by kernel_rfl,by kernel_rfl⟩⟩
def c66 (n0:Nat) (f0:FnV) (ii:Nat):Int:=(jx (jv0 (f0 ii)) (jv1 (f0 ii)) (jv2 (f0 ii)) (jv3 (f0 ii)) (ap (hdV (tlV (tlV (tlV (tlV (f0 ii))))))) fun i=>ak tp4 (atV (hdV (tlV (tlV (tlV (tlV (f0 ii)))))) i))
def tB (n0:Nat) (f0:FnV):Int:=eK n0 (c66 n0 f0)
def kN (n0:Nat) (f0:FnV):Int:=cL n0 (c66 n0 f0)
theorem IW (n0:Nat) (f0:FnV):evR (Ev (JW n0 f0)) (m66 n0 f0) (.tup [.int .i64 (tB n0 f0),.int .i64 (kN n0 f0)]):=bt fun hn=>aG (mL (Q:=fun _=>True) (fun _ x=>.obc (.obt x)) (fun i x r h hx=>evObc (evObt hx)) (fun _ _=>rfl) hn (fun _ _=>trivial) fun i=>rfl)
theorem PR (n0:Nat) (f0:FnV):evR (Ev (JW n0 f0)) (m66 n0 f0) (.tup [.int .i64 (tB n0 (elV tyF f0)),.int .i64 (kN n0 (elV tyF f0))]):=IW n0 f0
def C66:aJ:=mkC [.sl tyF,.fn 67 [] []] (fun _=>True) fun
 | [.sl n0 f0,.fn _ [] []]=>.tup [.int .i64 (tB n0 f0),.int .i64 (kN n0 f0)]
 | _=>.any
theorem xx:(vP C66).Ok Tryz.prog 66:=mkE Dz Tryz.func66 (by kernel_rfl) fun ds hp=>rfs (NS ..) (PR _ _)
end Go.Dx
namespace Go.Proofs
open Go.Shelf
def Tryz.lays160_ren:Go.Shelf.Ren:=⟨fun | 160=>146 | 232=>165 | 231=>164 | 227=>166 | 234=>168 | 233=>167 | 236=>170 | 235=>169 | 228=>185 | 271=>188 | 151=>187 | 197=>186 | 120=>195 | 152=>194 | 260=>193 | 137=>197 | 119=>198 | 224=>199 | 225=>200 | 217=>201 | 266=>202 | n=>n,fun | 9=>9 | 4=>4 | 3=>3 | 5=>5 | 117=>228 | 116=>227 | 0=>0 | 124=>231 | 21=>21 | 105=>245 | 46=>188 | 119=>254 | 139=>257 | 138=>256 | n=>n,fun | 3=>0 | 4=>1 | n=>n⟩
theorem Tryz.lays160:Go.Proofs.Lays.n160 Tryz.prog Tryz.lays160_ren:={
 mixed:=by kernel_rfl
 f119:=Tryz.func198.trans (congrArg some (by kernel_rfl))
 f120:=Tryz.func195.trans (congrArg some (by kernel_rfl))
 f137:=Tryz.func197.trans (congrArg some (by kernel_rfl))
 f151:=Tryz.func187.trans (congrArg some (by kernel_rfl))
 f152:=Tryz.func194.trans (congrArg some (by kernel_rfl))
 f160:=Tryz.func146.trans (congrArg some (by kernel_rfl))
 f197:=Tryz.func186.trans (congrArg some (by kernel_rfl))
 f217:=Tryz.func201.trans (congrArg some (by kernel_rfl))
 f224:=Tryz.func199.trans (congrArg some (by kernel_rfl))
 f225:=Tryz.func200.trans (congrArg some (by kernel_rfl))
 f227:=Tryz.func166.trans (congrArg some (by kernel_rfl))
 f228:=Tryz.func185.trans (congrArg some (by kernel_rfl))
 f231:=Tryz.func164.trans (congrArg some (by kernel_rfl))
 f232:=Tryz.func165.trans (congrArg some (by kernel_rfl))
 f233:=Tryz.func167.trans (congrArg some (by kernel_rfl))
 f234:=Tryz.func168.trans (congrArg some (by kernel_rfl))
 f235:=Tryz.func169.trans (congrArg some (by kernel_rfl))
 f236:=Tryz.func170.trans (congrArg some (by kernel_rfl))
 f260:=Tryz.func193.trans (congrArg some (by kernel_rfl))
 f266:=Tryz.func202.trans (congrArg some (by kernel_rfl))
 f271:=Tryz.func188.trans (congrArg some (by kernel_rfl))
 t0:=Tryz.underlying0
 a0:=Tryz.isAgg0
 z0:=Tryz.sizeOf0
 v0:=Tryz.zeroValue0
 t3:=Tryz.underlying3
 a3:=Tryz.isAgg3
 z3:=Tryz.sizeOf3
 v3:=Tryz.zeroValue3
 t4:=Tryz.underlying4
 a4:=Tryz.isAgg4
 z4:=Tryz.sizeOf4
 v4:=Tryz.zeroValue4
 t5:=Tryz.underlying5
 a5:=Tryz.isAgg5
 z5:=Tryz.sizeOf5
 v5:=Tryz.zeroValue5
 t9:=Tryz.underlying9
 a9:=Tryz.isAgg9
 z9:=Tryz.sizeOf9
 v9:=Tryz.zeroValue9
 t21:=Tryz.underlying21
 a21:=Tryz.isAgg21
 z21:=Tryz.sizeOf21
 v21:=Tryz.zeroValue21
 t46:=Tryz.underlying188
 a46:=Tryz.isAgg188
 z46:=Tryz.sizeOf188
 v46:=Tryz.zeroValue188
 t105:=Tryz.underlying245
 a105:=Tryz.isAgg245
 z105:=Tryz.sizeOf245
 v105:=Tryz.zeroValue245
 t116:=Tryz.underlying227
 a116:=Tryz.isAgg227
 z116:=Tryz.sizeOf227
 t117:=Tryz.underlying228
 a117:=Tryz.isAgg228
 z117:=Tryz.sizeOf228
 v117:=Tryz.zeroValue228
 t119:=Tryz.underlying254
 a119:=Tryz.isAgg254
 z119:=Tryz.sizeOf254
 t124:=Tryz.underlying231
 a124:=Tryz.isAgg231
 z124:=Tryz.sizeOf231
 v124:=Tryz.zeroValue231
 t138:=Tryz.underlying256
 a138:=Tryz.isAgg256
 z138:=Tryz.sizeOf256
 v138:=Tryz.zeroValue256
 t139:=Tryz.underlying257
 a139:=Tryz.isAgg257
 z139:=Tryz.sizeOf257
 v139:=Tryz.zeroValue257
 g3:=by kernel_rfl
 g4:=by kernel_rfl }
end Go.Proofs
namespace Go.Dx
open Go.IntKind (i64 u64 u8)
open Go.Sx Go.Proofs Go.Shelf Go.RowKit
def Fq:ByteArray:=⟨#[97,98,99,100,101,102,103,104,105,106,107,108,109,110,111,112,113,114,115,116,117,118,119,120,121,122,48,49,50,51,52,53,54,55,56,57,45]⟩
def rN (s c:ByteArray):ByteArray:=⟨(Lib.trimS s.data.toList c.data.toList).toArray⟩
def rT:aJ:=mkC [.str,.str] (fun
 | [.str s,.str c]=>s.size<=9223372036854775807/\c=Fq
 | _=>False) fun
 | [.str s,.str c]=>.str (rN s c)
 | _=>.any
theorem yi (s:ByteArray) (w:World) (hs:s.size<=9223372036854775807):Calls Tryz.prog 146 #[.string s,.string Fq] w fun e w'=>e=.returned (.string (rN s Fq))/\Below w.heap.size w w' :=
 Any.strings_Trim_laid Tryz.lays160 (by kernel_rfl) s Fq w hs (by decide) (ascii_of_all (by decide))
theorem aw.below {B:bm} {m:ao} {lh:List ac} {w w':World} (h:aw B m lh w) (hb:Below w.heap.size w w'):aw B m lh w':=by
 obtain ⟨h1,h2,h3,h4,h5⟩:=hb
 have hsz:B.w0.heap.size<=w'.heap.size:=Nat.le_trans h.size h4
 refine ⟨h1.trans h.os,h2.trans h.tape,h3.trans h.output,hsz,fun b hb=>(h5 b (Nat.lt_of_lt_of_le hb h.size)).trans (h.old b hb),Nat.le_trans h.fsize h4,fun b hb ho=>(h5 b (Nat.lt_of_lt_of_le hb h.fsize)).trans (h.kept b hb ho),fun k cs ty hk=>?_,h.inj,h.dom,h.dead,fun k b hk=>Nat.lt_of_lt_of_le (h.rng k b hk) h4⟩
 obtain ⟨b,vs,g1,g2,g3,g4⟩:=h.loc k cs ty hk
 exact ⟨b,vs,g1,g2,(h5 b (h.rng k b g1)).trans g3,g4⟩
theorem oZ:(vP rT).Ok Tryz.prog 146:=by
 refine ⟨fun B m lh w args vs K hrel hargs hsp=>?_,fun _ _ _ _ _ hk ⟨ds,d,p,r,h1,h2,h3,h4,h5⟩=>⟨ds,d,p,r,h1,h2,h3,h4,hk _ _ h5⟩,fun _ _ _ _ ⟨_,_,_,_,_,_,_,_,h⟩=>h⟩
 obtain ⟨ds,d,p,r,h1,h2,⟨h30,h3⟩,h4,h5⟩:=hsp
 simp only [rT,mkC,Option.some.injEq,Prod.mk.injEq] at h2
 obtain ⟨rfl,rfl,rfl⟩:=h2
 have hty:=(g9 [.str,.str] ds [] [] rfl h30).1
 simp only [aP,bO] at hty
 obtain ⟨e1,e2,e3,e4,e5⟩:=hty
 rw [e5] at e3
 rw [e3,e2,e4] at e1
 generalize sv (hdV ds)=s at e1
 generalize sv (hdV (tlV ds))=c at e1
 subst e1
 simp only [kv,unq] at h3 h4 h5
 obtain ⟨hs,rfl⟩:=h3
 simp only [vrs,vr] at h1
 obtain ⟨_,_,rfl,rfl,_,_,rfl,rfl,rfl⟩:=h1
 simp only [af,vrel] at hargs
 obtain ⟨_,_,rfl,rfl,_,_,rfl,rfl,rfl⟩:=hargs
 refine ⟨⟨_,Tryz.func146,by kernel_rfl,by kernel_rfl⟩,(yi s w hs).mono fun e w' ⟨he,hb⟩=>?_⟩
 exact ⟨_,_,m,lh,he,by simp only [toA,vrel],Ext.refl _ _,aw.below hrel hb,h5⟩
theorem zk (s:ByteArray) (h:(!s.toList == (⟨#[]⟩:ByteArray).toList)=true):(0:Int) < (s.size:Int):=by
 have e:(⟨#[]⟩:ByteArray).toList=[]:=by decide +kernel
 by_cases hz:s.size=0
 ·have:s=⟨#[]⟩:=by
   cases s with | mk d=>
   have:d=#[]:=Array.eq_empty_of_size_eq_zero hz
   rw [this]
  rw [this,e] at h; cases h
 ·omega
end Go.Dx
namespace Go.Dx
open Go.IntKind (i64 u64 u8)
open Go.Sx Go.Proofs
def B5:aX:=[(147,.con vd),(64,.con C64),(66,.con C66),(113,.con sd),(65,.con C65),(67,.con C67),(53,.con C53),(122,.con rP),(72,.con C72),(45,.con C45),(90,.con C90),(119,.con rG),(121,.con rU),(99,.con C99),(129,.con xN),(148,.con rX),(149,.con su),(112,.con rY),(118,.con rQ),(120,.con sF),(51,.con C51),(133,.con sD),(103,.con sg),(106,.con sk),(100,.con sj),(150,.con rJ),(134,.con rL),(135,.con sB),(137,.con sC),(138,.con rS),(78,.con C78),(54,.con C54),(48,.con C48),(102,.con sw),(84,.con C84),(85,.con C85),(127,.con rR),(101,.con sA),(86,.con C86),(71,.con C71),(93,.con C93),(92,.con C92),(79,.con C79),(136,.con r0),(125,.con sr),(162,.con rZ),(146,.con rT)]
theorem AL:aW Tryz.prog eqs its B5:=.con o0 (.con wW (.con xx (.con mT (.con tR (.con uO (.con tW (.con mI (.con vw (.con uA (.con yU (.con mC (.con mf (.con uc (.con th (.con mz (.con lW (.con mj (.con mH (.con mF (.con tP (.con mN (.con lL (.con lV (.con mX (.con mn (.con mu (.con lG (.con lJ (.con mJ (.con uD (.con tS (.con vl (.con my (.con tQ (.con uw (.con mP (.con mw (.con uU (.con uZ (.con vt (.con ub (.con vm (.con mD (.con lE (.con lD (.con oZ (.nil)))))))))))))))))))))))))))))))))))))))))))))))
def MF (n0:Nat) (f0:FnV):RT Empty:=.obc (.obt (.ret (V.bool (decide (0<=Ba n0 (elV tp2 f0))))))
theorem Ik (n0:Nat) (f0:FnV):Fit noD (aZ JJ B5 u0 Q5 [V.sl n0 (elV tp2 f0),V.fn 113 [] []]) (MF n0 f0):=⟨by kernel_rfl,by kernel_rfl⟩
def fW (n0:Nat) (f0:FnV):Bool:=decide (0<=Ba n0 (elV tp2 f0))
def I2 (n0:Nat) (f0:FnV):V:=.bool (fW n0 f0)
theorem OJ (n0:Nat) (f0:FnV):evR noE (MF n0 f0) (I2 n0 f0):=evObc (evObt (evRet (by unfold I2 fW; rfl)))
def vc:aJ:=mkC [.sl tp2,.fn 113 [] []] (fun _=>True) fun
 | [.sl n0 f0,.fn _ [] []]=>I2 n0 f0
 | _=>.any
theorem oG:(vP vc).Ok Tryz.prog 115:=mkE AL Tryz.func115 (by kernel_rfl) fun ds hp=>rf0 (Ik ..) (OJ _ _)
def Ld (s0:ByteArray):RT Empty:=.obp (s0.size<=(9223372036854775807:Nat)/\ByteArray.mk (Array.mk [(97:UInt8),(98:UInt8),(99:UInt8),(100:UInt8),(101:UInt8),(102:UInt8),(103:UInt8),(104:UInt8),(105:UInt8),(106:UInt8),(107:UInt8),(108:UInt8),(109:UInt8),(110:UInt8),(111:UInt8),(112:UInt8),(113:UInt8),(114:UInt8),(115:UInt8),(116:UInt8),(117:UInt8),(118:UInt8),(119:UInt8),(120:UInt8),(121:UInt8),(122:UInt8),(48:UInt8),(49:UInt8),(50:UInt8),(51:UInt8),(52:UInt8),(53:UInt8),(54:UInt8),(55:UInt8),(56:UInt8),(57:UInt8),(45:UInt8)])=ByteArray.mk (Array.mk [(97:UInt8),(98:UInt8),(99:UInt8),(100:UInt8),(101:UInt8),(102:UInt8),(103:UInt8),(104:UInt8),(105:UInt8),(106:UInt8),(107:UInt8),(108:UInt8),(109:UInt8),(110:UInt8),(111:UInt8),(112:UInt8),(113:UInt8),(114:UInt8),(115:UInt8),(116:UInt8),(117:UInt8),(118:UInt8),(119:UInt8),(120:UInt8),(121:UInt8),(122:UInt8),(48:UInt8),(49:UInt8),(50:UInt8),(51:UInt8),(52:UInt8),(53:UInt8),(54:UInt8),(55:UInt8),(56:UInt8),(57:UInt8),(45:UInt8)])) (.obt (.obi (.obi (.obi (.obi (.obi (.obi (.obj (bif bif !s0.toList == (ByteArray.mk (Array.mk [])).toList then decide ((↑s0.size:Int)<=24) else false then (rN s0 (ByteArray.mk (Array.mk [97,98,99,100,101,102,103,104,105,106,107,108,109,110,111,112,113,114,115,116,117,118,119,120,121,122,48,49,50,51,52,53,54,55,56,57,45]))).toList == (ByteArray.mk (Array.mk [])).toList else false) (decide ((0:Int)<=0/\0 < (↑s0.size:Int))) (.obi (.obi (.obi (.obj (bif bif bif !s0.toList == (ByteArray.mk (Array.mk [])).toList then decide ((↑s0.size:Int)<=24) else false then (rN s0 (ByteArray.mk (Array.mk [97,98,99,100,101,102,103,104,105,106,107,108,109,110,111,112,113,114,115,116,117,118,119,120,121,122,48,49,50,51,52,53,54,55,56,57,45]))).toList == (ByteArray.mk (Array.mk [])).toList else false then decide (97<=(↑(s0.data.1.getD 0 0).toNat:Int)) else false) (decide ((0:Int)<=0/\0 < (↑s0.size:Int))) (.obi (.obi (.ret (V.bool (bif bif bif bif !s0.toList == (ByteArray.mk (Array.mk [])).toList then decide ((↑s0.size:Int)<=24) else false then (rN s0 (ByteArray.mk (Array.mk [97,98,99,100,101,102,103,104,105,106,107,108,109,110,111,112,113,114,115,116,117,118,119,120,121,122,48,49,50,51,52,53,54,55,56,57,45]))).toList == (ByteArray.mk (Array.mk [])).toList else false then decide (97<=(↑(s0.data.1.getD 0 0).toNat:Int)) else false then decide ((↑(s0.data.1.getD 0 0).toNat:Int)<=122) else false)))))))))))))))))
theorem HK (s0:ByteArray):Fit noD (aZ JJ B5 u0 Pp [V.str s0]) (Ld s0):=⟨by kernel_rfl,by kernel_rfl⟩
def jF (s0:ByteArray):Bool:=bif bif bif bif !s0.toList == (ByteArray.mk (Array.mk [])).toList then decide ((↑s0.size:Int)<=24) else false then (rN s0 (ByteArray.mk (Array.mk [97,98,99,100,101,102,103,104,105,106,107,108,109,110,111,112,113,114,115,116,117,118,119,120,121,122,48,49,50,51,52,53,54,55,56,57,45]))).toList == (ByteArray.mk (Array.mk [])).toList else false then decide (97<=(↑(s0.data.1.getD 0 0).toNat:Int)) else false then decide ((↑(s0.data.1.getD 0 0).toNat:Int)<=122) else false
def H5 (s0:ByteArray):V:=.bool (jF s0)
theorem M0 (s0:ByteArray) (hp:s0.size<=9223372036854775807):evR noE (Ld s0) (H5 s0):=cD (by first | assumption | (exact ⟨hp,rfl⟩)) (evObt (ae (ae (ae (ae (ae (ae (ef (by first | assumption | (intro h; refine dqt ⟨Int.le_refl 0,zk s0 ?_⟩; cases hb:(!s0.toList == (⟨#[]⟩:ByteArray).toList) with | true=>rfl | false=>(rw [hb] at h; simp at h))) (ae (ae (ae (ef (by first | assumption | (intro h; refine dqt ⟨Int.le_refl 0,zk s0 ?_⟩; cases hb:(!s0.toList == (⟨#[]⟩:ByteArray).toList) with | true=>rfl | false=>(rw [hb] at h; simp at h))) (ae (ae (evRet (by unfold H5 jF; rfl))))))))))))))))
def vn:aJ:=mkC [.str] (fun
 | [.str s0]=>s0.size<=9223372036854775807
 | _=>False) fun
 | [.str s0]=>H5 s0
 | _=>.any
theorem oF:(vP vn).Ok Tryz.prog 114:=mkE AL Tryz.func114 (by kernel_rfl) fun ds hp=>rf0 (HK ..) (M0 _ hp)
inductive S73 where
 | L0 (ia0:Int)
def Ot (n0:Nat) (f0:FnV) (n2:Nat) (f2:FnV) (n4:Nat) (f4:FnV) (n6:Nat) (f6:FnV) (x8:Int):S73->Env × List O × Option Ex
 | .L0 ia0=>([(6,vi ia0),(15,V.kb false),(14,V.bool (gE (sv (hdV (f6 x8.toNat))))),(13,V.str (sv (hdV (f6 x8.toNat)))),(12,V.pl 0 0),(5,V.pl 0 0),(11,V.agg [V.str (sv (hdV (f6 x8.toNat))),vi (jv1 (f6 x8.toNat)),vi (jv2 (f6 x8.toNat)),vi (jv3 (f6 x8.toNat)),vi (jv4 (f6 x8.toNat)),vi (jv5 (f6 x8.toNat))]),(10,V.pd [V.str (sv (hdV (f6 x8.toNat))),vi (jv1 (f6 x8.toNat)),vi (jv2 (f6 x8.toNat)),vi (jv3 (f6 x8.toNat)),vi (jv4 (f6 x8.toNat)),vi (jv5 (f6 x8.toNat))]),(9,vi x8),(8,V.sl n6 (elV tyC f6)),(7,V.pl 1 3),(4,vi 0),(2,V.pl 1 0),(0,scV n0 f0 n2 f2 n4 f4 n6 f6),(1,vi x8)],[O.cells [V.str (sv (hdV (f6 x8.toNat))),vi (jv1 (f6 x8.toNat)),vi (jv2 (f6 x8.toNat)),vi (jv3 (f6 x8.toNat)),vi (jv4 (f6 x8.toNat)),vi (jv5 (f6 x8.toNat))] 100,O.cells [V.sl n0 (elV tyR f0),V.sl n2 (elV tyT f2),V.sl n4 (elV tyF f4),V.sl n6 (elV tyC f6)] 27],none)
def O4:S73->JJ
 | .L0 ia0=>(0,[])
def K5 (n0:Nat) (f0:FnV) (n2:Nat) (f2:FnV) (n4:Nat) (f4:FnV) (n6:Nat) (f6:FnV) (x8:Int):T (bF JJ):=aZ JJ B5 u0 s73 [scV n0 f0 n2 f2 n4 f4 n6 f6,vi x8]
def DK (n0:Nat) (f0:FnV) (n2:Nat) (f2:FnV) (n4:Nat) (f4:FnV) (n6:Nat) (f6:FnV) (x8:Int) (cx:List Cx):Lp JJ:=lpT (atT (K5 n0 f0 n2 f2 n4 f4 n6 f6 x8) [false])
def QX (n0:Nat) (f0:FnV) (n2:Nat) (f2:FnV) (n4:Nat) (f4:FnV) (n6:Nat) (f6:FnV) (x8:Int):JJ->Lp JJ
 | (0,cx)=>DK n0 f0 n2 f2 n4 f4 n6 f6 x8 cx
 | (_,cx)=>DK n0 f0 n2 f2 n4 f4 n6 f6 x8 cx
def D73 (n0:Nat) (f0:FnV) (n2:Nat) (f2:FnV) (n4:Nat) (f4:FnV) (n6:Nat) (f6:FnV) (x8:Int):LD JJ S73:=⟨O4,QX n0 f0 n2 f2 n4 f4 n6 f6 x8,Ot n0 f0 n2 f2 n4 f4 n6 f6 x8⟩
def FQ (n0:Nat) (f0:FnV) (n2:Nat) (f2:FnV) (n4:Nat) (f4:FnV) (n6:Nat) (f6:FnV) (x8:Int):S73->RT S73
 | .L0 ia0=>.br (decide (ia0 < x8)) (.ob (decide (0<=ia0/\ia0 < (↑n6:Int))) (.br ((sv (hdV (f6 ia0.toNat))).toList == (sv (hdV (f6 x8.toNat))).toList) (.ret (vi 5)) (.next [some (some 0),some (some 1)] (S73.L0 (i64.wrap (ia0+1))) []))) (.obc (.obt (.obi (.br (!!F51 2 (elV tp1 (cq [vi (jv1 (f6 x8.toNat)),vi (jv2 (f6 x8.toNat))] 0 1))) (.ob (!!F51 2 (elV tp1 (cq [vi (jv1 (f6 x8.toNat)),vi (jv2 (f6 x8.toNat))] 0 1))) (.obc (.obt (.obi (.br (!!bR (jv3 (f6 x8.toNat)) 1 200) (.ob (!!bR (jv3 (f6 x8.toNat)) 1 200) (.obc (.obt (.obi (.br (!!bR (jv4 (f6 x8.toNat)) (-1000) 1000) (.ob (!!bR (jv4 (f6 x8.toNat)) (-1000) 1000) (.obc (.obt (.br (!bR (jv5 (f6 x8.toNat)) (-1000) 1000) (.ret (vi 7)) (.obi (.obi (.obi (.br (bif jv4 (f6 x8.toNat) == 0 then jv5 (f6 x8.toNat) == 0 else false) (.ret (vi 2)) (.ret (vi 0)))))))))) (.ret (vi 7))))))) (.ret (vi 7))))))) (.ret (vi 7))))))
def m73 (n0:Nat) (f0:FnV) (n2:Nat) (f2:FnV) (n4:Nat) (f4:FnV) (n6:Nat) (f6:FnV) (x8:Int):RT S73:=.ob (decide (0<=x8/\x8 < (↑n6:Int))) (.obp ((sv (hdV (f6 x8.toNat))).size<=(9223372036854775807:Nat)) (.obt (.br (!gE (sv (hdV (f6 x8.toNat)))) (.ret (vi 6)) (.enter [some (some 1),some (some 0)] (S73.L0 (0)) []))))
theorem Lw (n0:Nat) (f0:FnV) (n2:Nat) (f2:FnV) (n4:Nat) (f4:FnV) (n6:Nat) (f6:FnV) (x8:Int):ep B5 u0 (D73 n0 f0 n2 f2 n4 f4 n6 f6 x8) (K5 n0 f0 n2 f2 n4 f4 n6 f6 x8) (m73 n0 f0 n2 f2 n4 f4 n6 f6 x8) (FQ n0 f0 n2 f2 n4 f4 n6 f6 x8):=⟨⟨by kernel_rfl,by kernel_rfl⟩,fun s=>by cases s <;> exact ⟨by kernel_rfl,by kernel_rfl⟩⟩
def Dv (x y h dx dy:Int):Int:=bif bif bif bif !F51 2 (elV tp1 (cq [V.int .i64 x,V.int .i64 y] 0 ((1+1 - 0) / 2))) then true else !bR h 1 200 then true else !bR dx (-1000) 1000 then true else !bR dy (-1000) 1000 then 7 else bif bif dx == 0 then dy == 0 else false then 2 else 0
def F73 (n6:Nat) (f6:FnV) (x8:Int):Int:=bif !gE (sv (hdV (f6 x8.toNat))) then 6 else bif exB x8.toNat (fun k=>(sv (hdV (f6 k))).toList == (sv (hdV (f6 x8.toNat))).toList) then 5 else Dv (jv1 (f6 x8.toNat)) (jv2 (f6 x8.toNat)) (jv3 (f6 x8.toNat)) (jv4 (f6 x8.toNat)) (jv5 (f6 x8.toNat))
theorem Jj (n0:Nat) (f0:FnV) (n2:Nat) (f2:FnV) (n4:Nat) (f4:FnV) (n6:Nat) (f6:FnV) (x8:Int) (hp:0<=x8/\x8 < n6/\n6<=9223372036854775807/\bc n6 f6):evR (Ev (FQ n0 f0 n2 f2 n4 f4 n6 f6 x8)) (m73 n0 f0 n2 f2 n4 f4 n6 f6 x8) (.int .i64 (F73 n6 f6 x8)):=by
 obtain ⟨h0,h1,h2,h3⟩:=hp
 obtain ⟨k,rfl⟩:∃ k:Nat,x8=(k:Int):=⟨x8.toNat,by omega⟩
 have hk:k < n6:=by omega
 refine ig hk (cD (h3 k hk) (evObt ?_))
 unfold F73
 simp only [Int.toNat_natCast]
 refine aC (fun h=>evRet (by rw [show (!gE (sv (hdV (f6 k))))=true from h]; rfl)) (fun h=>?_)
 rw [show (!gE (sv (hdV (f6 k))))=false from h,cond_false]
 refine aG (ru (n:=k) (by omega) (fun i=>(sv (hdV (f6 i))).toList == (sv (hdV (f6 k))).toList) (P:=fun i=>Ev (FQ n0 f0 n2 f2 n4 f4 n6 f6 (k:Int)) (.L0 i) _) (fun i hlt hj next=>Ev.of rfl (im hlt (ig (by omega) (aC (fun hb=>evRet ?_) (fun hb=>aL (next hb))))))
  (fun hj=>Ev.of rfl (eC ?_)))
 ·rw [bz i hlt hb]; rfl
 ·rw [bG hj,cond_false]
  unfold Dv
  refine evObc (evObt (ae (aC (fun h=>ar h (evObc (evObt (ae (aC (fun h'=>ar h' (evObc (evObt (ae (aC (fun h''=>ar h'' (evObc (evObt (aC (fun h3=>evRet ?_) (fun h3=>?_))))) (fun h''=>evRet ?_)))))) (fun h'=>evRet ?_)))))) (fun h=>evRet ?_))))
  all_goals try simp only [Int.toNat_natCast] at *
  ·rw [ng h,ng h',ng h'',h3]; rfl
  ·rw [ng h,ng h',ng h'',h3]
   repeat refine ae ?_
   refine aC (fun h4=>evRet ?_) (fun h4=>evRet ?_) <;> (simp only [cond_false]; rw [h4]; rfl)
  ·rw [ng h,ng h',ng' h'']; rfl
  ·rw [ng h,ng' h']; rfl
  ·rw [ng' h]; rfl
theorem Ro (n0:Nat) (f0:FnV) (n2:Nat) (f2:FnV) (n4:Nat) (f4:FnV) (n6:Nat) (f6:FnV) (x8:Int) (hp:0<=x8/\x8 < n6/\n6<=9223372036854775807/\bc n6 (elV tyC f6)):evR (Ev (FQ n0 f0 n2 f2 n4 f4 n6 f6 x8)) (m73 n0 f0 n2 f2 n4 f4 n6 f6 x8) (.int .i64 (F73 n6 (elV tyC f6) x8)):=Jj n0 f0 n2 f2 n4 f4 n6 f6 x8 hp
def C73:aJ:=mkC [.agg [.sl tyR,.sl tyT,.sl tyF,.sl tyC],.int .i64] (fun
 | [.agg [.sl n0 f0,.sl n2 f2,.sl n4 f4,.sl n6 f6],.int _ x8]=>0<=x8/\x8 < n6/\n6<=9223372036854775807/\bc n6 f6
 | _=>False) fun
 | [.agg [.sl n0 f0,.sl n2 f2,.sl n4 f4,.sl n6 f6],.int _ x8]=>.int .i64 (F73 n6 f6 x8)
 | _=>.any
theorem wY:(vP C73).Ok Tryz.prog 73:=mkE AL Tryz.func73 (by kernel_rfl) fun ds hp=>rfs (Lw ..) (Ro _ _ _ _ _ _ _ _ _ hp)
def lX:aX:=(117,.inl wg u0)::(116,.inl wD u0)::(115,.con vc)::(114,.con vn)::(73,.con C73)::B5
theorem yf:aW Tryz.prog eqs its lX:=.inl Tryz.func117 (by kernel_rfl) (by kernel_rfl) (by kernel_rfl) (.inl Tryz.func116 (by kernel_rfl) (by kernel_rfl) (by kernel_rfl) (.con oG (.con oF (.con wY (AL)))))
inductive S63 where
 | L0 (ia0:Int) (fa1:Nat->List V)
 | L1 (ib0:Int) (fb1:Nat->List V)
 | L2 (ic0:Int) (fc1:Nat->List V)
 | L3 (id0:Int) (fd1:Nat->List V)
 | L4 (ie0:Int) (ne1 ne2:Nat) (ie3 ie4 ie5:Int) (ne6:Nat) (ie7 ie8 ie9 ie10:Int) (fe11:Nat->List V)
 | L5 (if0:Int) (nf1 nf2:Nat) (if3 if4 if5:Int) (nf6:Nat) (if7 if8 if9 if10:Int) (ff11:Nat->List V)
 | L6 (ig0:Int) (ng1 ng2:Nat) (ig3 ig4 ig5:Int) (ng6:Nat) (ig7 ig8 ig9 ig10:Int) (fg11:Nat->List V)
 | L7 (ih0:Int) (nh1 nh2:Nat) (ih3 ih4 ih5:Int) (nh6:Nat) (ih7 ih8 ih9 ih10:Int) (fh11:Nat->List V)
def wZ (n0:Nat) (f0:FnV) (s2:ByteArray) (x3:Int) (n4:Nat) (f4:FnV) (x6:Int):S63->Env × List O × Option Ex
 | .L0 ia0 fa1=>([(3,vi ia0),(8,V.kb false),(7,vi (↑n4:Int)),(6,V.gs 2 n4),(2,V.ns),(0,V.gs 2 n4)],[O.cells [V.str s2,vi x3,V.sl n4 (elV tp2 f4),vi x6] 54,O.hid,O.gl 2 n4 (elV tp2 fa1) 72],none)
 | .L1 ib0 fb1=>([(3,vi ib0),(8,V.kb false),(7,vi (↑n4:Int)),(6,V.gs 2 n4),(2,V.ns),(0,V.gs 2 n4)],[O.cells [V.str s2,vi x3,V.sl n4 (elV tp2 f4),vi x6] 54,O.hid,O.gl 2 n4 (elV tp2 fb1) 72],none)
 | .L2 ic0 fc1=>([(3,vi ic0),(8,V.kb false),(7,vi (↑n4:Int)),(6,V.gs 2 n4),(2,V.ns),(0,V.gs 2 n4)],[O.cells [V.str s2,vi x3,V.sl n4 (elV tp2 f4),vi x6] 54,O.hid,O.gl 2 n4 (elV tp2 fc1) 72],none)
 | .L3 id0 fd1=>([(3,vi id0),(8,V.kb false),(7,vi (↑n4:Int)),(6,V.gs 2 n4),(2,V.ns),(0,V.gs 2 n4)],[O.cells [V.str s2,vi x3,V.sl n4 (elV tp2 f4),vi x6] 54,O.hid,O.gl 2 n4 (elV tp2 fd1) 72],none)
 | .L4 ie0 ne1 ne2 ie3 ie4 ie5 ne6 ie7 ie8 ie9 ie10 fe11=>([(5,vi ie0),(4,V.go 2 ne1 ne2),(28,V.go 2 ne1 ne2),(27,vi ie3),(26,V.gs 2 n4),(25,V.kb true),(24,V.agg [vi ie4,vi ie5]),(23,V.pe 2 ne6 0),(22,vi ie7),(21,vi ie3),(20,V.gs 2 n4),(19,V.agg [vi ie8,vi ie9]),(18,V.pe 2 ne1 0),(17,vi ie3),(16,V.gs 2 n4),(13,V.kb true),(12,vi (↑n4:Int)),(11,V.gs 2 n4),(10,vi ie3),(3,vi ie10),(8,V.kb false),(7,vi (↑n4:Int)),(6,V.gs 2 n4),(2,V.ns),(0,V.gs 2 n4)],[O.cells [V.str s2,vi x3,V.sl n4 (elV tp2 f4),vi x6] 54,O.hid,O.gl 2 n4 (elV tp2 fe11) 72],none)
 | .L5 if0 nf1 nf2 if3 if4 if5 nf6 if7 if8 if9 if10 ff11=>([(5,vi if0),(4,V.go 2 nf1 nf2),(28,V.go 2 nf1 nf2),(27,vi if3),(26,V.gs 2 n4),(25,V.kb true),(24,V.agg [vi if4,vi if5]),(23,V.pe 2 nf6 0),(22,vi if7),(21,vi if3),(20,V.gs 2 n4),(19,V.agg [vi if8,vi if9]),(18,V.pe 2 nf1 0),(17,vi if3),(16,V.gs 2 n4),(13,V.kb true),(12,vi (↑n4:Int)),(11,V.gs 2 n4),(10,vi if3),(3,vi if10),(8,V.kb false),(7,vi (↑n4:Int)),(6,V.gs 2 n4),(2,V.ns),(0,V.gs 2 n4)],[O.cells [V.str s2,vi x3,V.sl n4 (elV tp2 f4),vi x6] 54,O.hid,O.gl 2 n4 (elV tp2 ff11) 72],none)
 | .L6 ig0 ng1 ng2 ig3 ig4 ig5 ng6 ig7 ig8 ig9 ig10 fg11=>([(5,vi ig0),(4,V.go 2 ng1 ng2),(28,V.go 2 ng1 ng2),(27,vi ig3),(26,V.gs 2 n4),(25,V.kb true),(24,V.agg [vi ig4,vi ig5]),(23,V.pe 2 ng6 0),(22,vi ig7),(21,vi ig3),(20,V.gs 2 n4),(19,V.agg [vi ig8,vi ig9]),(18,V.pe 2 ng1 0),(17,vi ig3),(16,V.gs 2 n4),(13,V.kb true),(12,vi (↑n4:Int)),(11,V.gs 2 n4),(10,vi ig3),(3,vi ig10),(8,V.kb false),(7,vi (↑n4:Int)),(6,V.gs 2 n4),(2,V.ns),(0,V.gs 2 n4)],[O.cells [V.str s2,vi x3,V.sl n4 (elV tp2 f4),vi x6] 54,O.hid,O.gl 2 n4 (elV tp2 fg11) 72],none)
 | .L7 ih0 nh1 nh2 ih3 ih4 ih5 nh6 ih7 ih8 ih9 ih10 fh11=>([(5,vi ih0),(4,V.go 2 nh1 nh2),(28,V.go 2 nh1 nh2),(27,vi ih3),(26,V.gs 2 n4),(25,V.kb true),(24,V.agg [vi ih4,vi ih5]),(23,V.pe 2 nh6 0),(22,vi ih7),(21,vi ih3),(20,V.gs 2 n4),(19,V.agg [vi ih8,vi ih9]),(18,V.pe 2 nh1 0),(17,vi ih3),(16,V.gs 2 n4),(13,V.kb true),(12,vi (↑n4:Int)),(11,V.gs 2 n4),(10,vi ih3),(3,vi ih10),(8,V.kb false),(7,vi (↑n4:Int)),(6,V.gs 2 n4),(2,V.ns),(0,V.gs 2 n4)],[O.cells [V.str s2,vi x3,V.sl n4 (elV tp2 f4),vi x6] 54,O.hid,O.gl 2 n4 (elV tp2 fh11) 72],none)
def PT:S63->JJ
 | .L0 ia0 fa1=>(0,[])
 | .L1 ib0 fb1=>(1,[])
 | .L2 ic0 fc1=>(2,[])
 | .L3 id0 fd1=>(3,[])
 | .L4 ie0 ne1 ne2 ie3 ie4 ie5 ne6 ie7 ie8 ie9 ie10 fe11=>(4,[])
 | .L5 if0 nf1 nf2 if3 if4 if5 nf6 if7 if8 if9 if10 ff11=>(5,[])
 | .L6 ig0 ng1 ng2 ig3 ig4 ig5 ng6 ig7 ig8 ig9 ig10 fg11=>(6,[])
 | .L7 ih0 nh1 nh2 ih3 ih4 ih5 nh6 ih7 ih8 ih9 ih10 fh11=>(7,[])
def E5 (n0:Nat) (f0:FnV) (s2:ByteArray) (x3:Int) (n4:Nat) (f4:FnV) (x6:Int):T (bF JJ):=aZ JJ lX u0 s63 [V.sl n0 (elV tyR f0),V.agg [V.str s2,vi x3,V.sl n4 (elV tp2 f4),vi x6]]
def xZ (n0:Nat) (f0:FnV) (s2:ByteArray) (x3:Int) (n4:Nat) (f4:FnV) (x6:Int) (cx:List Cx):Lp JJ:=lpT (atT (E5 n0 f0 s2 x3 n4 f4 x6) [false,false,false,false,false,true,false,true,true,false,true,false])
def C1 (n0:Nat) (f0:FnV) (s2:ByteArray) (x3:Int) (n4:Nat) (f4:FnV) (x6:Int) (cx:List Cx):Lp JJ:=lpT (atT (E5 n0 f0 s2 x3 n4 f4 x6) [false,false,false,false,false,true,false,true,true,false,false,false])
def Dj (n0:Nat) (f0:FnV) (s2:ByteArray) (x3:Int) (n4:Nat) (f4:FnV) (x6:Int) (cx:List Cx):Lp JJ:=lpT (atT (E5 n0 f0 s2 x3 n4 f4 x6) [false,false,false,false,false,true,false,true,false,false,false])
def DN (n0:Nat) (f0:FnV) (s2:ByteArray) (x3:Int) (n4:Nat) (f4:FnV) (x6:Int) (cx:List Cx):Lp JJ:=lpT (atT (E5 n0 f0 s2 x3 n4 f4 x6) [false,false,false,false,false,true,false,false,false,false])
def Jh (n0:Nat) (f0:FnV) (s2:ByteArray) (x3:Int) (n4:Nat) (f4:FnV) (x6:Int) (cx:List Cx):Lp JJ:=lpT (atT (rdP lX u0 (0,[]) (xZ n0 f0 s2 x3 n4 f4 x6 []) (wZ n0 f0 s2 x3 n4 f4 x6 (.L0 (0:Int) (fun _=>[])))) [true,true])
def H4 (n0:Nat) (f0:FnV) (s2:ByteArray) (x3:Int) (n4:Nat) (f4:FnV) (x6:Int) (cx:List Cx):Lp JJ:=lpT (atT (rdP lX u0 (1,[]) (C1 n0 f0 s2 x3 n4 f4 x6 []) (wZ n0 f0 s2 x3 n4 f4 x6 (.L1 (0:Int) (fun _=>[])))) [true,true])
def H9 (n0:Nat) (f0:FnV) (s2:ByteArray) (x3:Int) (n4:Nat) (f4:FnV) (x6:Int) (cx:List Cx):Lp JJ:=lpT (atT (rdP lX u0 (2,[]) (Dj n0 f0 s2 x3 n4 f4 x6 []) (wZ n0 f0 s2 x3 n4 f4 x6 (.L2 (0:Int) (fun _=>[])))) [true,true])
def I7 (n0:Nat) (f0:FnV) (s2:ByteArray) (x3:Int) (n4:Nat) (f4:FnV) (x6:Int) (cx:List Cx):Lp JJ:=lpT (atT (rdP lX u0 (3,[]) (DN n0 f0 s2 x3 n4 f4 x6 []) (wZ n0 f0 s2 x3 n4 f4 x6 (.L3 (0:Int) (fun _=>[])))) [true,true])
def Rs (n0:Nat) (f0:FnV) (s2:ByteArray) (x3:Int) (n4:Nat) (f4:FnV) (x6:Int):JJ->Lp JJ
 | (0,cx)=>xZ n0 f0 s2 x3 n4 f4 x6 cx
 | (1,cx)=>C1 n0 f0 s2 x3 n4 f4 x6 cx
 | (2,cx)=>Dj n0 f0 s2 x3 n4 f4 x6 cx
 | (3,cx)=>DN n0 f0 s2 x3 n4 f4 x6 cx
 | (4,cx)=>Jh n0 f0 s2 x3 n4 f4 x6 cx
 | (5,cx)=>H4 n0 f0 s2 x3 n4 f4 x6 cx
 | (6,cx)=>H9 n0 f0 s2 x3 n4 f4 x6 cx
 | (7,cx)=>I7 n0 f0 s2 x3 n4 f4 x6 cx
 | (_,cx)=>xZ n0 f0 s2 x3 n4 f4 x6 cx
def D63 (n0:Nat) (f0:FnV) (s2:ByteArray) (x3:Int) (n4:Nat) (f4:FnV) (x6:Int):LD JJ S63:=⟨PT,Rs n0 f0 s2 x3 n4 f4 x6,wZ n0 f0 s2 x3 n4 f4 x6⟩
def ll (n0:Nat) (f0:FnV) (s2:ByteArray) (x3:Int) (n4:Nat) (f4:FnV) (x6:Int):S63->RT S63
 | .L0 ia0 fa1=>.br (decide (ia0 < (↑n4:Int))) (.ob (decide (0<=ia0/\ia0 < (↑n4:Int)/\n4<=n4)) (.ob (decide (ia0.toNat < n4)) (.ob (decide (0<=i64.wrap (ia0 - 1)/\i64.wrap (ia0 - 1) < (↑n4:Int)/\n4<=n4)) (.ob (decide ((i64.wrap (ia0 - 1)).toNat < n4)) (.br (jv0 (fa1 ia0.toNat) == jv0 (fa1 (i64.wrap (ia0 - 1)).toNat) && (jv1 (fa1 ia0.toNat) == jv1 (fa1 (i64.wrap (ia0 - 1)).toNat) && true)) (.ob (decide (0<=ia0/\ia0<=(↑n4:Int))) (.enter (iR 0 3 []) (S63.L4 (1) (ia0.toNat) (n4 - ia0.toNat) (ia0) (jv0 (fa1 (i64.wrap (ia0 - 1)).toNat)) (jv1 (fa1 (i64.wrap (ia0 - 1)).toNat)) ((i64.wrap (ia0 - 1)).toNat) (i64.wrap (ia0 - 1)) (jv0 (fa1 ia0.toNat)) (jv1 (fa1 ia0.toNat)) (ia0) (elV tp2 fa1)) [⟨2,tp2,n4,elV tp2 fa1,ah rfl _ _⟩])) (.next (iR 0 3 []) (S63.L0 (i64.wrap (ia0+1)) (elV tp2 fa1)) [⟨2,tp2,n4,elV tp2 fa1,ah rfl _ _⟩])))))) (.asm (true=true->n4<=9223372036854775807) (.br (decide ((↑n4:Int) < (↑n4:Int))) (.ret (vi 2)) (.obi (.obi (.asm ((x3 == 3)=true->n4<=9223372036854775807) (.obi (.obi (.br (bif x3 == 3 then decide (2 < (↑n4:Int)) else false) (.ret (vi 2)) (.ret (vi 0))))))))))
 | .L1 ib0 fb1=>.br (decide (ib0 < (↑n4:Int))) (.ob (decide (0<=ib0/\ib0 < (↑n4:Int)/\n4<=n4)) (.ob (decide (ib0.toNat < n4)) (.ob (decide (0<=i64.wrap (ib0 - 1)/\i64.wrap (ib0 - 1) < (↑n4:Int)/\n4<=n4)) (.ob (decide ((i64.wrap (ib0 - 1)).toNat < n4)) (.br (jv0 (fb1 ib0.toNat) == jv0 (fb1 (i64.wrap (ib0 - 1)).toNat) && (jv1 (fb1 ib0.toNat) == jv1 (fb1 (i64.wrap (ib0 - 1)).toNat) && true)) (.ob (decide (0<=ib0/\ib0<=(↑n4:Int))) (.enter (iR 0 3 []) (S63.L5 (1) (ib0.toNat) (n4 - ib0.toNat) (ib0) (jv0 (fb1 (i64.wrap (ib0 - 1)).toNat)) (jv1 (fb1 (i64.wrap (ib0 - 1)).toNat)) ((i64.wrap (ib0 - 1)).toNat) (i64.wrap (ib0 - 1)) (jv0 (fb1 ib0.toNat)) (jv1 (fb1 ib0.toNat)) (ib0) (elV tp2 fb1)) [⟨2,tp2,n4,elV tp2 fb1,ah rfl _ _⟩])) (.next (iR 0 3 []) (S63.L1 (i64.wrap (ib0+1)) (elV tp2 fb1)) [⟨2,tp2,n4,elV tp2 fb1,ah rfl _ _⟩])))))) (.br (decide ((↑n4:Int) < (↑n4:Int))) (.ret (vi 2)) (.obi (.obi (.asm ((x3 == 3)=true->n4<=9223372036854775807) (.obi (.obi (.br (bif x3 == 3 then decide (2 < (↑n4:Int)) else false) (.ret (vi 2)) (.ret (vi 0)))))))))
 | .L2 ic0 fc1=>.br (decide (ic0 < (↑n4:Int))) (.ob (decide (0<=ic0/\ic0 < (↑n4:Int)/\n4<=n4)) (.ob (decide (ic0.toNat < n4)) (.ob (decide (0<=i64.wrap (ic0 - 1)/\i64.wrap (ic0 - 1) < (↑n4:Int)/\n4<=n4)) (.ob (decide ((i64.wrap (ic0 - 1)).toNat < n4)) (.br (jv0 (fc1 ic0.toNat) == jv0 (fc1 (i64.wrap (ic0 - 1)).toNat) && (jv1 (fc1 ic0.toNat) == jv1 (fc1 (i64.wrap (ic0 - 1)).toNat) && true)) (.ob (decide (0<=ic0/\ic0<=(↑n4:Int))) (.enter (iR 0 3 []) (S63.L6 (1) (ic0.toNat) (n4 - ic0.toNat) (ic0) (jv0 (fc1 (i64.wrap (ic0 - 1)).toNat)) (jv1 (fc1 (i64.wrap (ic0 - 1)).toNat)) ((i64.wrap (ic0 - 1)).toNat) (i64.wrap (ic0 - 1)) (jv0 (fc1 ic0.toNat)) (jv1 (fc1 ic0.toNat)) (ic0) (elV tp2 fc1)) [⟨2,tp2,n4,elV tp2 fc1,ah rfl _ _⟩])) (.next (iR 0 3 []) (S63.L2 (i64.wrap (ic0+1)) (elV tp2 fc1)) [⟨2,tp2,n4,elV tp2 fc1,ah rfl _ _⟩])))))) (.br (decide ((↑n4:Int) < (↑n4:Int))) (.ret (vi 2)) (.obi (.obi (.asm ((x3 == 3)=true->n4<=9223372036854775807) (.obi (.obi (.br (bif x3 == 3 then decide (2 < (↑n4:Int)) else false) (.ret (vi 2)) (.ret (vi 0)))))))))
 | .L3 id0 fd1=>.br (decide (id0 < (↑n4:Int))) (.ob (decide (0<=id0/\id0 < (↑n4:Int)/\n4<=n4)) (.ob (decide (id0.toNat < n4)) (.ob (decide (0<=i64.wrap (id0 - 1)/\i64.wrap (id0 - 1) < (↑n4:Int)/\n4<=n4)) (.ob (decide ((i64.wrap (id0 - 1)).toNat < n4)) (.br (jv0 (fd1 id0.toNat) == jv0 (fd1 (i64.wrap (id0 - 1)).toNat) && (jv1 (fd1 id0.toNat) == jv1 (fd1 (i64.wrap (id0 - 1)).toNat) && true)) (.ob (decide (0<=id0/\id0<=(↑n4:Int))) (.enter (iR 0 3 []) (S63.L7 (1) (id0.toNat) (n4 - id0.toNat) (id0) (jv0 (fd1 (i64.wrap (id0 - 1)).toNat)) (jv1 (fd1 (i64.wrap (id0 - 1)).toNat)) ((i64.wrap (id0 - 1)).toNat) (i64.wrap (id0 - 1)) (jv0 (fd1 id0.toNat)) (jv1 (fd1 id0.toNat)) (id0) (elV tp2 fd1)) [⟨2,tp2,n4,elV tp2 fd1,ah rfl _ _⟩])) (.next (iR 0 3 []) (S63.L3 (i64.wrap (id0+1)) (elV tp2 fd1)) [⟨2,tp2,n4,elV tp2 fd1,ah rfl _ _⟩])))))) (.br (decide ((↑n4:Int) < (↑n4:Int))) (.ret (vi 2)) (.obi (.obi (.asm ((x3 == 3)=true->n4<=9223372036854775807) (.obi (.obi (.br (bif x3 == 3 then decide (2 < (↑n4:Int)) else false) (.ret (vi 2)) (.ret (vi 0)))))))))
 | .L4 ie0 ne1 ne2 ie3 ie4 ie5 ne6 ie7 ie8 ie9 ie10 fe11=>.br (decide (ie0 < (↑ne2:Int))) (.ob (decide (0<=ie0/\ie0 < (↑ne2:Int)/\ne1+ne2<=n4)) (.ob (decide (ne1+ie0.toNat < n4)) (.ob (decide (0<=i64.wrap (ie0 - 1)/\i64.wrap (ie0 - 1) < (↑ne2:Int)/\ne1+ne2<=n4)) (.ob (decide (ne1+(i64.wrap (ie0 - 1)).toNat < n4)) (.br (!(jv0 (fe11 (ne1+ie0.toNat)) == jv0 (fe11 (ne1+(i64.wrap (ie0 - 1)).toNat)) && (jv1 (fe11 (ne1+ie0.toNat)) == jv1 (fe11 (ne1+(i64.wrap (ie0 - 1)).toNat)) && true))) (.ob (decide (0<=ie0/\ie0 < (↑ne2:Int)/\ne1+ne2<=n4)) (.ob (decide (ne1+ie0.toNat < n4)) (.ob (decide (0<=ie10/\ie10 < (↑n4:Int)/\n4<=n4)) (.ob (decide (ie10.toNat < n4)) (.next (iR 0 3 []) (S63.L4 (i64.wrap (ie0+1)) (ne1) (ne2) (ie3) (ie4) (ie5) (ne6) (ie7) (ie8) (ie9) (i64.wrap (ie10+1)) (fun i'=>bif i'.beq ie10.toNat then [vi (jv0 (fe11 (ne1+ie0.toNat))),vi (jv1 (fe11 (ne1+ie0.toNat)))] else elV tp2 fe11 i')) [⟨2,tp2,n4,fun i'=>bif i'.beq ie10.toNat then [vi (jv0 (fe11 (ne1+ie0.toNat))),vi (jv1 (fe11 (ne1+ie0.toNat)))] else elV tp2 fe11 i',vp rfl (ah rfl _ _) rfl⟩]))))) (.next (iR 0 3 []) (S63.L4 (i64.wrap (ie0+1)) (ne1) (ne2) (ie3) (ie4) (ie5) (ne6) (ie7) (ie8) (ie9) (ie10) (elV tp2 fe11)) [⟨2,tp2,n4,elV tp2 fe11,ah rfl _ _⟩])))))) (.ob (decide (0<=ie10/\ie10<=(↑n4:Int))) (.ob (decide (0 < n4 - ie10.toNat/\ie10.toNat+(n4 - ie10.toNat)<=n4)) (.ob (decide (0<=ie10/\ie10<=(↑n4:Int))) (.asm (true=true->n4<=9223372036854775807) (.br (decide ((↑ie10.toNat:Int) < (↑n4:Int))) (.ret (vi 2)) (.obi (.obi (.asm ((x3 == 3)=true->n4<=9223372036854775807) (.obi (.obi (.br (bif x3 == 3 then decide (2 < (↑n4:Int)) else false) (.ret (vi 2)) (.ret (vi 0)))))))))))))
 | .L5 if0 nf1 nf2 if3 if4 if5 nf6 if7 if8 if9 if10 ff11=>.br (decide (if0 < (↑nf2:Int))) (.ob (decide (0<=if0/\if0 < (↑nf2:Int)/\nf1+nf2<=n4)) (.ob (decide (nf1+if0.toNat < n4)) (.ob (decide (0<=i64.wrap (if0 - 1)/\i64.wrap (if0 - 1) < (↑nf2:Int)/\nf1+nf2<=n4)) (.ob (decide (nf1+(i64.wrap (if0 - 1)).toNat < n4)) (.br (!(jv0 (ff11 (nf1+if0.toNat)) == jv0 (ff11 (nf1+(i64.wrap (if0 - 1)).toNat)) && (jv1 (ff11 (nf1+if0.toNat)) == jv1 (ff11 (nf1+(i64.wrap (if0 - 1)).toNat)) && true))) (.ob (decide (0<=if0/\if0 < (↑nf2:Int)/\nf1+nf2<=n4)) (.ob (decide (nf1+if0.toNat < n4)) (.ob (decide (0<=if10/\if10 < (↑n4:Int)/\n4<=n4)) (.ob (decide (if10.toNat < n4)) (.next (iR 0 3 []) (S63.L5 (i64.wrap (if0+1)) (nf1) (nf2) (if3) (if4) (if5) (nf6) (if7) (if8) (if9) (i64.wrap (if10+1)) (fun i'=>bif i'.beq if10.toNat then [vi (jv0 (ff11 (nf1+if0.toNat))),vi (jv1 (ff11 (nf1+if0.toNat)))] else elV tp2 ff11 i')) [⟨2,tp2,n4,fun i'=>bif i'.beq if10.toNat then [vi (jv0 (ff11 (nf1+if0.toNat))),vi (jv1 (ff11 (nf1+if0.toNat)))] else elV tp2 ff11 i',vp rfl (ah rfl _ _) rfl⟩]))))) (.next (iR 0 3 []) (S63.L5 (i64.wrap (if0+1)) (nf1) (nf2) (if3) (if4) (if5) (nf6) (if7) (if8) (if9) (if10) (elV tp2 ff11)) [⟨2,tp2,n4,elV tp2 ff11,ah rfl _ _⟩])))))) (.ob (decide (0<=if10/\if10<=(↑n4:Int))) (.ob (decide (0 < n4 - if10.toNat/\if10.toNat+(n4 - if10.toNat)<=n4)) (.ob (decide (0<=if10/\if10<=(↑n4:Int))) (.br (decide ((↑if10.toNat:Int) < (↑n4:Int))) (.ret (vi 2)) (.obi (.obi (.asm ((x3 == 3)=true->n4<=9223372036854775807) (.obi (.obi (.br (bif x3 == 3 then decide (2 < (↑n4:Int)) else false) (.ret (vi 2)) (.ret (vi 0))))))))))))
 | .L6 ig0 ng1 ng2 ig3 ig4 ig5 ng6 ig7 ig8 ig9 ig10 fg11=>.br (decide (ig0 < (↑ng2:Int))) (.ob (decide (0<=ig0/\ig0 < (↑ng2:Int)/\ng1+ng2<=n4)) (.ob (decide (ng1+ig0.toNat < n4)) (.ob (decide (0<=i64.wrap (ig0 - 1)/\i64.wrap (ig0 - 1) < (↑ng2:Int)/\ng1+ng2<=n4)) (.ob (decide (ng1+(i64.wrap (ig0 - 1)).toNat < n4)) (.br (!(jv0 (fg11 (ng1+ig0.toNat)) == jv0 (fg11 (ng1+(i64.wrap (ig0 - 1)).toNat)) && (jv1 (fg11 (ng1+ig0.toNat)) == jv1 (fg11 (ng1+(i64.wrap (ig0 - 1)).toNat)) && true))) (.ob (decide (0<=ig0/\ig0 < (↑ng2:Int)/\ng1+ng2<=n4)) (.ob (decide (ng1+ig0.toNat < n4)) (.ob (decide (0<=ig10/\ig10 < (↑n4:Int)/\n4<=n4)) (.ob (decide (ig10.toNat < n4)) (.next (iR 0 3 []) (S63.L6 (i64.wrap (ig0+1)) (ng1) (ng2) (ig3) (ig4) (ig5) (ng6) (ig7) (ig8) (ig9) (i64.wrap (ig10+1)) (fun i'=>bif i'.beq ig10.toNat then [vi (jv0 (fg11 (ng1+ig0.toNat))),vi (jv1 (fg11 (ng1+ig0.toNat)))] else elV tp2 fg11 i')) [⟨2,tp2,n4,fun i'=>bif i'.beq ig10.toNat then [vi (jv0 (fg11 (ng1+ig0.toNat))),vi (jv1 (fg11 (ng1+ig0.toNat)))] else elV tp2 fg11 i',vp rfl (ah rfl _ _) rfl⟩]))))) (.next (iR 0 3 []) (S63.L6 (i64.wrap (ig0+1)) (ng1) (ng2) (ig3) (ig4) (ig5) (ng6) (ig7) (ig8) (ig9) (ig10) (elV tp2 fg11)) [⟨2,tp2,n4,elV tp2 fg11,ah rfl _ _⟩])))))) (.ob (decide (0<=ig10/\ig10<=(↑n4:Int))) (.ob (decide (0 < n4 - ig10.toNat/\ig10.toNat+(n4 - ig10.toNat)<=n4)) (.ob (decide (0<=ig10/\ig10<=(↑n4:Int))) (.br (decide ((↑ig10.toNat:Int) < (↑n4:Int))) (.ret (vi 2)) (.obi (.obi (.asm ((x3 == 3)=true->n4<=9223372036854775807) (.obi (.obi (.br (bif x3 == 3 then decide (2 < (↑n4:Int)) else false) (.ret (vi 2)) (.ret (vi 0))))))))))))
 | .L7 ih0 nh1 nh2 ih3 ih4 ih5 nh6 ih7 ih8 ih9 ih10 fh11=>.br (decide (ih0 < (↑nh2:Int))) (.ob (decide (0<=ih0/\ih0 < (↑nh2:Int)/\nh1+nh2<=n4)) (.ob (decide (nh1+ih0.toNat < n4)) (.ob (decide (0<=i64.wrap (ih0 - 1)/\i64.wrap (ih0 - 1) < (↑nh2:Int)/\nh1+nh2<=n4)) (.ob (decide (nh1+(i64.wrap (ih0 - 1)).toNat < n4)) (.br (!(jv0 (fh11 (nh1+ih0.toNat)) == jv0 (fh11 (nh1+(i64.wrap (ih0 - 1)).toNat)) && (jv1 (fh11 (nh1+ih0.toNat)) == jv1 (fh11 (nh1+(i64.wrap (ih0 - 1)).toNat)) && true))) (.ob (decide (0<=ih0/\ih0 < (↑nh2:Int)/\nh1+nh2<=n4)) (.ob (decide (nh1+ih0.toNat < n4)) (.ob (decide (0<=ih10/\ih10 < (↑n4:Int)/\n4<=n4)) (.ob (decide (ih10.toNat < n4)) (.next (iR 0 3 []) (S63.L7 (i64.wrap (ih0+1)) (nh1) (nh2) (ih3) (ih4) (ih5) (nh6) (ih7) (ih8) (ih9) (i64.wrap (ih10+1)) (fun i'=>bif i'.beq ih10.toNat then [vi (jv0 (fh11 (nh1+ih0.toNat))),vi (jv1 (fh11 (nh1+ih0.toNat)))] else elV tp2 fh11 i')) [⟨2,tp2,n4,fun i'=>bif i'.beq ih10.toNat then [vi (jv0 (fh11 (nh1+ih0.toNat))),vi (jv1 (fh11 (nh1+ih0.toNat)))] else elV tp2 fh11 i',vp rfl (ah rfl _ _) rfl⟩]))))) (.next (iR 0 3 []) (S63.L7 (i64.wrap (ih0+1)) (nh1) (nh2) (ih3) (ih4) (ih5) (nh6) (ih7) (ih8) (ih9) (ih10) (elV tp2 fh11)) [⟨2,tp2,n4,elV tp2 fh11,ah rfl _ _⟩])))))) (.ob (decide (0<=ih10/\ih10<=(↑n4:Int))) (.ob (decide (0 < n4 - ih10.toNat/\ih10.toNat+(n4 - ih10.toNat)<=n4)) (.ob (decide (0<=ih10/\ih10<=(↑n4:Int))) (.br (decide ((↑ih10.toNat:Int) < (↑n4:Int))) (.ret (vi 2)) (.obi (.obi (.asm ((x3 == 3)=true->n4<=9223372036854775807) (.obi (.obi (.br (bif x3 == 3 then decide (2 < (↑n4:Int)) else false) (.ret (vi 2)) (.ret (vi 0))))))))))))
def m63 (n0:Nat) (f0:FnV) (s2:ByteArray) (x3:Int) (n4:Nat) (f4:FnV) (x6:Int):RT S63:=.obp (s2.size<=(9223372036854775807:Nat)) (.obt (.br (!jF s2) (.ret (vi 6)) (.obc (.obt (.br (oT n0 (elV tyR f0) s2) (.ret (vi 5)) (.obc (.obt (.br (aT x3 0 3) (.ret (vi 2)) (.asm (true=true->n4<=9223372036854775807) (.br (decide ((↑n4:Int) < 2)) (.ret (vi 4)) (.asm (true=true->n4<=9223372036854775807) (.br (decide (8 < (↑n4:Int))) (.ret (vi 3)) (.obc (.obt (.obi (.br (!fW n4 (elV tp2 f4)) (.ob (!fW n4 (elV tp2 f4)) (.obc (.obt (.br (aT x6 100 30000) (.ret (vi 7)) (.und (.und (.und (.asm (n4=0) (.und (.brt (.asm (true=true->n4<=9223372036854775807) (.br (decide (0 < (↑n4:Int))) (.ret (vi 2)) (.obi (.obi (.asm ((x3 == 3)=true->n4<=9223372036854775807) (.obi (.obi (.br (bif x3 == 3 then decide (2 < (↑n4:Int)) else false) (.ret (vi 2)) (.ret (vi 0))))))))))) (.asm (true=true->n4<=9223372036854775807) (.brt (.br (decide (0 < (↑n4:Int))) (.ret (vi 2)) (.obi (.obi (.asm ((x3 == 3)=true->n4<=9223372036854775807) (.obi (.obi (.br (bif x3 == 3 then decide (2 < (↑n4:Int)) else false) (.ret (vi 2)) (.ret (vi 0))))))))))))) (.obv (iL n4 fun i=>okE 2 (elV tp2 f4 i)) (uN rfl _ _) (.ob (decide (n4 * 16<=140737488355328) && !Nat.beq 16 0) (.und (.br (decide ((↑n4:Int) < 2)) (.asm (true=true->n4<=9223372036854775807) (.br (decide ((↑n4:Int) < (↑n4:Int))) (.ret (vi 2)) (.obi (.obi (.asm ((x3 == 3)=true->n4<=9223372036854775807) (.obi (.obi (.br (bif x3 == 3 then decide (2 < (↑n4:Int)) else false) (.ret (vi 2)) (.ret (vi 0)))))))))) (.enter (iR 0 3 []) (S63.L0 (1) (elV tp2 f4)) [⟨2,tp2,n4,elV tp2 f4,ah rfl _ _⟩])) (.asm (true=true->n4<=9223372036854775807) (.br (decide ((↑n4:Int) < 2)) (.br (decide ((↑n4:Int) < (↑n4:Int))) (.ret (vi 2)) (.obi (.obi (.asm ((x3 == 3)=true->n4<=9223372036854775807) (.obi (.obi (.br (bif x3 == 3 then decide (2 < (↑n4:Int)) else false) (.ret (vi 2)) (.ret (vi 0))))))))) (.enter (iR 0 3 []) (S63.L1 (1) (elV tp2 f4)) [⟨2,tp2,n4,elV tp2 f4,ah rfl _ _⟩]))))))) (.asm (true=true->n4<=9223372036854775807) (.und (.asm (n4=0) (.brt (.br (decide (0 < (↑n4:Int))) (.ret (vi 2)) (.obi (.obi (.asm ((x3 == 3)=true->n4<=9223372036854775807) (.obi (.obi (.br (bif x3 == 3 then decide (2 < (↑n4:Int)) else false) (.ret (vi 2)) (.ret (vi 0))))))))))) (.obv (iL n4 fun i=>okE 2 (elV tp2 f4 i)) (uN rfl _ _) (.ob (decide (n4 * 16<=140737488355328) && !Nat.beq 16 0) (.br (decide ((↑n4:Int) < 2)) (.br (decide ((↑n4:Int) < (↑n4:Int))) (.ret (vi 2)) (.obi (.obi (.asm ((x3 == 3)=true->n4<=9223372036854775807) (.obi (.obi (.br (bif x3 == 3 then decide (2 < (↑n4:Int)) else false) (.ret (vi 2)) (.ret (vi 0))))))))) (.enter (iR 0 3 []) (S63.L2 (1) (elV tp2 f4)) [⟨2,tp2,n4,elV tp2 f4,ah rfl _ _⟩]))))))) (.asm (true=true->n4<=9223372036854775807) (.und (.asm (n4=0) (.brt (.br (decide (0 < (↑n4:Int))) (.ret (vi 2)) (.obi (.obi (.asm ((x3 == 3)=true->n4<=9223372036854775807) (.obi (.obi (.br (bif x3 == 3 then decide (2 < (↑n4:Int)) else false) (.ret (vi 2)) (.ret (vi 0))))))))))) (.obv (iL n4 fun i=>okE 2 (elV tp2 f4 i)) (uN rfl _ _) (.ob (decide (n4 * 16<=140737488355328) && !Nat.beq 16 0) (.br (decide ((↑n4:Int) < 2)) (.br (decide ((↑n4:Int) < (↑n4:Int))) (.ret (vi 2)) (.obi (.obi (.asm ((x3 == 3)=true->n4<=9223372036854775807) (.obi (.obi (.br (bif x3 == 3 then decide (2 < (↑n4:Int)) else false) (.ret (vi 2)) (.ret (vi 0))))))))) (.enter (iR 0 3 []) (S63.L3 (1) (elV tp2 f4)) [⟨2,tp2,n4,elV tp2 f4,ah rfl _ _⟩]))))))))))) (.ret (vi 7))))))))))))))))))
theorem K2 (n0:Nat) (f0:FnV) (s2:ByteArray) (x3:Int) (n4:Nat) (f4:FnV) (x6:Int):ep lX u0 (D63 n0 f0 s2 x3 n4 f4 x6) (E5 n0 f0 s2 x3 n4 f4 x6) (m63 n0 f0 s2 x3 n4 f4 x6) (ll n0 f0 s2 x3 n4 f4 x6):=⟨⟨by kernel_rfl,by kernel_rfl⟩,fun s=>by cases s <;> exact ⟨by kernel_rfl,by kernel_rfl⟩⟩
def eqP (f:Nat->List V) (i j:Nat):Bool:=jv0 (f i) == jv0 (f j) && (jv1 (f i) == jv1 (f j) && true)
def fD (n:Nat) (f:Nat->List V):Bool:=exB n fun i=>decide (0 < i) && eqP f i (i - 1)
def eG (x3:Int) (n4:Nat):Int:=bif bif x3 == 3 then decide (2 < (n4:Int)) else false then 2 else 0
def F63 (n0:Nat) (f0:FnV) (s2:ByteArray) (x3:Int) (n4:Nat) (f4:FnV) (x6:Int):Int:=bif !jF s2 then 6 else bif oT n0 f0 s2 then 5 else bif aT x3 0 3 then 2 else bif decide ((n4:Int) < 2) then 4 else bif decide (8 < (n4:Int)) then 3 else bif !!fW n4 f4 then 7 else bif aT x6 100 30000 then 7 else bif fD n4 f4 then 2 else eG x3 n4
theorem iI {S:Type} {Nx:S->V->Prop} {x3:Int} {n4:Nat} {q:Prop}:evR Nx (.obi (.obi (.asm q (.obi (.obi (.br (bif x3 == 3 then decide (2 < (n4:Int)) else false) (.ret (.int .i64 2)) (.ret (.int .i64 0)))))))) (.int .i64 (eG x3 n4)):=by
 refine ae (ae (bH fun _=>ae (ae (aC (fun h=>evRet ?_) (fun h=>evRet ?_))))) <;> (unfold eG; rw [h]; rfl)
theorem NT (n0:Nat) (f0:FnV) (s2:ByteArray) (x3:Int) (n4:Nat) (f4:FnV) (x6:Int) (h8:n4<=8) (k0:Nat) (hk:1<=k0) (hk':k0 < n4) (t1 t2 t3:Int) (t4:Nat) (t5 t6 t7:Int):∀ k2:Nat,k2<=n4 - k0->1<=k2->∀ (k:Nat) (f:Nat->List V),k+1<=k0+k2->Ev (ll n0 f0 s2 x3 n4 f4 x6) (.L4 k2 k0 (n4 - k0) t1 t2 t3 t4 t5 t6 t7 k f) (.int .i64 2):=by
 refine bJ fun k2 hk2 ih h1 k f hkk=>Ev.of rfl ?_
 have w1:i64.wrap ((k2:Int) - 1)=((k2 - 1:Nat):Int):=by rw [av (by omega) (by omega)]; omega
 have w2:i64.wrap ((k2:Int)+1)=((k2+1:Nat):Int):=by rw [av (by omega) (by omega)]; omega
 have w3:i64.wrap ((k:Int)+1)=((k+1:Nat):Int):=by rw [av (by omega) (by omega)]; omega
 refine aC (fun h=>?_) (fun h=>?_)
 ·have hlt:k2 < n4 - k0:=by have:=of_decide_eq_true h; omega
  refine ar (dqt (by omega)) (ar (dqt (by omega)) (ar (dqt (by rw [w1]; omega)) (ar (dqt (by rw [w1]; omega)) (aC (fun _=>?_) (fun _=>?_)))))
  ·refine ar (dqt (by omega)) (ar (dqt (by omega)) (ar (dqt (by omega)) (ar (dqt (by omega)) (aL ?_))))
   rw [w2,w3]
   exact ih hlt (by omega) (k+1) _ (by omega)
  ·refine aL ?_
   rw [w2]
   exact ih hlt (by omega) k _ (by omega)
 ·have hge:¬ k2 < n4 - k0:=by have:=of_decide_eq_false h; omega
  refine ar (dqt (by omega)) (ar (dqt (by omega)) (ar (dqt (by omega)) ?_))
  try refine bH fun _=>?_
  exact dT (dqt (by omega)) (evRet rfl)
theorem Ke (n0:Nat) (f0:FnV) (s2:ByteArray) (x3:Int) (n4:Nat) (f4:FnV) (x6:Int) (h8:n4<=8) (h2:2<=n4):∀ i:Nat,i<=n4->1<=i->(∀ j,j < i->(decide (0 < j) && eqP f4 j (j - 1))=false)->∀ f:Nat->List V,(∀ i j,eqP f i j=eqP f4 i j)->Ev (ll n0 f0 s2 x3 n4 f4 x6) (.L0 i f) (.int .i64 (bif fD n4 f4 then 2 else eG x3 n4)):=by
 refine bJ fun i hi ih h1 hj f hf=>Ev.of rfl ?_
 have w1:i64.wrap ((i:Int) - 1)=((i - 1:Nat):Int):=by rw [av (by omega) (by omega)]; omega
 have w2:i64.wrap ((i:Int)+1)=((i+1:Nat):Int):=by rw [av (by omega) (by omega)]; omega
 refine aC (fun h=>?_) (fun h=>?_)
 ·have hlt:i < n4:=by have:=of_decide_eq_true h; omega
  refine ar (dqt (by omega)) (ar (dqt (by omega)) (ar (dqt (by rw [w1]; omega)) (ar (dqt (by rw [w1]; omega)) (aC (fun hb=>?_) (fun hb=>?_)))))
  ·have hb':eqP f4 i (i - 1)=true:=by
    rw [← hf]; rw [w1] at hb; simpa only [Int.toNat_natCast,eqP] using hb
   rw [show fD n4 f4=true from bz i hlt (by rw [hb']; simp; omega),cond_true]
   refine ar (dqt (by omega)) (aG ?_)
   have:=NT n0 f0 s2 x3 n4 f4 x6 h8 i h1 hlt
   simp only [Int.toNat_natCast]
   exact this _ _ _ _ _ _ _ 1 (by omega) (by omega) i _ (by omega)
  ·have hb':eqP f4 i (i - 1)=false:=by
    rw [← hf]; rw [w1] at hb; simpa only [Int.toNat_natCast,eqP] using hb
   refine aL ?_
   rw [w2]
   refine ih hlt (by omega) (fun j h3=>?_) _ (fun a b=>hf a b)
   by_cases e:j=i
   ·subst e; rw [hb',Bool.and_false]
   ·exact hj j (by omega)
 ·have:i=n4:=by have:=of_decide_eq_false h; omega
  subst this
  rw [show fD i f4=false from bG hj,cond_false]
  try refine bH fun _=>?_
  exact eC iI
theorem IS (n0:Nat) (f0:FnV) (s2:ByteArray) (x3:Int) (n4:Nat) (f4:FnV) (x6:Int) (h8:n4<=8) (h2:2<=n4) (f:Nat->List V) (hf:∀ i j,eqP f i j=eqP f4 i j):Ev (ll n0 f0 s2 x3 n4 f4 x6) (.L0 1 f) (.int .i64 (bif fD n4 f4 then 2 else eG x3 n4)):=Ke n0 f0 s2 x3 n4 f4 x6 h8 h2 1 (by omega) (Nat.le_refl _) (fun j hj=>by
 have:j=0:=by omega
 subst this; rfl) f hf
theorem KQ (n0:Nat) (f0:FnV) (s2:ByteArray) (x3:Int) (n4:Nat) (f4:FnV) (x6:Int) (h8:n4<=8) (k0:Nat) (hk:1<=k0) (hk':k0 < n4) (t1 t2 t3:Int) (t4:Nat) (t5 t6 t7:Int):∀ k2:Nat,k2<=n4 - k0->1<=k2->∀ (k:Nat) (f:Nat->List V),k+1<=k0+k2->Ev (ll n0 f0 s2 x3 n4 f4 x6) (.L5 k2 k0 (n4 - k0) t1 t2 t3 t4 t5 t6 t7 k f) (.int .i64 2):=by
 refine bJ fun k2 hk2 ih h1 k f hkk=>Ev.of rfl ?_
 have w1:i64.wrap ((k2:Int) - 1)=((k2 - 1:Nat):Int):=by rw [av (by omega) (by omega)]; omega
 have w2:i64.wrap ((k2:Int)+1)=((k2+1:Nat):Int):=by rw [av (by omega) (by omega)]; omega
 have w3:i64.wrap ((k:Int)+1)=((k+1:Nat):Int):=by rw [av (by omega) (by omega)]; omega
 refine aC (fun h=>?_) (fun h=>?_)
 ·have hlt:k2 < n4 - k0:=by have:=of_decide_eq_true h; omega
  refine ar (dqt (by omega)) (ar (dqt (by omega)) (ar (dqt (by rw [w1]; omega)) (ar (dqt (by rw [w1]; omega)) (aC (fun _=>?_) (fun _=>?_)))))
  ·refine ar (dqt (by omega)) (ar (dqt (by omega)) (ar (dqt (by omega)) (ar (dqt (by omega)) (aL ?_))))
   rw [w2,w3]
   exact ih hlt (by omega) (k+1) _ (by omega)
  ·refine aL ?_
   rw [w2]
   exact ih hlt (by omega) k _ (by omega)
 ·have hge:¬ k2 < n4 - k0:=by have:=of_decide_eq_false h; omega
  refine ar (dqt (by omega)) (ar (dqt (by omega)) (ar (dqt (by omega)) ?_))
  try refine bH fun _=>?_
  exact dT (dqt (by omega)) (evRet rfl)
theorem ME (n0:Nat) (f0:FnV) (s2:ByteArray) (x3:Int) (n4:Nat) (f4:FnV) (x6:Int) (h8:n4<=8) (h2:2<=n4):∀ i:Nat,i<=n4->1<=i->(∀ j,j < i->(decide (0 < j) && eqP f4 j (j - 1))=false)->∀ f:Nat->List V,(∀ i j,eqP f i j=eqP f4 i j)->Ev (ll n0 f0 s2 x3 n4 f4 x6) (.L1 i f) (.int .i64 (bif fD n4 f4 then 2 else eG x3 n4)):=by
 refine bJ fun i hi ih h1 hj f hf=>Ev.of rfl ?_
 have w1:i64.wrap ((i:Int) - 1)=((i - 1:Nat):Int):=by rw [av (by omega) (by omega)]; omega
 have w2:i64.wrap ((i:Int)+1)=((i+1:Nat):Int):=by rw [av (by omega) (by omega)]; omega
 refine aC (fun h=>?_) (fun h=>?_)
 ·have hlt:i < n4:=by have:=of_decide_eq_true h; omega
  refine ar (dqt (by omega)) (ar (dqt (by omega)) (ar (dqt (by rw [w1]; omega)) (ar (dqt (by rw [w1]; omega)) (aC (fun hb=>?_) (fun hb=>?_)))))
  ·have hb':eqP f4 i (i - 1)=true:=by
    rw [← hf]; rw [w1] at hb; simpa only [Int.toNat_natCast,eqP] using hb
   rw [show fD n4 f4=true from bz i hlt (by rw [hb']; simp; omega),cond_true]
   refine ar (dqt (by omega)) (aG ?_)
   have:=KQ n0 f0 s2 x3 n4 f4 x6 h8 i h1 hlt
   simp only [Int.toNat_natCast]
   exact this _ _ _ _ _ _ _ 1 (by omega) (by omega) i _ (by omega)
  ·have hb':eqP f4 i (i - 1)=false:=by
    rw [← hf]; rw [w1] at hb; simpa only [Int.toNat_natCast,eqP] using hb
   refine aL ?_
   rw [w2]
   refine ih hlt (by omega) (fun j h3=>?_) _ (fun a b=>hf a b)
   by_cases e:j=i
   ·subst e; rw [hb',Bool.and_false]
   ·exact hj j (by omega)
 ·have:i=n4:=by have:=of_decide_eq_false h; omega
  subst this
  rw [show fD i f4=false from bG hj,cond_false]
  try refine bH fun _=>?_
  exact eC iI
theorem Jg (n0:Nat) (f0:FnV) (s2:ByteArray) (x3:Int) (n4:Nat) (f4:FnV) (x6:Int) (h8:n4<=8) (h2:2<=n4) (f:Nat->List V) (hf:∀ i j,eqP f i j=eqP f4 i j):Ev (ll n0 f0 s2 x3 n4 f4 x6) (.L1 1 f) (.int .i64 (bif fD n4 f4 then 2 else eG x3 n4)):=ME n0 f0 s2 x3 n4 f4 x6 h8 h2 1 (by omega) (Nat.le_refl _) (fun j hj=>by
 have:j=0:=by omega
 subst this; rfl) f hf
theorem Mb (n0:Nat) (f0:FnV) (s2:ByteArray) (x3:Int) (n4:Nat) (f4:FnV) (x6:Int) (h8:n4<=8) (k0:Nat) (hk:1<=k0) (hk':k0 < n4) (t1 t2 t3:Int) (t4:Nat) (t5 t6 t7:Int):∀ k2:Nat,k2<=n4 - k0->1<=k2->∀ (k:Nat) (f:Nat->List V),k+1<=k0+k2->Ev (ll n0 f0 s2 x3 n4 f4 x6) (.L6 k2 k0 (n4 - k0) t1 t2 t3 t4 t5 t6 t7 k f) (.int .i64 2):=by
 refine bJ fun k2 hk2 ih h1 k f hkk=>Ev.of rfl ?_
 have w1:i64.wrap ((k2:Int) - 1)=((k2 - 1:Nat):Int):=by rw [av (by omega) (by omega)]; omega
 have w2:i64.wrap ((k2:Int)+1)=((k2+1:Nat):Int):=by rw [av (by omega) (by omega)]; omega
 have w3:i64.wrap ((k:Int)+1)=((k+1:Nat):Int):=by rw [av (by omega) (by omega)]; omega
 refine aC (fun h=>?_) (fun h=>?_)
 ·have hlt:k2 < n4 - k0:=by have:=of_decide_eq_true h; omega
  refine ar (dqt (by omega)) (ar (dqt (by omega)) (ar (dqt (by rw [w1]; omega)) (ar (dqt (by rw [w1]; omega)) (aC (fun _=>?_) (fun _=>?_)))))
  ·refine ar (dqt (by omega)) (ar (dqt (by omega)) (ar (dqt (by omega)) (ar (dqt (by omega)) (aL ?_))))
   rw [w2,w3]
   exact ih hlt (by omega) (k+1) _ (by omega)
  ·refine aL ?_
   rw [w2]
   exact ih hlt (by omega) k _ (by omega)
 ·have hge:¬ k2 < n4 - k0:=by have:=of_decide_eq_false h; omega
  refine ar (dqt (by omega)) (ar (dqt (by omega)) (ar (dqt (by omega)) ?_))
  try refine bH fun _=>?_
  exact dT (dqt (by omega)) (evRet rfl)
theorem On (n0:Nat) (f0:FnV) (s2:ByteArray) (x3:Int) (n4:Nat) (f4:FnV) (x6:Int) (h8:n4<=8) (h2:2<=n4):∀ i:Nat,i<=n4->1<=i->(∀ j,j < i->(decide (0 < j) && eqP f4 j (j - 1))=false)->∀ f:Nat->List V,(∀ i j,eqP f i j=eqP f4 i j)->Ev (ll n0 f0 s2 x3 n4 f4 x6) (.L2 i f) (.int .i64 (bif fD n4 f4 then 2 else eG x3 n4)):=by
 refine bJ fun i hi ih h1 hj f hf=>Ev.of rfl ?_
 have w1:i64.wrap ((i:Int) - 1)=((i - 1:Nat):Int):=by rw [av (by omega) (by omega)]; omega
 have w2:i64.wrap ((i:Int)+1)=((i+1:Nat):Int):=by rw [av (by omega) (by omega)]; omega
 refine aC (fun h=>?_) (fun h=>?_)
 ·have hlt:i < n4:=by have:=of_decide_eq_true h; omega
  refine ar (dqt (by omega)) (ar (dqt (by omega)) (ar (dqt (by rw [w1]; omega)) (ar (dqt (by rw [w1]; omega)) (aC (fun hb=>?_) (fun hb=>?_)))))
  ·have hb':eqP f4 i (i - 1)=true:=by
    rw [← hf]; rw [w1] at hb; simpa only [Int.toNat_natCast,eqP] using hb
   rw [show fD n4 f4=true from bz i hlt (by rw [hb']; simp; omega),cond_true]
   refine ar (dqt (by omega)) (aG ?_)
   have:=Mb n0 f0 s2 x3 n4 f4 x6 h8 i h1 hlt
   simp only [Int.toNat_natCast]
   exact this _ _ _ _ _ _ _ 1 (by omega) (by omega) i _ (by omega)
  ·have hb':eqP f4 i (i - 1)=false:=by
    rw [← hf]; rw [w1] at hb; simpa only [Int.toNat_natCast,eqP] using hb
   refine aL ?_
   rw [w2]
   refine ih hlt (by omega) (fun j h3=>?_) _ (fun a b=>hf a b)
   by_cases e:j=i
   ·subst e; rw [hb',Bool.and_false]
   ·exact hj j (by omega)
 ·have:i=n4:=by have:=of_decide_eq_false h; omega
  subst this
  rw [show fD i f4=false from bG hj,cond_false]
  try refine bH fun _=>?_
  exact eC iI
theorem Hr (n0:Nat) (f0:FnV) (s2:ByteArray) (x3:Int) (n4:Nat) (f4:FnV) (x6:Int) (h8:n4<=8) (h2:2<=n4) (f:Nat->List V) (hf:∀ i j,eqP f i j=eqP f4 i j):Ev (ll n0 f0 s2 x3 n4 f4 x6) (.L2 1 f) (.int .i64 (bif fD n4 f4 then 2 else eG x3 n4)):=On n0 f0 s2 x3 n4 f4 x6 h8 h2 1 (by omega) (Nat.le_refl _) (fun j hj=>by
 have:j=0:=by omega
 subst this; rfl) f hf
theorem Na (n0:Nat) (f0:FnV) (s2:ByteArray) (x3:Int) (n4:Nat) (f4:FnV) (x6:Int) (h8:n4<=8) (k0:Nat) (hk:1<=k0) (hk':k0 < n4) (t1 t2 t3:Int) (t4:Nat) (t5 t6 t7:Int):∀ k2:Nat,k2<=n4 - k0->1<=k2->∀ (k:Nat) (f:Nat->List V),k+1<=k0+k2->Ev (ll n0 f0 s2 x3 n4 f4 x6) (.L7 k2 k0 (n4 - k0) t1 t2 t3 t4 t5 t6 t7 k f) (.int .i64 2):=by
 refine bJ fun k2 hk2 ih h1 k f hkk=>Ev.of rfl ?_
 have w1:i64.wrap ((k2:Int) - 1)=((k2 - 1:Nat):Int):=by rw [av (by omega) (by omega)]; omega
 have w2:i64.wrap ((k2:Int)+1)=((k2+1:Nat):Int):=by rw [av (by omega) (by omega)]; omega
 have w3:i64.wrap ((k:Int)+1)=((k+1:Nat):Int):=by rw [av (by omega) (by omega)]; omega
 refine aC (fun h=>?_) (fun h=>?_)
 ·have hlt:k2 < n4 - k0:=by have:=of_decide_eq_true h; omega
  refine ar (dqt (by omega)) (ar (dqt (by omega)) (ar (dqt (by rw [w1]; omega)) (ar (dqt (by rw [w1]; omega)) (aC (fun _=>?_) (fun _=>?_)))))
  ·refine ar (dqt (by omega)) (ar (dqt (by omega)) (ar (dqt (by omega)) (ar (dqt (by omega)) (aL ?_))))
   rw [w2,w3]
   exact ih hlt (by omega) (k+1) _ (by omega)
  ·refine aL ?_
   rw [w2]
   exact ih hlt (by omega) k _ (by omega)
 ·have hge:¬ k2 < n4 - k0:=by have:=of_decide_eq_false h; omega
  refine ar (dqt (by omega)) (ar (dqt (by omega)) (ar (dqt (by omega)) ?_))
  try refine bH fun _=>?_
  exact dT (dqt (by omega)) (evRet rfl)
theorem NO (n0:Nat) (f0:FnV) (s2:ByteArray) (x3:Int) (n4:Nat) (f4:FnV) (x6:Int) (h8:n4<=8) (h2:2<=n4):∀ i:Nat,i<=n4->1<=i->(∀ j,j < i->(decide (0 < j) && eqP f4 j (j - 1))=false)->∀ f:Nat->List V,(∀ i j,eqP f i j=eqP f4 i j)->Ev (ll n0 f0 s2 x3 n4 f4 x6) (.L3 i f) (.int .i64 (bif fD n4 f4 then 2 else eG x3 n4)):=by
 refine bJ fun i hi ih h1 hj f hf=>Ev.of rfl ?_
 have w1:i64.wrap ((i:Int) - 1)=((i - 1:Nat):Int):=by rw [av (by omega) (by omega)]; omega
 have w2:i64.wrap ((i:Int)+1)=((i+1:Nat):Int):=by rw [av (by omega) (by omega)]; omega
 refine aC (fun h=>?_) (fun h=>?_)
 ·have hlt:i < n4:=by have:=of_decide_eq_true h; omega
  refine ar (dqt (by omega)) (ar (dqt (by omega)) (ar (dqt (by rw [w1]; omega)) (ar (dqt (by rw [w1]; omega)) (aC (fun hb=>?_) (fun hb=>?_)))))
  ·have hb':eqP f4 i (i - 1)=true:=by
    rw [← hf]; rw [w1] at hb; simpa only [Int.toNat_natCast,eqP] using hb
   rw [show fD n4 f4=true from bz i hlt (by rw [hb']; simp; omega),cond_true]
   refine ar (dqt (by omega)) (aG ?_)
   have:=Na n0 f0 s2 x3 n4 f4 x6 h8 i h1 hlt
   simp only [Int.toNat_natCast]
   exact this _ _ _ _ _ _ _ 1 (by omega) (by omega) i _ (by omega)
  ·have hb':eqP f4 i (i - 1)=false:=by
    rw [← hf]; rw [w1] at hb; simpa only [Int.toNat_natCast,eqP] using hb
   refine aL ?_
   rw [w2]
   refine ih hlt (by omega) (fun j h3=>?_) _ (fun a b=>hf a b)
   by_cases e:j=i
   ·subst e; rw [hb',Bool.and_false]
   ·exact hj j (by omega)
 ·have:i=n4:=by have:=of_decide_eq_false h; omega
  subst this
  rw [show fD i f4=false from bG hj,cond_false]
  try refine bH fun _=>?_
  exact eC iI
theorem IA (n0:Nat) (f0:FnV) (s2:ByteArray) (x3:Int) (n4:Nat) (f4:FnV) (x6:Int) (h8:n4<=8) (h2:2<=n4) (f:Nat->List V) (hf:∀ i j,eqP f i j=eqP f4 i j):Ev (ll n0 f0 s2 x3 n4 f4 x6) (.L3 1 f) (.int .i64 (bif fD n4 f4 then 2 else eG x3 n4)):=NO n0 f0 s2 x3 n4 f4 x6 h8 h2 1 (by omega) (Nat.le_refl _) (fun j hj=>by
 have:j=0:=by omega
 subst this; rfl) f hf
theorem Ij (n0:Nat) (f0:FnV) (s2:ByteArray) (x3:Int) (n4:Nat) (f4:FnV) (x6:Int) (hp:s2.size<=9223372036854775807):evR (Ev (ll n0 f0 s2 x3 n4 f4 x6)) (m63 n0 f0 s2 x3 n4 f4 x6) (.int .i64 (F63 n0 f0 s2 x3 n4 f4 x6)):=by
 unfold F63
 refine cD hp (evObt ?_)
 refine aC (fun h=>evRet (by rw [h]; rfl)) (fun h=>?_)
 rw [h,cond_false]
 refine evObc (evObt (aC (fun h=>evRet (by rw [show oT n0 f0 s2=true from h]; rfl)) (fun h=>?_)))
 rw [show oT n0 f0 s2=false from h,cond_false]
 refine evObc (evObt (aC (fun h=>evRet (by rw [h]; rfl)) (fun h=>?_)))
 rw [h,cond_false]
 refine bt fun hn=>aC (fun h=>evRet (by rw [h]; rfl)) (fun h2=>?_)
 rw [h2,cond_false]
 refine bt fun hn=>aC (fun h=>evRet (by rw [h]; rfl)) (fun h8=>?_)
 rw [h8,cond_false]
 have h2:2<=n4:=by have:=of_decide_eq_false h2; omega
 have h8:n4<=8:=by have:=of_decide_eq_false h8; omega
 have e2:decide ((n4:Int) < 2)=false:=dqf (by omega)
 refine evObc (evObt (ae (aC (fun h=>?_) (fun h=>evRet (by rw [show (!!fW n4 f4)=true from by rw [show (!fW n4 f4)=false from h]; rfl]; rfl)))))
 rw [show (!!fW n4 f4)=false from by rw [show (!fW n4 f4)=true from h]; rfl,cond_false]
 refine ar h (evObc (evObt (aC (fun h=>evRet (by rw [h]; rfl)) (fun h=>?_))))
 rw [h,cond_false]
 have h16:(decide (n4 * 16<=140737488355328) && !Nat.beq 16 0)=true:=by rw [dqt (show n4 * 16<=140737488355328 by omega)]; rfl
 have hne:n4=0->False:=by omega
 have hi:∀ i j,eqP (elV tp2 f4) i j=eqP f4 i j:=fun _ _=>rfl
 repeat' (first
  | exact bH (fun h0=>(hne h0).elim)
  | exact aG (IS _ _ _ _ _ _ _ h8 h2 _ hi)
  | exact aG (Jg _ _ _ _ _ _ _ h8 h2 _ hi)
  | exact aG (Hr _ _ _ _ _ _ _ h8 h2 _ hi)
  | exact aG (IA _ _ _ _ _ _ _ h8 h2 _ hi)
  | refine K6 ?_ ?_
  | refine bH (fun _=>?_)
  | refine LK ?_
  | refine ar h16 ?_
  | refine dF e2 ?_
  | refine dF rfl ?_
  | refine dT rfl ?_)
theorem RO (n0:Nat) (f0:FnV) (s2:ByteArray) (x3:Int) (n4:Nat) (f4:FnV) (x6:Int) (hp:s2.size<=9223372036854775807):evR (Ev (ll n0 f0 s2 x3 n4 f4 x6)) (m63 n0 f0 s2 x3 n4 f4 x6) (.int .i64 (F63 n0 (elV tyR f0) s2 x3 n4 (elV tp2 f4) x6)):=Ij n0 f0 s2 x3 n4 f4 x6 hp
def C63:aJ:=mkC [.sl tyR,.agg tyR] (fun
 | [.sl n0 f0,.agg [.str s2,.int _ x3,.sl n4 f4,.int _ x6]]=>s2.size<=9223372036854775807
 | _=>False) fun
 | [.sl n0 f0,.agg [.str s2,.int _ x3,.sl n4 f4,.int _ x6]]=>.int .i64 (F63 n0 f0 s2 x3 n4 f4 x6)
 | _=>.any
theorem vT:(vP C63).Ok Tryz.prog 63:=mkE yf Tryz.func63 (by kernel_rfl) fun ds hp=>rfs (K2 ..) (RO _ _ _ _ _ _ _ hp)
def m69 (n0:Nat) (f0:FnV) (s2:ByteArray) (x3 x4 x5 x6 x7:Int):RT Empty:=.obp (s2.size<=(9223372036854775807:Nat)) (.obt (.br (!jF s2) (.ret (vi 6)) (.obc (.obt (.br (om n0 (elV tyC f0) s2) (.ret (vi 5)) (.obc (.obt (.obi (.br (!eF 2 (elV tp1 (cq [vi x3,vi x4] 0 1))) (.ob (!eF 2 (elV tp1 (cq [vi x3,vi x4] 0 1))) (.obc (.obt (.obi (.br (!aT x5 1 200) (.ob (!aT x5 1 200) (.obc (.obt (.obi (.br (!aT x6 (-1000) 1000) (.ob (!aT x6 (-1000) 1000) (.obc (.obt (.br (aT x7 (-1000) 1000) (.ret (vi 7)) (.obi (.obi (.obi (.br (bif x6 == 0 then x7 == 0 else false) (.ret (vi 2)) (.ret (vi 0)))))))))) (.ret (vi 7))))))) (.ret (vi 7))))))) (.ret (vi 7)))))))))))
theorem LI (n0:Nat) (f0:FnV) (s2:ByteArray) (x3 x4 x5 x6 x7:Int):Fit noD (aZ JJ lX u0 s69 [V.sl n0 (elV tyC f0),V.agg [V.str s2,vi x3,vi x4,vi x5,vi x6,vi x7]]) (m69 n0 f0 s2 x3 x4 x5 x6 x7):=⟨by kernel_rfl,by kernel_rfl⟩
def ir (n0:Nat) (f0:FnV) (s2:ByteArray) (x3 x4 x5 x6 x7:Int):Int:=bif !jF s2 then 6 else bif om n0 (elV tyC f0) s2 then 5 else bif !eF 2 (elV tp1 (cq [vi x3,vi x4] 0 1)) then bif !aT x5 1 200 then bif !aT x6 (-1000) 1000 then bif aT x7 (-1000) 1000 then 7 else bif bif x6 == 0 then x7 == 0 else false then 2 else 0 else 7 else 7 else 7
def R69 (n0:Nat) (f0:FnV) (s2:ByteArray) (x3 x4 x5 x6 x7:Int):V:=.int i64 (ir n0 f0 s2 x3 x4 x5 x6 x7)
theorem PW (n0:Nat) (f0:FnV) (s2:ByteArray) (x3 x4 x5 x6 x7:Int) (hp:s2.size<=9223372036854775807):evR noE (m69 n0 f0 s2 x3 x4 x5 x6 x7) (R69 n0 f0 s2 x3 x4 x5 x6 x7):=cD (by first | assumption | (exact hp)) (evObt (aC (fun h0=>evRet (by unfold R69 ir; try rw [h0]; rfl)) (fun h0=>evObc (evObt (aC (fun h1=>evRet (by unfold R69 ir; try rw [h0]; try rw [h1]; rfl)) (fun h1=>evObc (evObt (ae (aC (fun h2=>ar (by first | assumption | (fail)) (evObc (evObt (ae (aC (fun h3=>ar (by first | assumption | (fail)) (evObc (evObt (ae (aC (fun h4=>ar (by first | assumption | (fail)) (evObc (evObt (aC (fun h5=>evRet (by unfold R69 ir; try rw [h0]; try rw [h1]; try rw [h2]; try rw [h3]; try rw [h4]; try rw [h5]; rfl)) (fun h5=>ae (ae (ae (aC (fun h6=>evRet (by unfold R69 ir; try rw [h0]; try rw [h1]; try rw [h2]; try rw [h3]; try rw [h4]; try rw [h5]; try rw [h6]; rfl)) (fun h6=>evRet (by unfold R69 ir; try rw [h0]; try rw [h1]; try rw [h2]; try rw [h3]; try rw [h4]; try rw [h5]; try rw [h6]; rfl)))))))))) (fun h4=>evRet (by unfold R69 ir; try rw [h0]; try rw [h1]; try rw [h2]; try rw [h3]; try rw [h4]; rfl))))))) (fun h3=>evRet (by unfold R69 ir; try rw [h0]; try rw [h1]; try rw [h2]; try rw [h3]; rfl))))))) (fun h2=>evRet (by unfold R69 ir; try rw [h0]; try rw [h1]; try rw [h2]; rfl)))))))))))
def C69:aJ:=mkC [.sl tyC,.agg tyC] (fun
 | [.sl n0 f0,.agg [.str s2,.int _ x3,.int _ x4,.int _ x5,.int _ x6,.int _ x7]]=>s2.size<=9223372036854775807
 | _=>False) fun
 | [.sl n0 f0,.agg [.str s2,.int _ x3,.int _ x4,.int _ x5,.int _ x6,.int _ x7]]=>R69 n0 f0 s2 x3 x4 x5 x6 x7
 | _=>.any
theorem wG:(vP C69).Ok Tryz.prog 69:=mkE yf Tryz.func69 (by kernel_rfl) fun ds hp=>rf0 (LI ..) (PW _ _ _ _ _ _ _ _ hp)
end Go.Dx
