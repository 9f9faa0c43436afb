/- Part 8 of a proof. No conditions. -/
import Derived.Test.YtefgedeiipggkaaGreatDoorLb7
set_option maxRecDepth 100000
set_option linter.unusedVariables false
set_option linter.unusedSimpArgs false
namespace Go.Dx
open Go.IntKind (i64 u64 u8)
open Go.Sx Go.Proofs
variable (T S W U O x5 x6 Z:Int) (b8:Bool) (x9 PV PT PZ:Int)
noncomputable section
def jw:bo:=(226,.con ada)::(102,.con C55)::(157,.inl ao1 u0)::(198,.inl auY u0)::(233,.inl asG u0)::(200,.inl aqY u0)::(201,.inl ap6 u0)::(202,.inl ati u0)::(225,.inl apJ fz15)::Aw
theorem hdS:ba Tryz.prog AQ AS jw:=.con ae9 (.con azo (iz Tryz.func157 bD (iz Tryz.func198 bD (iz Tryz.func233 bD (iz Tryz.func200 bD (iz Tryz.func201 bD (iz Tryz.func202 bD (iz Tryz.func225 bD (HO)))))))))
def FE:l7:=λk=>bif Nat.beq k 0 then 5 else 0
inductive jQ where|L0 (_:Int) (_:be)|L1 (_ _:Int) (_:be)|L2 (_:Int) (_:be) (_:Int) (_:be)|L3 (_:Int) (_ _:Nat) (_ _ _:Int) (_:Nat) (_ _:Int) (_:be) (_:Int) (_:be)|L4 (_:Int) (_:be) (_:Nat) (_:be) (_:Int) (_:be)|L5 (_ _:Int) (_:Nat) (_:Bool) (_:Nat) (_:be)|L7 (_:Int) (_:be) (_:Nat) (_ _:Int) (_:Nat) (_:be) (_:Int) (_:be)|L12 (_ _:Int) (_:Nat) (_:be) (_:Nat) (_:be) (_:Int) (_ _:Nat) (_ _ _:Int) (_:Nat) (_ _:Int) (_:be)|L13 (_ _:Int) (_:be) (_ _:Nat) (_:be) (_:Int) (_:be)|L14 (_ _:Int) (_:Nat) (_:be) (_:Nat) (_ _:Int) (_:Nat) (_:be) (_:Int) (_ _:Nat) (_ _ _:Int) (_:Nat) (_ _:Int) (_:be)|L15 (_ _ _:Int) (_:Nat) (_:be) (_ _:Nat) (_:be) (_:Int) (_ _:Nat) (_ _ _:Int) (_:Nat) (_ _:Int) (_:be)|L18 (_:Int) (_:be) (_ _:Nat) (_:be) (_ _:Int) (_:be) (_:be) (_:Int) (_:be)|L20 (_:Int) (_:be) (_ _:Nat) (_:be) (_ _ _ _:Int) (_:be) (_:Nat) (_:be) (_:Int) (_:be)|L22 (_ _:Int) (_:be) (_:Nat) (_ _:Int) (_:be) (_ _:Int) (_:be) (_ _:Nat) (_:be) (_:Int) (_:be)|L23 (_ _:Int) (_:be) (_:Nat) (_ _:Int) (_:Nat) (_:be) (_ _:Int) (_:be) (_ _:Nat) (_:be) (_:Int) (_:be)|L24 (_:Int) (_:Nat) (_:Int) (_:be) (_ _:Nat) (_:be) (_ _ _:Int) (_:Nat) (_:be) (_:be) (_:Int) (_ _:Nat) (_ _ _:Int) (_:Nat) (_ _:Int) (_:be)|L25 (_:Int) (_:Nat) (_:Int) (_:be) (_ _:Nat) (_:be) (_ _ _ _ _:Int) (_:Nat) (_:be) (_:Nat) (_:be) (_:Int) (_ _:Nat) (_ _ _:Int) (_:Nat) (_ _:Int) (_:be)|L26 (_ _:Int) (_:Nat) (_:Int) (_:be) (_:Nat) (_ _:Int) (_:be) (_ _ _:Int) (_:Nat) (_:be) (_ _:Nat) (_:be) (_:Int) (_ _:Nat) (_ _ _:Int) (_:Nat) (_ _:Int) (_:be)|L27 (_ _:Int) (_:Nat) (_:Int) (_:be) (_:Nat) (_ _:Int) (_:Nat) (_:be) (_ _ _:Int) (_:Nat) (_:be) (_ _:Nat) (_:be) (_:Int) (_ _:Nat) (_ _ _:Int) (_:Nat) (_ _:Int) (_:be)
def o5 (l:List AD):List AD:=AD.cells [D T,D S,D W,D U,D O,D x5,D x6,D Z,V.bool b8] 151::AD.cells [D x9,D PV,D PT,D PZ] 37::AD.cells [D x9,D PV] 149::AD.cells [D (ck T W x9 U),D (cm S W PV U),D (ck T W x9 O),D (cm S W PV O)] 149::AD.hid::AD.cells [D PT,D PV] 149::AD.cells [D (ck T W PT U),D (cm S W PV U),D (ck T W PT O),D (cm S W PV O)] 149::AD.hid::AD.cells [D PT,D PZ] 149::AD.cells [D (ck T W PT U),D (cm S W PZ U),D (ck T W PT O),D (cm S W PZ O)] 149::AD.hid::AD.cells [D x9,D PZ] 149::AD.cells [D (ck T W x9 U),D (cm S W PZ U),D (ck T W x9 O),D (cm S W PZ O)] 149::l
def lV:jQ->bT×List AD×Option Ex
 |.L0 PW Rs=>([(8,D PW),(0,V.gs 13 8),(1,D 0),(2,D (↑8:Int)),(3,V.fn 199 [] [])],o5 T S W U O x5 x6 Z b8 x9 PV PT PZ [AD.gl 2 8 (A aM Rs) 149],none)|.L1 Q6 Qd R2=>([(9,D Q6),(8,D Qd),(0,V.gs 13 8),(1,D 0),(2,D (↑8:Int)),(3,V.fn 199 [] [])],o5 T S W U O x5 x6 Z b8 x9 PV PT PZ [AD.gl 2 8 (A aM R2) 149],none)|.L2 Q9 SN ..=>([(3,D Q9),(8,V.kb false),(2,V.ns),(0,V.gs 13 8)],o5 T S W U O x5 x6 Z b8 x9 PV PT PZ [AD.gl 2 8 (A aM SN) 149],none)|.L3 Qn SL U3 UR Uv YL Z5 YM RS SO ..=>([(5,D Qn),(4,V.go 13 SL U3),(28,V.go 13 SL U3),(27,D UR),(26,V.gs 13 8),(25,V.kb true),(24,V.agg [D Uv,D YL]),(23,V.pe 13 Z5 0),(22,D YM),(21,D UR),(20,V.gs 13 8),(10,D UR),(3,D RS),(8,V.kb false),(2,V.ns),(0,V.gs 13 8)],o5 T S W U O x5 x6 Z b8 x9 PV PT PZ [AD.gl 2 8 (A aM SO) 149],none)|.L4 Qp Vs Rz Wj ..=>([(10,D Qp),(9,D (↑8:Int)),(8,V.gs 13 8),(3,D 0),(0,V.gs 13 8),(1,V.pl 14 0)],o5 T S W U O x5 x6 Z b8 x9 PV PT PZ [AD.gl 2 8 (A aM Vs) 149,AD.cells [V.gs 15 Rz] 156,AD.gl 2 Rz (A aM Wj) 149],none)|.L5 Qg YN Rj Wi VV TN=>([(40,D Qg),(39,D YN),(38,V.gs 0 Rj),(8,V.bool Wi),(5,V.gs 0 Rj),(16,D (E (E (E (E (0+1)+1)+1)+1))),(15,V.agg [D x9,D PV,D PT,D PV,D PT,D PZ,D x9,D PZ]),(2,V.pl 1 0)],[AD.gl 2 VV (A aM TN) 149,AD.cells [D T,D S,D W,D U,D O,D x5,D x6,D Z,V.bool b8] 151],none)|.L7 Ux Vt Qw TF UU VW U5 ..=>([(5,V.pl 15 0),(10,D Ux),(9,D (↑8:Int)),(8,V.gs 13 8),(3,D 0),(0,V.gs 13 8),(1,V.pl 14 0)],o5 T S W U O x5 x6 Z b8 x9 PV PT PZ [AD.gl 2 8 (A aM Vt) 149,AD.cells [V.gs 16 Qw] 156,AD.cells [D TF,D UU] 149,AD.gl 2 VW (A aM U5) 149],none)|.L12 Vl Zz XM Vu UY Wk ..=>([(10,D Vl),(9,D Zz),(8,V.gs 13 XM),(3,D 0),(0,V.gs 13 XM),(1,V.pl 14 0)],o5 T S W U O x5 x6 Z b8 x9 PV PT PZ [AD.gl 2 8 (A aM Vu) 149,AD.cells [V.gs 15 UY] 156,AD.gl 2 UY (A aM Wk) 149],none)|.L13 Sn Sq T5 ZA XN WM ..=>([(3,D Sn),(2,D Sq),(5,D (↑8:Int)),(4,V.gs 13 8),(0,V.gs 13 8)],o5 T S W U O x5 x6 Z b8 x9 PV PT PZ [AD.gl 2 8 (A aM T5) 149,AD.cells [V.gs 15 ZA] 156,AD.gl 2 XN (A aM WM) 149],none)|.L14 YO YP XO Vv R4 WE WG VX U7 ..=>([(5,V.pl 15 0),(10,D YO),(9,D YP),(8,V.gs 13 XO),(3,D 0),(0,V.gs 13 XO),(1,V.pl 14 0)],o5 T S W U O x5 x6 Z b8 x9 PV PT PZ [AD.gl 2 8 (A aM Vv) 149,AD.cells [V.gs 16 R4] 156,AD.cells [D WE,D WG] 149,AD.gl 2 VX (A aM U7) 149],none)|.L15 Sr Su ce U4 T7 ZE XP WN ..=>([(3,D Sr),(2,D Su),(5,D ce),(4,V.gs 13 U4),(0,V.gs 13 U4)],o5 T S W U O x5 x6 Z b8 x9 PV PT PZ [AD.gl 2 8 (A aM T7) 149,AD.cells [V.gs 15 ZE] 156,AD.gl 2 XP (A aM WN) 149],none)|.L18 vn Wl XQ XR Zd ..=>([(10,D 0),(9,D (↑8:Int)),(8,V.gs 13 8),(3,D vn),(0,V.gs 13 8),(1,V.pl 14 0)],o5 T S W U O x5 x6 Z b8 x9 PV PT PZ [AD.gl 2 8 (A aM Wl) 149,AD.cells [V.gs 15 XQ] 156,AD.gl 2 XR (A aM Zd) 149],none)|.L20 UV Vw R5 Td U9 VJ VK ..=>([(5,V.pl 16 0),(10,D 0),(9,D (↑8:Int)),(8,V.gs 13 8),(3,D UV),(0,V.gs 13 8),(1,V.pl 14 0)],o5 T S W U O x5 x6 Z b8 x9 PV PT PZ [AD.gl 2 8 (A aM Vw) 149,AD.cells [V.gs 15 R5] 156,AD.gl 2 Td (A aM U9) 149,AD.cells [D VJ,D VK] 149],none)|.L22 EQ IP Wm Te nz22 nza2 Wo ..=>([(10,D EQ),(5,V.pl 16 0),(9,D (↑8:Int)),(8,V.gs 13 8),(3,D IP),(0,V.gs 13 8),(1,V.pl 14 0)],o5 T S W U O x5 x6 Z b8 x9 PV PT PZ [AD.gl 2 8 (A aM Wm) 149,AD.cells [V.gs 17 Te] 156,AD.hid,AD.cells [D nz22,D nza2] 149,AD.gl 2 Te (A aM Wo) 149],none)|.L23 Yc Di Vx R6 VL VM VY UB ..=>([(5,V.pl 16 0),(10,D Yc),(9,D (↑8:Int)),(8,V.gs 13 8),(3,D Di),(0,V.gs 13 8),(1,V.pl 14 0)],o5 T S W U O x5 x6 Z b8 x9 PV PT PZ [AD.gl 2 8 (A aM Vx) 149,AD.cells [V.gs 17 R6] 156,AD.hid,AD.cells [D VL,D VM] 149,AD.gl 2 VY (A aM UB) 149],none)|.L24 cn XT x3 Wq UZ WI Wr ..=>([(10,D 0),(9,D cn),(8,V.gs 13 XT),(3,D x3),(0,V.gs 13 XT),(1,V.pl 14 0)],o5 T S W U O x5 x6 Z b8 x9 PV PT PZ [AD.gl 2 8 (A aM Wq) 149,AD.cells [V.gs 15 UZ] 156,AD.gl 2 WI (A aM Wr) 149],none)|.L25 Yg XU UW Vy R7 Tg UD VN VP ..=>([(5,V.pl 16 0),(10,D 0),(9,D Yg),(8,V.gs 13 XU),(3,D UW),(0,V.gs 13 XU),(1,V.pl 14 0)],o5 T S W U O x5 x6 Z b8 x9 PV PT PZ [AD.gl 2 8 (A aM Vy) 149,AD.cells [V.gs 15 R7] 156,AD.gl 2 Tg (A aM UD) 149,AD.cells [D VN,D VP] 149],none)|.L26 Vm de XV yJ Wu Tl iza6 iza7 Wv ..=>([(10,D Vm),(5,V.pl 16 0),(9,D de),(8,V.gs 13 XV),(3,D yJ),(0,V.gs 13 XV),(1,V.pl 14 0)],o5 T S W U O x5 x6 Z b8 x9 PV PT PZ [AD.gl 2 8 (A aM Wu) 149,AD.cells [V.gs 17 Tl] 156,AD.hid,AD.cells [D iza6,D iza7] 149,AD.gl 2 Tl (A aM Wv) 149],none)|.L27 Yt Yu XW UX Vz R9 VQ VS VZ UE ..=>([(5,V.pl 16 0),(10,D Yt),(9,D Yu),(8,V.gs 13 XW),(3,D UX),(0,V.gs 13 XW),(1,V.pl 14 0)],o5 T S W U O x5 x6 Z b8 x9 PV PT PZ [AD.gl 2 8 (A aM Vz) 149,AD.cells [V.gs 17 R9] 156,AD.hid,AD.cells [D VQ,D VS] 149,AD.gl 2 VZ (A aM UE) 149],none)
def azu:jQ->JJ
 |.L0 ..=>(0,[])|.L1 ..=>(1,[])|.L2 _ _ RG Se=>(2,[Cx.i RG,Cx.f Se])|.L3 _ _ _ _ _ _ _ _ _ _ Zx ZY=>(3,[Cx.i Zx,Cx.f ZY])|.L4 _ _ _ _ Vj ZZ=>(4,[Cx.i Vj,Cx.f ZZ])|.L5 ..=>(5,[])|.L7 _ _ _ _ _ _ _ Vk XZ=>(7,[Cx.i Vk,Cx.f XZ])|.L12 _ _ _ _ _ _ aa eU ee ab a6 a7 eL a8 We Za=>(12,[Cx.i aa,Cx.n eU,Cx.n ee,Cx.i ab,Cx.i a6,Cx.i a7,Cx.n eL,Cx.i a8,Cx.i We,Cx.f Za])|.L13 _ _ _ _ _ _ ae Zb=>(13,[Cx.i ae,Cx.f Zb])|.L14 _ _ _ _ _ _ _ _ _ YX ZB ZC YQ YR YT ZD YU YW Xa=>(14,[Cx.i YX,Cx.n ZB,Cx.n ZC,Cx.i YQ,Cx.i YR,Cx.i YT,Cx.n ZD,Cx.i YU,Cx.i YW,Cx.f Xa])|.L15 _ _ _ _ _ _ _ _ ch e₂ em ah a₂ c5 eq cd XG Zc=>(15,[Cx.i ch,Cx.n e₂,Cx.n em,Cx.i ah,Cx.i a₂,Cx.i c5,Cx.n eq,Cx.i cd,Cx.i XG,Cx.f Zc])|.L18 _ _ XQ XR _ vu w3 gu gv wI gt=>(18,[Cx.i vu,Cx.i w3,Cx.f gu,Cx.n XQ,Cx.n XR,Cx.f gv,Cx.i wI,Cx.f gt])|.L20 _ _ _ Td _ _ _ Ya Yb Xd ZF Xb YZ Xc=>(20,[Cx.i Ya,Cx.i Yb,Cx.f Xd,Cx.n ZF,Cx.n Td,Cx.f Xb,Cx.i YZ,Cx.f Xc])|.L22 _ _ _ _ _ _ _ wi wt hZ yh yq h1 wT h2=>(18,[Cx.i wi,Cx.i wt,Cx.f hZ,Cx.n yh,Cx.n yq,Cx.f h1,Cx.i wT,Cx.f h2])|.L23 _ _ _ _ _ _ _ _ Ye Yf Xe ZH ZI Xf Yd Xg=>(20,[Cx.i Ye,Cx.i Yf,Cx.f Xe,Cx.n ZH,Cx.n ZI,Cx.f Xf,Cx.i Yd,Cx.f Xg])|.L24 _ _ _ _ UZ WI _ x8 xC xF z8 h₀ i6 w₂ zN zP x0 x1 x2 zU x4 x7 j0=>(24,[Cx.i x8,Cx.i xC,Cx.i xF,Cx.n z8,Cx.f h₀,Cx.n UZ,Cx.n WI,Cx.f i6,Cx.i w₂,Cx.n zN,Cx.n zP,Cx.i x0,Cx.i x1,Cx.i x2,Cx.n zU,Cx.i x4,Cx.i x7,Cx.f j0])|.L25 _ _ _ _ _ Tg _ _ _ Ys Yh Yi ZJ Xh ZK Xi Yj ZL ZM Yk Yl Ym ZN Yn Yq Xj=>(25,[Cx.i Ys,Cx.i Yh,Cx.i Yi,Cx.n ZJ,Cx.f Xh,Cx.n ZK,Cx.n Tg,Cx.f Xi,Cx.i Yj,Cx.n ZL,Cx.n ZM,Cx.i Yk,Cx.i Yl,Cx.i Ym,Cx.n ZN,Cx.i Yn,Cx.i Yq,Cx.f Xj])|.L26 _ _ _ _ _ _ _ _ _ yL xR xT zX jf zY zf jg xX zg zp xi xl xn zv y8 yG k9=>(24,[Cx.i yL,Cx.i xR,Cx.i xT,Cx.n zX,Cx.f jf,Cx.n zY,Cx.n zf,Cx.f jg,Cx.i xX,Cx.n zg,Cx.n zp,Cx.i xi,Cx.i xl,Cx.i xn,Cx.n zv,Cx.i y8,Cx.i yG,Cx.f k9])|.L27 _ _ _ _ _ _ _ _ _ _ Yv Yw Yx ZO Xk ZP ZR Xm Yy ZS ZT Yz Z0 Z1 ZU Z2 Z3 Xn=>(25,[Cx.i Yv,Cx.i Yw,Cx.i Yx,Cx.n ZO,Cx.f Xk,Cx.n ZP,Cx.n ZR,Cx.f Xm,Cx.i Yy,Cx.n ZS,Cx.n ZT,Cx.i Yz,Cx.i Z0,Cx.i Z1,Cx.n ZU,Cx.i Z2,Cx.i Z3,Cx.f Xn])
def aqf:AN (cr JJ):=aQ JJ jw FE aww [V.agg [D T,D S,D W,D U,D O,D x5,D x6,D Z,V.bool b8],V.agg [D x9,D PV,D PT,D PZ]]
def B8 (cx:List Cx):Lp JJ:=eX (eC (aqf T S W U O x5 x6 Z b8 x9 PV PT PZ) [false,true,true,true,true,false,true])
def akM (cx:List Cx):Lp JJ:=eX (eC (oU jw FE (0,[]) (B8 T S W U O x5 x6 Z b8 x9 PV PT PZ []) (lV T S W U O x5 x6 Z b8 x9 PV PT PZ (.L0 (0:Int) (λ_=>[])))) [true])
def FJ (cx:List Cx):Lp JJ:=eX (eC (oU jw FE (0,[]) (B8 T S W U O x5 x6 Z b8 x9 PV PT PZ []) (lV T S W U O x5 x6 Z b8 x9 PV PT PZ (.L0 (dw cx 0) (lS cx 1)))) It)
def HP (cx:List Cx):Lp JJ:=eX (eC (oU jw FE (2,[.i (dw cx 0),.f (lS cx 1)]) (FJ T S W U O x5 x6 Z b8 x9 PV PT PZ [.i (dw cx 0),.f (lS cx 1)]) (lV T S W U O x5 x6 Z b8 x9 PV PT PZ (.L2 (0:Int) (λ_=>[]) (dw cx 0) (lS cx 1)))) Fp)
def HC (cx:List Cx):Lp JJ:=eX (eC (oU jw FE (2,[.i (0:Int),.f (λ_=>[])]) (FJ T S W U O x5 x6 Z b8 x9 PV PT PZ [.i (0:Int),.f (λ_=>[])]) (lV T S W U O x5 x6 Z b8 x9 PV PT PZ (.L2 (dw cx 0) (lS cx 1) (0:Int) (λ_=>[])))) It)
def ahc (cx:List Cx):Lp JJ:=eX (eC (oU jw FE (3,[.i (0:Int),.f (λ_=>[])]) (HP T S W U O x5 x6 Z b8 x9 PV PT PZ [.i (0:Int),.f (λ_=>[])]) (lV T S W U O x5 x6 Z b8 x9 PV PT PZ (.L3 (0:Int) 0 0 (0:Int) (0:Int) (0:Int) 0 (0:Int) (0:Int) (λ_=>[]) (0:Int) (λ_=>[])))) [false,true])
section
variable (cx:List Cx)
include cx
def amR:Lp JJ:=eX (eC (oU jw FE (4,[.i (dw cx 0),.f (lS cx 1)]) (HC T S W U O x5 x6 Z b8 x9 PV PT PZ [.i (dw cx 0),.f (lS cx 1)]) (lV T S W U O x5 x6 Z b8 x9 PV PT PZ (.L4 (0:Int) (λ_=>[]) 0 (λ_=>[]) (dw cx 0) (lS cx 1)))) [true])
def By:Lp JJ:=eX (eC (oU jw FE (3,[.i (0:Int),.f (λ_=>[])]) (HP T S W U O x5 x6 Z b8 x9 PV PT PZ [.i (0:Int),.f (λ_=>[])]) (lV T S W U O x5 x6 Z b8 x9 PV PT PZ (.L3 (dw cx 0) (fX cx 1) (fX cx 2) (dw cx 3) (dw cx 4) (dw cx 5) (fX cx 6) (dw cx 7) (dw cx 8) (lS cx 9) (0:Int) (λ_=>[])))) It)
def aga:Lp JJ:=eX (eC (oU jw FE (4,[.i (dw cx 0),.f (lS cx 1)]) (HC T S W U O x5 x6 Z b8 x9 PV PT PZ [.i (dw cx 0),.f (lS cx 1)]) (lV T S W U O x5 x6 Z b8 x9 PV PT PZ (.L4 (0:Int) (λ_=>[]) 0 (λ_=>[]) (dw cx 0) (lS cx 1)))) [false])
def ntF:Lp JJ:=eX (eC (oU jw FE (12,[.i (dw cx 0),.n (fX cx 1),.n (fX cx 2),.i (dw cx 3),.i (dw cx 4),.i (dw cx 5),.n (fX cx 6),.i (dw cx 7),.i (dw cx 8),.f (lS cx 9)]) (By T S W U O x5 x6 Z b8 x9 PV PT PZ [.i (dw cx 0),.n (fX cx 1),.n (fX cx 2),.i (dw cx 3),.i (dw cx 4),.i (dw cx 5),.n (fX cx 6),.i (dw cx 7),.i (dw cx 8),.f (lS cx 9)]) (lV T S W U O x5 x6 Z b8 x9 PV PT PZ (.L12 (0:Int) (0:Int) 0 (λ_=>[]) 0 (λ_=>[]) (dw cx 0) (fX cx 1) (fX cx 2) (dw cx 3) (dw cx 4) (dw cx 5) (fX cx 6) (dw cx 7) (dw cx 8) (lS cx 9)))) [true])
def aqZ:Lp JJ:=eX (eC (oU jw FE (12,[.i (dw cx 0),.n (fX cx 1),.n (fX cx 2),.i (dw cx 3),.i (dw cx 4),.i (dw cx 5),.n (fX cx 6),.i (dw cx 7),.i (dw cx 8),.f (lS cx 9)]) (By T S W U O x5 x6 Z b8 x9 PV PT PZ [.i (dw cx 0),.n (fX cx 1),.n (fX cx 2),.i (dw cx 3),.i (dw cx 4),.i (dw cx 5),.n (fX cx 6),.i (dw cx 7),.i (dw cx 8),.f (lS cx 9)]) (lV T S W U O x5 x6 Z b8 x9 PV PT PZ (.L12 (0:Int) (0:Int) 0 (λ_=>[]) 0 (λ_=>[]) (dw cx 0) (fX cx 1) (fX cx 2) (dw cx 3) (dw cx 4) (dw cx 5) (fX cx 6) (dw cx 7) (dw cx 8) (lS cx 9)))) [false])
def aiG:Lp JJ:=eX (eC (oU jw FE (13,[.i (dw cx 6),.f (lS cx 7)]) (aga T S W U O x5 x6 Z b8 x9 PV PT PZ [.i (dw cx 6),.f (lS cx 7)]) (lV T S W U O x5 x6 Z b8 x9 PV PT PZ (.L13 (dw cx 0) (dw cx 1) (lS cx 2) (fX cx 3) (fX cx 4) (lS cx 5) (dw cx 6) (lS cx 7)))) [false])
def io1:Lp JJ:=eX (eC (oU jw FE (18,[.i (dw cx 0),.i (dw cx 1),.f (lS cx 2),.n (fX cx 3),.n (fX cx 4),.f (lS cx 5),.i (dw cx 6),.f (lS cx 7)]) (aiG T S W U O x5 x6 Z b8 x9 PV PT PZ [.i (dw cx 0),.i (dw cx 1),.f (lS cx 2),.n (fX cx 3),.n (fX cx 4),.f (lS cx 5),.i (dw cx 6),.f (lS cx 7)]) (lV T S W U O x5 x6 Z b8 x9 PV PT PZ (.L18 (0:Int) (λ_=>[]) (fX cx 3) (fX cx 4) (λ_=>[]) (dw cx 0) (dw cx 1) (lS cx 2) (lS cx 5) (dw cx 6) (lS cx 7)))) [true])
def amU:Lp JJ:=eX (eC (oU jw FE (15,[.i (dw cx 8),.n (fX cx 9),.n (fX cx 10),.i (dw cx 11),.i (dw cx 12),.i (dw cx 13),.n (fX cx 14),.i (dw cx 15),.i (dw cx 16),.f (lS cx 17)]) (aqZ T S W U O x5 x6 Z b8 x9 PV PT PZ [.i (dw cx 8),.n (fX cx 9),.n (fX cx 10),.i (dw cx 11),.i (dw cx 12),.i (dw cx 13),.n (fX cx 14),.i (dw cx 15),.i (dw cx 16),.f (lS cx 17)]) (lV T S W U O x5 x6 Z b8 x9 PV PT PZ (.L15 (dw cx 0) (dw cx 1) (dw cx 2) (fX cx 3) (lS cx 4) (fX cx 5) (fX cx 6) (lS cx 7) (dw cx 8) (fX cx 9) (fX cx 10) (dw cx 11) (dw cx 12) (dw cx 13) (fX cx 14) (dw cx 15) (dw cx 16) (lS cx 17)))) [false])
def iz8:Lp JJ:=eX (eC (oU jw FE (24,[.i (dw cx 0),.i (dw cx 1),.i (dw cx 2),.n (fX cx 3),.f (lS cx 4),.n (fX cx 5),.n (fX cx 6),.f (lS cx 7),.i (dw cx 8),.n (fX cx 9),.n (fX cx 10),.i (dw cx 11),.i (dw cx 12),.i (dw cx 13),.n (fX cx 14),.i (dw cx 15),.i (dw cx 16),.f (lS cx 17)]) (amU T S W U O x5 x6 Z b8 x9 PV PT PZ [.i (dw cx 0),.i (dw cx 1),.i (dw cx 2),.n (fX cx 3),.f (lS cx 4),.n (fX cx 5),.n (fX cx 6),.f (lS cx 7),.i (dw cx 8),.n (fX cx 9),.n (fX cx 10),.i (dw cx 11),.i (dw cx 12),.i (dw cx 13),.n (fX cx 14),.i (dw cx 15),.i (dw cx 16),.f (lS cx 17)]) (lV T S W U O x5 x6 Z b8 x9 PV PT PZ (.L24 (0:Int) 0 (0:Int) (λ_=>[]) (fX cx 5) (fX cx 6) (λ_=>[]) (dw cx 0) (dw cx 1) (dw cx 2) (fX cx 3) (lS cx 4) (lS cx 7) (dw cx 8) (fX cx 9) (fX cx 10) (dw cx 11) (dw cx 12) (dw cx 13) (fX cx 14) (dw cx 15) (dw cx 16) (lS cx 17)))) [true])
end
def axd:JJ->Lp JJ
 |(0,cx)=>B8 T S W U O x5 x6 Z b8 x9 PV PT PZ cx|(1,cx)=>akM T S W U O x5 x6 Z b8 x9 PV PT PZ cx|(2,cx)=>FJ T S W U O x5 x6 Z b8 x9 PV PT PZ cx|(3,cx)=>HP T S W U O x5 x6 Z b8 x9 PV PT PZ cx|(4,cx)=>HC T S W U O x5 x6 Z b8 x9 PV PT PZ cx|(5,cx)=>ahc T S W U O x5 x6 Z b8 x9 PV PT PZ cx|(7,cx)=>amR T S W U O x5 x6 Z b8 x9 PV PT PZ cx|(12,cx)=>By T S W U O x5 x6 Z b8 x9 PV PT PZ cx|(13,cx)=>aga T S W U O x5 x6 Z b8 x9 PV PT PZ cx|(14,cx)=>ntF T S W U O x5 x6 Z b8 x9 PV PT PZ cx|(15,cx)=>aqZ T S W U O x5 x6 Z b8 x9 PV PT PZ cx|(18,cx)=>aiG T S W U O x5 x6 Z b8 x9 PV PT PZ cx|(20,cx)=>io1 T S W U O x5 x6 Z b8 x9 PV PT PZ cx|(24,cx)=>amU T S W U O x5 x6 Z b8 x9 PV PT PZ cx|(25,cx)=>iz8 T S W U O x5 x6 Z b8 x9 PV PT PZ cx|(_,cx)=>B8 T S W U O x5 x6 Z b8 x9 PV PT PZ cx
def D57:LD JJ jQ:=⟨azu,axd T S W U O x5 x6 Z b8 x9 PV PT PZ,lV T S W U O x5 x6 Z b8 x9 PV PT PZ⟩
abbrev H7:=[some (some 18)]
def fm (T S W U O x5 x6 Z:Int) (b8:Bool) (x9 PV PT PZ:Int):jQ->RT jQ
 |.L0 PW Rs=>.br (decide (PW<(↑8:Int))) (.enter (iR 0 14 []) (jQ.L1 PW PW (A aM Rs)) [⟨13,aM,8,A aM Rs,aL rfl _ _⟩]) (.brf (.enter (iR 0 14 []) (jQ.L2 1 (A aM Rs) PW Rs) [⟨13,aM,8,A aM Rs,aL rfl _ _⟩]))|.L1 Q6 Qd R2=>.ii (.obj (decide (0<Q6)) (decide (0<=Q6/\Q6<(↑8:Int)/\8<=8)) (.obi (.obj (decide (0<Q6)) (decide (Q6.toNat<8)) (.ii (.obi (.obj (decide (0<Q6)) (decide (0<=E (Q6-1)/\E (Q6-1)<(↑8:Int)/\8<=8)) (.obi (.obj (decide (0<Q6)) (decide ((E (Q6-1)).toNat<8)) (.br (decide (0<Q6)) (.ob (decide (0<Q6)) (.ob (decide (0<Q6)) (.ob (decide (0<Q6)) (.cb (.br (decide (rN (aA (R2 Q6.toNat)) (aR (R2 Q6.toNat)) (aA (R2 (E (Q6-1)).toNat)) (aR (R2 (E (Q6-1)).toNat))<0)) (.ob (decide (0<=E (Q6-1)/\E (Q6-1)<(↑8:Int)/\8<=8)) (.ob (decide ((E (Q6-1)).toNat<8)) (.ob (decide (0<=Q6/\Q6<(↑8:Int)/\8<=8)) (.ob (decide (Q6.toNat<8)) (.ob (decide (0<=Q6/\Q6<(↑8:Int)/\8<=8)) (.ob (decide (Q6.toNat<8)) (.ob (decide (0<=E (Q6-1)/\E (Q6-1)<(↑8:Int)/\8<=8)) (.ob (decide ((E (Q6-1)).toNat<8)) (.next (iR 0 14 []) (jQ.L1 (E (Q6-1)) Qd (λi'=>bif i'.beq (E (Q6-1)).toNat then [D (aA (R2 Q6.toNat)),D (aR (R2 Q6.toNat))] else bif i'.beq Q6.toNat then [D (aA (R2 (E (Q6-1)).toNat)),D (aR (R2 (E (Q6-1)).toNat))] else A aM R2 i')) [⟨13,aM,8,λi'=>bif i'.beq (E (Q6-1)).toNat then [D (aA (R2 Q6.toNat)),D (aR (R2 Q6.toNat))] else bif i'.beq Q6.toNat then [D (aA (R2 (E (Q6-1)).toNat)),D (aR (R2 (E (Q6-1)).toNat))] else A aM R2 i',oF rfl (oF rfl (aL rfl _ _) rfl) rfl⟩]))))))))) (.next (iR 0 14 []) (jQ.L0 (E (Qd+1)) (A aM R2)) [⟨13,aM,8,A aM R2,aL rfl _ _⟩])))))) (.next (iR 0 14 []) (jQ.L0 (E (Qd+1)) (A aM R2)) [⟨13,aM,8,A aM R2,aL rfl _ _⟩]))))))))))|.L2 Q9 SN RG Se=>.br (decide (Q9<(↑8:Int))) (.ob (decide (0<=Q9/\Q9<(↑8:Int)/\8<=8)) (.ob (decide (Q9.toNat<8)) (.ob (decide (0<=E (Q9-1)/\E (Q9-1)<(↑8:Int)/\8<=8)) (.ob (decide ((E (Q9-1)).toNat<8)) (.br (aA (SN Q9.toNat)==aA (SN (E (Q9-1)).toNat)&&(aR (SN Q9.toNat)==aR (SN (E (Q9-1)).toNat)&&true)) (.ob (decide (0<=Q9/\Q9<=(↑8:Int))) (.enter (iR 0 14 []) (jQ.L3 1 (Q9.toNat) (8-Q9.toNat) Q9 (aA (SN (E (Q9-1)).toNat)) (aR (SN (E (Q9-1)).toNat)) ((E (Q9-1)).toNat) (E (Q9-1)) Q9 (A aM SN) RG Se) [⟨13,aM,8,A aM SN,aL rfl _ _⟩])) (.next (iR 0 14 []) (jQ.L2 (E (Q9+1)) (A aM SN) RG Se) [⟨13,aM,8,A aM SN,aL rfl _ _⟩])))))) (.brf (.enter (iR 0 15 [some none]) (jQ.L4 0 (A aM SN) 0 (λi=>[]) Q9 SN) [⟨13,aM,8,A aM SN,aL rfl _ _⟩]))|.L3 Qn SL U3 UR Uv YL Z5 YM RS SO Zx ZY=>.br (decide (Qn<(↑U3:Int))) (.ob (decide (0<=Qn/\Qn<(↑U3:Int)/\SL+U3<=8)) (.ob (decide (SL+Qn.toNat<8)) (.ob (decide (0<=E (Qn-1)/\E (Qn-1)<(↑U3:Int)/\SL+U3<=8)) (.ob (decide (SL+(E (Qn-1)).toNat<8)) (.br (!(aA (SO (SL+Qn.toNat))==aA (SO (SL+(E (Qn-1)).toNat))&&(aR (SO (SL+Qn.toNat))==aR (SO (SL+(E (Qn-1)).toNat))&&true))) (.ob (decide (0<=Qn/\Qn<(↑U3:Int)/\SL+U3<=8)) (.ob (decide (SL+Qn.toNat<8)) (.ob (decide (0<=RS/\RS<(↑8:Int)/\8<=8)) (.ob (decide (RS.toNat<8)) (.next (iR 0 14 []) (jQ.L3 (E (Qn+1)) SL U3 UR Uv YL Z5 YM (E (RS+1)) (λi'=>bif i'.beq RS.toNat then [D (aA (SO (SL+Qn.toNat))),D (aR (SO (SL+Qn.toNat)))] else A aM SO i') Zx ZY) [⟨13,aM,8,λi'=>bif i'.beq RS.toNat then [D (aA (SO (SL+Qn.toNat))),D (aR (SO (SL+Qn.toNat)))] else A aM SO i',oF rfl (aL rfl _ _) rfl⟩]))))) (.next (iR 0 14 []) (jQ.L3 (E (Qn+1)) SL U3 UR Uv YL Z5 YM RS (A aM SO) Zx ZY) [⟨13,aM,8,A aM SO,aL rfl _ _⟩])))))) (.ob (decide (0<=RS/\RS<=(↑8:Int))) (.ob (decide (0<8-RS.toNat/\RS.toNat+(8-RS.toNat)<=8)) (.ob (decide (0<=RS/\RS<=(↑8:Int))) (.br (decide ((↑RS.toNat:Int)<3)) (.enter [some (some 13),some (some 0)] (jQ.L5 0 ((↑RS.toNat:Int)) (RS.toNat) (decide (2<(↑RS.toNat:Int))) 8 (λi=>bif RS.toNat.ble i&&i.succ.ble (RS.toNat+(8-RS.toNat)) then Au else A aM SO i)) [⟨0,aM,8,λi=>bif RS.toNat.ble i&&i.succ.ble (RS.toNat+(8-RS.toNat)) then Au else A aM SO i,aej rfl (aL rfl _ _) rfl⟩]) (.enter (iR 0 15 [some none]) (jQ.L12 0 ((↑RS.toNat:Int)) (RS.toNat) (λi=>bif RS.toNat.ble i&&i.succ.ble (RS.toNat+(8-RS.toNat)) then Au else A aM SO i) 0 (λi=>[]) Qn SL U3 UR Uv YL Z5 YM RS SO) [⟨13,aM,8,λi=>bif RS.toNat.ble i&&i.succ.ble (RS.toNat+(8-RS.toNat)) then Au else A aM SO i,aej rfl (aL rfl _ _) rfl⟩])))))|.L4 Qp Vs Rz Wj Vj ZZ=>.br (decide (Qp<(↑8:Int))) (.ob (decide (0<=Qp/\Qp<(↑8:Int)/\8<=8)) (.ob (decide (Qp.toNat<8)) (.enter (iR 0 15 [some (some 16),some (some 15)]) (jQ.L7 Qp (A aM Vs) Rz (aA (Vs Qp.toNat)) (aR (Vs Qp.toNat)) Rz (A aM Wj) Vj ZZ) [⟨13,aM,8,A aM Vs,aL rfl _ _⟩,⟨16,aM,Rz,A aM Wj,aL rfl _ _⟩]))) (.ob (decide (0<=E ((↑Rz:Int)-1)/\E ((↑Rz:Int)-1)<=(↑Rz:Int))) (.enter (iR 0 16 []) (jQ.L13 (E ((↑8:Int)-1)) 0 (A aM Vs) ((E ((↑Rz:Int)-1)).toNat) Rz (A aM Wj) Vj ZZ) [⟨13,aM,8,A aM Vs,aL rfl _ _⟩,⟨15,aM,Rz,A aM Wj,aL rfl _ _⟩]))|.L5 Qg YN Rj Wi VV TN=>.br (decide (Qg<YN)) (.ob (decide (0<=Qg/\Qg<(↑Rj:Int)/\Rj<=VV)) (.ob (decide (Qg.toNat<VV)) (.ob (decide ((↑Rj:Int)≠0)) (.ob (decide (0<=(E (Qg+1)).tmod (↑Rj:Int)/\(E (Qg+1)).tmod (↑Rj:Int)<(↑Rj:Int)/\Rj<=VV)) (.ob (decide (((E (Qg+1)).tmod (↑Rj:Int)).toNat<VV)) (.cb (.br (kx (aA (TN Qg.toNat)) (aR (TN Qg.toNat)) (aA (TN ((E (Qg+1)).tmod (↑Rj:Int)).toNat)) (aR (TN ((E (Qg+1)).tmod (↑Rj:Int)).toNat)) x5 x6 Z) (.ret (V.kb true)) (.obi (.br (Wi) (.ob (Wi) (.ob (Wi) (.cb (.next D8 (jQ.L5 (E (Qg+1)) YN Rj (decide (0<kO (aA (TN Qg.toNat)) (aR (TN Qg.toNat)) (aA (TN ((E (Qg+1)).tmod (↑Rj:Int)).toNat)) (aR (TN ((E (Qg+1)).tmod (↑Rj:Int)).toNat)) x5 x6)) VV (A aM TN)) [⟨0,aM,VV,A aM TN,aL rfl _ _⟩])))) (.next D8 (jQ.L5 (E (Qg+1)) YN Rj (false) VV (A aM TN)) [⟨0,aM,VV,A aM TN,aL rfl _ _⟩])))))))))) (.ret (V.bool Wi))|.L7 Ux Vt Qw TF UU VW U5 Vk XZ=>.iv (.obj (decide (E (0+1)<(↑Qw:Int))) (decide (0<=E ((↑Qw:Int)-2)/\E ((↑Qw:Int)-2)<(↑Qw:Int)/\Qw<=VW)) (.obi (.obj (decide (E (0+1)<(↑Qw:Int))) (decide ((E ((↑Qw:Int)-2)).toNat<VW)) (.iv (.obj (decide (E (0+1)<(↑Qw:Int))) (decide (0<=E ((↑Qw:Int)-1)/\E ((↑Qw:Int)-1)<(↑Qw:Int)/\Qw<=VW)) (.obi (.obj (decide (E (0+1)<(↑Qw:Int))) (decide ((E ((↑Qw:Int)-1)).toNat<VW)) (.ii (.br (decide (E (0+1)<(↑Qw:Int))) (.ob (decide (E (0+1)<(↑Qw:Int))) (.ob (decide (E (0+1)<(↑Qw:Int))) (.cb (.br (decide (kO (aA (U5 (E ((↑Qw:Int)-2)).toNat)) (aR (U5 (E ((↑Qw:Int)-2)).toNat)) (aA (U5 (E ((↑Qw:Int)-1)).toNat)) (aR (U5 (E ((↑Qw:Int)-1)).toNat)) TF UU<=0)) (.ob (decide (0<=E ((↑Qw:Int)-1)/\E ((↑Qw:Int)-1)<=(↑Qw:Int))) (.next (iR 0 17 []) (jQ.L7 Ux (A aM Vt) ((E ((↑Qw:Int)-1)).toNat) TF UU VW (A aM U5) Vk XZ) [⟨13,aM,8,A aM Vt,aL rfl _ _⟩,⟨16,aM,VW,A aM U5,aL rfl _ _⟩])) (.obt (.ob (decide (Qw<=VW/\(Qw+1)*16<=140737488355328)&&!Nat.beq 16 0) (.next (iR 0 15 H7) (jQ.L4 (E (Ux+1)) (A aM Vt) (Qw+1) (bc Qw (A aM U5) λx=>[D TF,D UU]) Vk XZ) [⟨13,aM,8,A aM Vt,aL rfl _ _⟩,⟨15,aM,Qw+1,bc Qw (A aM U5) λx=>[D TF,D UU],gj (aL rfl _ _) (EE rfl _ rfl)⟩]))))))) (.obt (.ob (decide (Qw<=VW/\(Qw+1)*16<=140737488355328)&&!Nat.beq 16 0) (.next (iR 0 15 H7) (jQ.L4 (E (Ux+1)) (A aM Vt) (Qw+1) (bc Qw (A aM U5) λx=>[D TF,D UU]) Vk XZ) [⟨13,aM,8,A aM Vt,aL rfl _ _⟩,⟨15,aM,Qw+1,bc Qw (A aM U5) λx=>[D TF,D UU],gj (aL rfl _ _) (EE rfl _ rfl)⟩]))))))))))))|.L12 Vl Zz XM Vu UY Wk aa eU ee ab a6 a7 eL a8 We Za=>.br (decide (Vl<Zz)) (.ob (decide (0<=Vl/\Vl<(↑XM:Int)/\XM<=8)) (.ob (decide (Vl.toNat<8)) (.enter (iR 0 15 [some (some 16),some (some 15)]) (jQ.L14 Vl Zz XM (A aM Vu) UY (aA (Vu Vl.toNat)) (aR (Vu Vl.toNat)) UY (A aM Wk) aa eU ee ab a6 a7 eL a8 We Za) [⟨13,aM,8,A aM Vu,aL rfl _ _⟩,⟨16,aM,UY,A aM Wk,aL rfl _ _⟩]))) (.ob (decide (0<=E ((↑UY:Int)-1)/\E ((↑UY:Int)-1)<=(↑UY:Int))) (.enter (iR 0 16 []) (jQ.L15 (E ((↑We.toNat:Int)-1)) 0 ((↑We.toNat:Int)) (We.toNat) (A aM Vu) ((E ((↑UY:Int)-1)).toNat) UY (A aM Wk) aa eU ee ab a6 a7 eL a8 We Za) [⟨13,aM,8,A aM Vu,aL rfl _ _⟩,⟨15,aM,UY,A aM Wk,aL rfl _ _⟩]))|.L13 Sn Sq T5 ZA XN WM ae Zb=>.br (decide (Sq<Sn)) (.ob (decide (0<=Sn/\Sn<(↑8:Int)/\8<=8)) (.ob (decide (Sn.toNat<8)) (.ob (decide (0<=Sq/\Sq<(↑8:Int)/\8<=8)) (.ob (decide (Sq.toNat<8)) (.ob (decide (0<=Sq/\Sq<(↑8:Int)/\8<=8)) (.ob (decide (Sq.toNat<8)) (.ob (decide (0<=Sn/\Sn<(↑8:Int)/\8<=8)) (.ob (decide (Sn.toNat<8)) (.next (iR 0 16 []) (jQ.L13 (E (Sn-1)) (E (Sq+1)) (λi'=>bif i'.beq Sn.toNat then [D (aA (T5 Sq.toNat)),D (aR (T5 Sq.toNat))] else bif i'.beq Sq.toNat then [D (aA (T5 Sn.toNat)),D (aR (T5 Sn.toNat))] else A aM T5 i') ZA XN (A aM WM) ae Zb) [⟨13,aM,8,λi'=>bif i'.beq Sn.toNat then [D (aA (T5 Sq.toNat)),D (aR (T5 Sq.toNat))] else bif i'.beq Sq.toNat then [D (aA (T5 Sn.toNat)),D (aR (T5 Sn.toNat))] else A aM T5 i',oF rfl (oF rfl (aL rfl _ _) rfl) rfl⟩,⟨15,aM,XN,A aM WM,aL rfl _ _⟩]))))))))) (.enter (iR 0 16 []) (jQ.L18 ((↑ZA:Int)) (A aM T5) ZA XN (A aM WM) Sn Sq T5 WM ae Zb) [⟨13,aM,8,A aM T5,aL rfl _ _⟩,⟨15,aM,XN,A aM WM,aL rfl _ _⟩])|.L14 YO YP XO Vv R4 WE WG VX U7 YX ZB ZC YQ YR YT ZD YU YW Xa=>.iv (.obj (decide (E (0+1)<(↑R4:Int))) (decide (0<=E ((↑R4:Int)-2)/\E ((↑R4:Int)-2)<(↑R4:Int)/\R4<=VX)) (.obi (.obj (decide (E (0+1)<(↑R4:Int))) (decide ((E ((↑R4:Int)-2)).toNat<VX)) (.iv (.obj (decide (E (0+1)<(↑R4:Int))) (decide (0<=E ((↑R4:Int)-1)/\E ((↑R4:Int)-1)<(↑R4:Int)/\R4<=VX)) (.obi (.obj (decide (E (0+1)<(↑R4:Int))) (decide ((E ((↑R4:Int)-1)).toNat<VX)) (.ii (.br (decide (E (0+1)<(↑R4:Int))) (.ob (decide (E (0+1)<(↑R4:Int))) (.ob (decide (E (0+1)<(↑R4:Int))) (.cb (.br (decide (kO (aA (U7 (E ((↑R4:Int)-2)).toNat)) (aR (U7 (E ((↑R4:Int)-2)).toNat)) (aA (U7 (E ((↑R4:Int)-1)).toNat)) (aR (U7 (E ((↑R4:Int)-1)).toNat)) WE WG<=0)) (.ob (decide (0<=E ((↑R4:Int)-1)/\E ((↑R4:Int)-1)<=(↑R4:Int))) (.next (iR 0 17 []) (jQ.L14 YO YP XO (A aM Vv) ((E ((↑R4:Int)-1)).toNat) WE WG VX (A aM U7) YX ZB ZC YQ YR YT ZD YU YW Xa) [⟨13,aM,8,A aM Vv,aL rfl _ _⟩,⟨16,aM,VX,A aM U7,aL rfl _ _⟩])) (.obt (.ob (decide (R4<=VX/\(R4+1)*16<=140737488355328)&&!Nat.beq 16 0) (.next (iR 0 15 H7) (jQ.L12 (E (YO+1)) YP XO (A aM Vv) (R4+1) (bc R4 (A aM U7) λx=>[D WE,D WG]) YX ZB ZC YQ YR YT ZD YU YW Xa) [⟨13,aM,8,A aM Vv,aL rfl _ _⟩,⟨15,aM,R4+1,bc R4 (A aM U7) λx=>[D WE,D WG],gj (aL rfl _ _) (EE rfl _ rfl)⟩]))))))) (.obt (.ob (decide (R4<=VX/\(R4+1)*16<=140737488355328)&&!Nat.beq 16 0) (.next (iR 0 15 H7) (jQ.L12 (E (YO+1)) YP XO (A aM Vv) (R4+1) (bc R4 (A aM U7) λx=>[D WE,D WG]) YX ZB ZC YQ YR YT ZD YU YW Xa) [⟨13,aM,8,A aM Vv,aL rfl _ _⟩,⟨15,aM,R4+1,bc R4 (A aM U7) λx=>[D WE,D WG],gj (aL rfl _ _) (EE rfl _ rfl)⟩]))))))))))))|.L15 Sr Su ce U4 T7 ZE XP WN ch e₂ em ah a₂ c5 eq cd XG Zc=>.br (decide (Su<Sr)) (.ob (decide (0<=Sr/\Sr<(↑U4:Int)/\U4<=8)) (.ob (decide (Sr.toNat<8)) (.ob (decide (0<=Su/\Su<(↑U4:Int)/\U4<=8)) (.ob (decide (Su.toNat<8)) (.ob (decide (0<=Su/\Su<(↑U4:Int)/\U4<=8)) (.ob (decide (Su.toNat<8)) (.ob (decide (0<=Sr/\Sr<(↑U4:Int)/\U4<=8)) (.ob (decide (Sr.toNat<8)) (.next (iR 0 16 []) (jQ.L15 (E (Sr-1)) (E (Su+1)) ce U4 (λi'=>bif i'.beq Sr.toNat then [D (aA (T7 Su.toNat)),D (aR (T7 Su.toNat))] else bif i'.beq Su.toNat then [D (aA (T7 Sr.toNat)),D (aR (T7 Sr.toNat))] else A aM T7 i') ZE XP (A aM WN) ch e₂ em ah a₂ c5 eq cd XG Zc) [⟨13,aM,8,λi'=>bif i'.beq Sr.toNat then [D (aA (T7 Su.toNat)),D (aR (T7 Su.toNat))] else bif i'.beq Su.toNat then [D (aA (T7 Sr.toNat)),D (aR (T7 Sr.toNat))] else A aM T7 i',oF rfl (oF rfl (aL rfl _ _) rfl) rfl⟩,⟨15,aM,XP,A aM WN,aL rfl _ _⟩]))))))))) (.enter (iR 0 16 []) (jQ.L24 ((↑XG.toNat:Int)) (XG.toNat) ((↑ZE:Int)) (A aM T7) ZE XP (A aM WN) Sr Su ce U4 T7 WN ch e₂ em ah a₂ c5 eq cd XG Zc) [⟨13,aM,8,A aM T7,aL rfl _ _⟩,⟨15,aM,XP,A aM WN,aL rfl _ _⟩])|.L18 vn Wl XQ XR Zd vu w3 gu gv wI gt=>.brt (.obt (.obt (.enter (iR 0 17 []) (jQ.L20 vn (A aM Wl) XQ XR (A aM Zd) (aA (Wl 0)) (aR (Wl 0)) vu w3 gu XQ gv wI gt) [⟨13,aM,8,A aM Wl,aL rfl _ _⟩,⟨15,aM,XR,A aM Zd,aL rfl _ _⟩])))|.L20 UV Vw R5 Td U9 VJ VK Ya Yb Xd ZF Xb YZ Xc=>.iv (.obj (decide (E (UV+1)<(↑R5:Int))) (decide (0<=E ((↑R5:Int)-2)/\E ((↑R5:Int)-2)<(↑R5:Int)/\R5<=Td)) (.obi (.obj (decide (E (UV+1)<(↑R5:Int))) (decide ((E ((↑R5:Int)-2)).toNat<Td)) (.iv (.obj (decide (E (UV+1)<(↑R5:Int))) (decide (0<=E ((↑R5:Int)-1)/\E ((↑R5:Int)-1)<(↑R5:Int)/\R5<=Td)) (.obi (.obj (decide (E (UV+1)<(↑R5:Int))) (decide ((E ((↑R5:Int)-1)).toNat<Td)) (.ii (.br (decide (E (UV+1)<(↑R5:Int))) (.ob (decide (E (UV+1)<(↑R5:Int))) (.ob (decide (E (UV+1)<(↑R5:Int))) (.cb (.br (decide (kO (aA (U9 (E ((↑R5:Int)-2)).toNat)) (aR (U9 (E ((↑R5:Int)-2)).toNat)) (aA (U9 (E ((↑R5:Int)-1)).toNat)) (aR (U9 (E ((↑R5:Int)-1)).toNat)) VJ VK<=0)) (.ob (decide (0<=E ((↑R5:Int)-1)/\E ((↑R5:Int)-1)<=(↑R5:Int))) (.next (iR 0 17 []) (jQ.L20 UV (A aM Vw) ((E ((↑R5:Int)-1)).toNat) Td (A aM U9) VJ VK Ya Yb Xd ZF Xb YZ Xc) [⟨13,aM,8,A aM Vw,aL rfl _ _⟩,⟨15,aM,Td,A aM U9,aL rfl _ _⟩])) (.obt (.ob (decide (R5<=Td/\(R5+1)*16<=140737488355328)&&!Nat.beq 16 0) (.next (iR 0 17 H7) (jQ.L22 (E (0+1)) UV (A aM Vw) (R5+1) VJ VK (bc R5 (A aM U9) λx=>[D VJ,D VK]) Ya Yb Xd ZF Td Xb YZ Xc) [⟨13,aM,8,A aM Vw,aL rfl _ _⟩,⟨17,aM,R5+1,bc R5 (A aM U9) λx=>[D VJ,D VK],gj (aL rfl _ _) (EE rfl _ rfl)⟩]))))))) (.obt (.ob (decide (R5<=Td/\(R5+1)*16<=140737488355328)&&!Nat.beq 16 0) (.next (iR 0 17 H7) (jQ.L22 (E (0+1)) UV (A aM Vw) (R5+1) VJ VK (bc R5 (A aM U9) λx=>[D VJ,D VK]) Ya Yb Xd ZF Td Xb YZ Xc) [⟨13,aM,8,A aM Vw,aL rfl _ _⟩,⟨17,aM,R5+1,bc R5 (A aM U9) λx=>[D VJ,D VK],gj (aL rfl _ _) (EE rfl _ rfl)⟩]))))))))))))|.L22 EQ IP Wm Te _ _ Wo wi wt hZ yh yq h1 wT h2=>.br (decide (EQ<(↑8:Int))) (.ob (decide (0<=EQ/\EQ<(↑8:Int)/\8<=8)) (.ob (decide (EQ.toNat<8)) (.enter (iR 0 16 [some (some 18),some (some 17)]) (jQ.L23 EQ IP (A aM Wm) Te (aA (Wm EQ.toNat)) (aR (Wm EQ.toNat)) Te (A aM Wo) wi wt hZ yh yq h1 wT h2) [⟨13,aM,8,A aM Wm,aL rfl _ _⟩,⟨17,aM,Te,A aM Wo,aL rfl _ _⟩]))) (.ob (decide (0<=E ((↑Te:Int)-1)/\E ((↑Te:Int)-1)<=(↑Te:Int))) (.enter [some (some 17),some (some 0)] (jQ.L5 0 ((↑(E ((↑Te:Int)-1)).toNat:Int)) ((E ((↑Te:Int)-1)).toNat) (decide (2<(↑(E ((↑Te:Int)-1)).toNat:Int))) Te (A aM Wo)) [⟨0,aM,Te,A aM Wo,aL rfl _ _⟩]))|.L23 Yc Di Vx R6 VL VM VY UB Ye Yf Xe ZH ZI Xf Yd Xg=>.iv (.obj (decide (E (Di+1)<(↑R6:Int))) (decide (0<=E ((↑R6:Int)-2)/\E ((↑R6:Int)-2)<(↑R6:Int)/\R6<=VY)) (.obi (.obj (decide (E (Di+1)<(↑R6:Int))) (decide ((E ((↑R6:Int)-2)).toNat<VY)) (.iv (.obj (decide (E (Di+1)<(↑R6:Int))) (decide (0<=E ((↑R6:Int)-1)/\E ((↑R6:Int)-1)<(↑R6:Int)/\R6<=VY)) (.obi (.obj (decide (E (Di+1)<(↑R6:Int))) (decide ((E ((↑R6:Int)-1)).toNat<VY)) (.ii (.br (decide (E (Di+1)<(↑R6:Int))) (.ob (decide (E (Di+1)<(↑R6:Int))) (.ob (decide (E (Di+1)<(↑R6:Int))) (.cb (.br (decide (kO (aA (UB (E ((↑R6:Int)-2)).toNat)) (aR (UB (E ((↑R6:Int)-2)).toNat)) (aA (UB (E ((↑R6:Int)-1)).toNat)) (aR (UB (E ((↑R6:Int)-1)).toNat)) VL VM<=0)) (.ob (decide (0<=E ((↑R6:Int)-1)/\E ((↑R6:Int)-1)<=(↑R6:Int))) (.next (iR 0 18 []) (jQ.L23 Yc Di (A aM Vx) ((E ((↑R6:Int)-1)).toNat) VL VM VY (A aM UB) Ye Yf Xe ZH ZI Xf Yd Xg) [⟨13,aM,8,A aM Vx,aL rfl _ _⟩,⟨17,aM,VY,A aM UB,aL rfl _ _⟩])) (.obt (.ob (decide (R6<=VY/\(R6+1)*16<=140737488355328)&&!Nat.beq 16 0) (.next (iR 0 17 [some (some 19)]) (jQ.L22 (E (Yc+1)) Di (A aM Vx) (R6+1) VL VM (bc R6 (A aM UB) λx=>[D VL,D VM]) Ye Yf Xe ZH ZI Xf Yd Xg) [⟨13,aM,8,A aM Vx,aL rfl _ _⟩,⟨17,aM,R6+1,bc R6 (A aM UB) λx=>[D VL,D VM],gj (aL rfl _ _) (EE rfl _ rfl)⟩]))))))) (.obt (.ob (decide (R6<=VY/\(R6+1)*16<=140737488355328)&&!Nat.beq 16 0) (.next (iR 0 17 [some (some 19)]) (jQ.L22 (E (Yc+1)) Di (A aM Vx) (R6+1) VL VM (bc R6 (A aM UB) λx=>[D VL,D VM]) Ye Yf Xe ZH ZI Xf Yd Xg) [⟨13,aM,8,A aM Vx,aL rfl _ _⟩,⟨17,aM,R6+1,bc R6 (A aM UB) λx=>[D VL,D VM],gj (aL rfl _ _) (EE rfl _ rfl)⟩]))))))))))))|.L24 cn XT x3 Wq UZ WI Wr x8 xC xF z8 h₀ i6 w₂ zN zP x0 x1 x2 zU x4 x7 j0=>.br (decide (0<cn)) (.ob (decide ((0:Int)<=0/\0<(↑XT:Int)/\XT<=8)) (.obt (.enter (iR 0 17 []) (jQ.L25 cn XT x3 (A aM Wq) UZ WI (A aM Wr) (aA (Wq 0)) (aR (Wq 0)) x8 xC xF z8 h₀ UZ i6 w₂ zN zP x0 x1 x2 zU x4 x7 j0) [⟨13,aM,8,A aM Wq,aL rfl _ _⟩,⟨15,aM,WI,A aM Wr,aL rfl _ _⟩]))) (.ob (decide (0<=E ((↑UZ:Int)-1)/\E ((↑UZ:Int)-1)<=(↑UZ:Int))) (.enter [some (some 15),some (some 0)] (jQ.L5 0 ((↑(E ((↑UZ:Int)-1)).toNat:Int)) ((E ((↑UZ:Int)-1)).toNat) (decide (2<(↑(E ((↑UZ:Int)-1)).toNat:Int))) WI (A aM Wr)) [⟨0,aM,WI,A aM Wr,aL rfl _ _⟩]))|.L25 Yg XU UW Vy R7 Tg UD VN VP Ys Yh Yi ZJ Xh ZK Xi Yj ZL ZM Yk Yl Ym ZN Yn Yq Xj=>.iv (.obj (decide (E (UW+1)<(↑R7:Int))) (decide (0<=E ((↑R7:Int)-2)/\E ((↑R7:Int)-2)<(↑R7:Int)/\R7<=Tg)) (.obi (.obj (decide (E (UW+1)<(↑R7:Int))) (decide ((E ((↑R7:Int)-2)).toNat<Tg)) (.iv (.obj (decide (E (UW+1)<(↑R7:Int))) (decide (0<=E ((↑R7:Int)-1)/\E ((↑R7:Int)-1)<(↑R7:Int)/\R7<=Tg)) (.obi (.obj (decide (E (UW+1)<(↑R7:Int))) (decide ((E ((↑R7:Int)-1)).toNat<Tg)) (.ii (.br (decide (E (UW+1)<(↑R7:Int))) (.ob (decide (E (UW+1)<(↑R7:Int))) (.ob (decide (E (UW+1)<(↑R7:Int))) (.cb (.br (decide (kO (aA (UD (E ((↑R7:Int)-2)).toNat)) (aR (UD (E ((↑R7:Int)-2)).toNat)) (aA (UD (E ((↑R7:Int)-1)).toNat)) (aR (UD (E ((↑R7:Int)-1)).toNat)) VN VP<=0)) (.ob (decide (0<=E ((↑R7:Int)-1)/\E ((↑R7:Int)-1)<=(↑R7:Int))) (.next (iR 0 17 []) (jQ.L25 Yg XU UW (A aM Vy) ((E ((↑R7:Int)-1)).toNat) Tg (A aM UD) VN VP Ys Yh Yi ZJ Xh ZK Xi Yj ZL ZM Yk Yl Ym ZN Yn Yq Xj) [⟨13,aM,8,A aM Vy,aL rfl _ _⟩,⟨15,aM,Tg,A aM UD,aL rfl _ _⟩])) (.obt (.ob (decide (R7<=Tg/\(R7+1)*16<=140737488355328)&&!Nat.beq 16 0) (.next (iR 0 17 H7) (jQ.L26 (E (0+1)) Yg XU UW (A aM Vy) (R7+1) VN VP (bc R7 (A aM UD) λx=>[D VN,D VP]) Ys Yh Yi ZJ Xh ZK Tg Xi Yj ZL ZM Yk Yl Ym ZN Yn Yq Xj) [⟨13,aM,8,A aM Vy,aL rfl _ _⟩,⟨17,aM,R7+1,bc R7 (A aM UD) λx=>[D VN,D VP],gj (aL rfl _ _) (EE rfl _ rfl)⟩]))))))) (.obt (.ob (decide (R7<=Tg/\(R7+1)*16<=140737488355328)&&!Nat.beq 16 0) (.next (iR 0 17 H7) (jQ.L26 (E (0+1)) Yg XU UW (A aM Vy) (R7+1) VN VP (bc R7 (A aM UD) λx=>[D VN,D VP]) Ys Yh Yi ZJ Xh ZK Tg Xi Yj ZL ZM Yk Yl Ym ZN Yn Yq Xj) [⟨13,aM,8,A aM Vy,aL rfl _ _⟩,⟨17,aM,R7+1,bc R7 (A aM UD) λx=>[D VN,D VP],gj (aL rfl _ _) (EE rfl _ rfl)⟩]))))))))))))|.L26 Vm de XV yJ Wu Tl _ _ Wv yL xR xT zX jf zY zf jg xX zg zp xi xl xn zv y8 yG k9=>.br (decide (Vm<de)) (.ob (decide (0<=Vm/\Vm<(↑XV:Int)/\XV<=8)) (.ob (decide (Vm.toNat<8)) (.enter (iR 0 16 [some (some 18),some (some 17)]) (jQ.L27 (Vm) (de) (XV) (yJ) (A aM Wu) (Tl) (aA (Wu Vm.toNat)) (aR (Wu Vm.toNat)) (Tl) (A aM Wv) (yL) (xR) (xT) (zX) (jf) (zY) (zf) (jg) (xX) (zg) (zp) (xi) (xl) (xn) (zv) (y8) (yG) (k9)) [⟨13,aM,8,A aM Wu,aL rfl _ _⟩,⟨17,aM,Tl,A aM Wv,aL rfl _ _⟩]))) (.ob (decide (0<=E ((↑Tl:Int)-1)/\E ((↑Tl:Int)-1)<=(↑Tl:Int))) (.enter [some (some 17),some (some 0)] (jQ.L5 0 ((↑(E ((↑Tl:Int)-1)).toNat:Int)) ((E ((↑Tl:Int)-1)).toNat) (decide (2<(↑(E ((↑Tl:Int)-1)).toNat:Int))) (Tl) (A aM Wv)) [⟨0,aM,Tl,A aM Wv,aL rfl _ _⟩]))|.L27 Yt Yu XW UX Vz R9 VQ VS VZ UE Yv Yw Yx ZO Xk ZP ZR Xm Yy ZS ZT Yz Z0 Z1 ZU Z2 Z3 Xn=>.iv (.obj (decide (E (UX+1)<(↑R9:Int))) (decide (0<=E ((↑R9:Int)-2)/\E ((↑R9:Int)-2)<(↑R9:Int)/\R9<=VZ)) (.obi (.obj (decide (E (UX+1)<(↑R9:Int))) (decide ((E ((↑R9:Int)-2)).toNat<VZ)) (.iv (.obj (decide (E (UX+1)<(↑R9:Int))) (decide (0<=E ((↑R9:Int)-1)/\E ((↑R9:Int)-1)<(↑R9:Int)/\R9<=VZ)) (.obi (.obj (decide (E (UX+1)<(↑R9:Int))) (decide ((E ((↑R9:Int)-1)).toNat<VZ)) (.ii (.br (decide (E (UX+1)<(↑R9:Int))) (.ob (decide (E (UX+1)<(↑R9:Int))) (.ob (decide (E (UX+1)<(↑R9:Int))) (.cb (.br (decide (kO (aA (UE (E ((↑R9:Int)-2)).toNat)) (aR (UE (E ((↑R9:Int)-2)).toNat)) (aA (UE (E ((↑R9:Int)-1)).toNat)) (aR (UE (E ((↑R9:Int)-1)).toNat)) VQ VS<=0)) (.ob (decide (0<=E ((↑R9:Int)-1)/\E ((↑R9:Int)-1)<=(↑R9:Int))) (.next (iR 0 18 []) (jQ.L27 (Yt) (Yu) (XW) (UX) (A aM Vz) ((E ((↑R9:Int)-1)).toNat) (VQ) (VS) (VZ) (A aM UE) (Yv) (Yw) (Yx) (ZO) (Xk) (ZP) (ZR) (Xm) (Yy) (ZS) (ZT) (Yz) (Z0) (Z1) (ZU) (Z2) (Z3) (Xn)) [⟨13,aM,8,A aM Vz,aL rfl _ _⟩,⟨17,aM,VZ,A aM UE,aL rfl _ _⟩])) (.obt (.ob (decide (R9<=VZ/\(R9+1)*16<=140737488355328)&&!Nat.beq 16 0) (.next (iR 0 17 [some (some 19)]) (jQ.L26 (E (Yt+1)) (Yu) (XW) (UX) (A aM Vz) (R9+1) (VQ) (VS) (bc R9 (A aM UE) λx=>[D VQ,D VS]) (Yv) (Yw) (Yx) (ZO) (Xk) (ZP) (ZR) (Xm) (Yy) (ZS) (ZT) (Yz) (Z0) (Z1) (ZU) (Z2) (Z3) (Xn)) [⟨13,aM,8,A aM Vz,aL rfl _ _⟩,⟨17,aM,R9+1,bc R9 (A aM UE) λx=>[D VQ,D VS],gj (aL rfl _ _) (EE rfl _ rfl)⟩]))))))) (.obt (.ob (decide (R9<=VZ/\(R9+1)*16<=140737488355328)&&!Nat.beq 16 0) (.next (iR 0 17 [some (some 19)]) (jQ.L26 (E (Yt+1)) (Yu) (XW) (UX) (A aM Vz) (R9+1) (VQ) (VS) (bc R9 (A aM UE) λx=>[D VQ,D VS]) (Yv) (Yw) (Yx) (ZO) (Xk) (ZP) (ZR) (Xm) (Yy) (ZS) (ZT) (Yz) (Z0) (Z1) (ZU) (Z2) (Z3) (Xn)) [⟨13,aM,8,A aM Vz,aL rfl _ _⟩,⟨17,aM,R9+1,bc R9 (A aM UE) λx=>[D VQ,D VS],gj (aL rfl _ _) (EE rfl _ rfl)⟩]))))))))))))
def m57:RT jQ:=dm (x5,x6,Z) (.br (b8) (.ret (V.kb false)) (.cb (.brt (.obt (.cb (.cb (.obt (.obt (.brt (.obt (.cb (.cb (.obt (.obt (.brt (.obt (.cb (.cb (.obt (.obt (.brt (.obt (.cb (.cb (.obt (.obt (.brf (.cb (.brt (.enter (iR 0 14 []) (jQ.L0 (E (0+1)) (bc 6 (bc 4 (bc 2 (λi=>List.take 2 (List.drop (i*2) [D (ck T W x9 U),D (cm S W PV U),D (ck T W x9 O),D (cm S W PV O)])) λi=>List.take 2 (List.drop (i*2) [D (ck T W PT U),D (cm S W PV U),D (ck T W PT O),D (cm S W PV O)])) λi=>List.take 2 (List.drop (i*2) [D (ck T W PT U),D (cm S W PZ U),D (ck T W PT O),D (cm S W PZ O)])) λi=>List.take 2 (List.drop (i*2) [D (ck T W x9 U),D (cm S W PZ U),D (ck T W x9 O),D (cm S W PZ O)]))) [⟨13,aM,8,bc 6 (bc 4 (bc 2 (λi=>List.take 2 (List.drop (i*2) [D (ck T W x9 U),D (cm S W PV U),D (ck T W x9 O),D (cm S W PV O)])) λi=>List.take 2 (List.drop (i*2) [D (ck T W PT U),D (cm S W PV U),D (ck T W PT O),D (cm S W PV O)])) λi=>List.take 2 (List.drop (i*2) [D (ck T W PT U),D (cm S W PZ U),D (ck T W PT O),D (cm S W PZ O)])) λi=>List.take 2 (List.drop (i*2) [D (ck T W x9 U),D (cm S W PZ U),D (ck T W x9 O),D (cm S W PZ O)]),CI rfl rfl⟩]))))))))))))))))))))))))))))))
theorem ap9:d0 jw FE (D57 T S W U O x5 x6 Z b8 x9 PV PT PZ) (aqf T S W U O x5 x6 Z b8 x9 PV PT PZ) (m57 T S W U O x5 x6 Z b8 x9 PV PT PZ) (fm T S W U O x5 x6 Z b8 x9 PV PT PZ):=⟨bF,λs=>by cases s<;>exact bF⟩
attribute [local irreducible] kx kO rN
def FD:List P2:=[(ck T W x9 U,cm S W PV U),(ck T W x9 O,cm S W PV O),(ck T W PT U,cm S W PV U),(ck T W PT O,cm S W PV O),(ck T W PT U,cm S W PZ U),(ck T W PT O,cm S W PZ O),(ck T W x9 U,cm S W PZ U),(ck T W x9 O,cm S W PZ O)]
def Ee:Bool:=!b8&&JC (FD T S W U O x9 PV PT PZ) (x5,x6) Z
def Hu:Prop:=(-100000<=T/\T<=100000)/\(-100000<=S/\S<=100000)/\(0<=W/\W<=200)/\(0<=U/\U<=200)/\(0<=O/\O<=200)/\sm x5/\sm x6/\(0<=Z/\Z<=1073741824)/\(-100000<=x9/\x9<=100000)/\(-100000<=PV/\PV<=100000)/\(-100000<=PT/\PT<=100000)/\(-100000<=PZ/\PZ<=100000)
theorem Iq {l h n x:Int} (hl:-100000<=l/\l<=100000) (hh:0<=h/\h<=200) (hn:0<=n/\n<=200) (hx:-100000<=x/\x<=100000):ck l h x n=h*l+n*(x-l)/\cm l h x n=h*l+n*(x-l)/\sm (h*l+n*(x-l)):=by have k1:=mX (x:=h) (y:=l) (QG:=200) (B:=100000) K K K K;have k2:=mX (x:=n) (y:=x-l) (QG:=200) (B:=200000) K K K K;unfold ck cm bO bN;rw[AX (x:=x-l) K K,AX (x:=h*l) K K,AX (x:=n*(x-l)) K K,AX (x:=h*l+n*(x-l)) K K];exact⟨rfl,rfl,by unfold sm;omega⟩
theorem at1 {T S W U O x5 x6 Z x9 PV PT PZ:Int} (h:Hu T S W U O x5 x6 Z x9 PV PT PZ):∀ PX∈FD T S W U O x9 PV PT PZ,mf PX:=by
 obtain⟨h0,M,Q,h3,h4,h5,h6,h7,h9,W0,W2,V4⟩:=h;have k:∀a b n:Int,(-100000<=a/\a<=100000)->(-100000<=b/\b<=100000)->(0<=n/\n<=200)->mf (ck T W a n,cm S W b n):=λa b n ha hb hn=>by have e1:=Iq h0 Q hn ha;have e2:=Iq M Q hn hb;exact⟨by show sm (ck T W a n);rw[e1.1];exact e1.2.2,by show sm (cm S W b n);rw[e2.2.1];exact e2.2.2⟩
 intro PX hq;simp only[FD,Dq,H8,or_false]at hq;rcases hq with rfl|rfl|rfl|rfl|rfl|rfl|rfl|rfl
 ·exact k _ _ _ h9 W0 h3
 ·exact k _ _ _ h9 W0 h4
 ·exact k _ _ _ W2 W0 h3
 ·exact k _ _ _ W2 W0 h4
 ·exact k _ _ _ W2 V4 h3
 ·exact k _ _ _ W2 V4 h4
 ·exact k _ _ _ h9 V4 h3
 ·exact k _ _ _ h9 V4 h4
theorem atP (hm:mf (x5,x6)) (h7:0<=Z) (h8:Z<=1073741824) {n cap:Nat} {fo:(Nat->List V)} (hc:n<=cap) (hC:cap<=100) (M:1<=n) (hs:∀ k,k<n->mf (pq fo k)) :
 Ev (fm T S W U O x5 x6 Z b8 x9 PV PT PZ) (.L5 0 (n:Int) n (decide (2<(n:Int))) cap fo) (.bool (UH (Aj n fo) (x5,x6) Z)):=by
 have key:∀ i,i<=n->∀ (b:Bool) (g:(Nat->List V)),(∀ k,pq g k=pq fo k)->(b=true↔2<n/\∀ k,k<i->0<cM (pq fo k) (pq fo ((k+1) % n)) (x5,x6))->(∀ k,k<i->Dd (pq fo k) (pq fo ((k+1) % n)) (x5,x6) Z=false)->Ev (fm T S W U O x5 x6 Z b8 x9 PV PT PZ) (.L5 (i:Int) (n:Int) n b cap g) (.bool (UH (Aj n fo) (x5,x6) Z)):=by
  refine dv λi hi ih b g hg hb hN=>?_;by_cases Pj:i<n
  ·have hmod:(i+1) % n<n:=HH _ K
   have e:(E ((i:Int)+1)).tmod (n:Int)=(((i+1) % n:Nat):Int):=by rw[De K];exact(Int.ofNat_tmod _ _).symm
   have n1:kx (pq g i).1 (pq g i).2 (pq g ((i+1) % n)).1 (pq g ((i+1) % n)).2 x5 x6 Z=Dd (pq fo i) (pq fo ((i+1) % n)) (x5,x6) Z:=by rw[hg,hg];exact fx15 (a:=pq fo i) (b:=pq fo ((i+1) % n)) (p:=(x5,x6)) (hs i Pj) (hs _ hmod) hm h7 h8
   have R:kO (pq g i).1 (pq g i).2 (pq g ((i+1) % n)).1 (pq g ((i+1) % n)).2 x5 x6=cM (pq fo i) (pq fo ((i+1) % n)) (x5,x6):=by rw[hg,hg];exact X1 (a:=pq fo i) (b:=pq fo ((i+1) % n)) (p:=(x5,x6)) (hs i Pj) (hs _ hmod) hm
   refine Ev.of rfl (cO (AG K) (aF (AG K) (aF (AG K) (aF (AG K) (aF (AG (by rw[e];omega)) (aF (AG (by rw[e];omega)) (AM (ac ?_))))))));have hstep:∀ b',(b'=true↔b=true/\0<cM (pq fo i) (pq fo ((i+1) % n)) (x5,x6))->Dd (pq fo i) (pq fo ((i+1) % n)) (x5,x6) Z=false->Ev (fm T S W U O x5 x6 Z b8 x9 PV PT PZ) (.L5 (E ((i:Int)+1)) (n:Int) n b' cap (A Ai g)) (.bool (UH (Aj n fo) (x5,x6) Z)):=λb' QX hn=>by
    rw[De K];refine ih Pj b' _ (λk=>hg k) ?_ ?_
    ·rw [QX,hb]
     constructor
     ·rintro⟨⟨q1,q2⟩,q3⟩
      refine⟨q1,λk hk=>?_⟩;by_cases ek:k=i
      ·rw[ek];exact q3
      ·exact q2 k K
     ·rintro⟨q1,q2⟩;exact⟨⟨q1,λk hk=>q2 k K⟩,q2 i K⟩
    ·intro k hk
     by_cases ek:k=i
     ·rw[ek];exact hn
     ·exact hN k K
   have e':((E ((i:Int)+1)).tmod (n:Int)).toNat=(i+1) % n:=by rw[e];rfl
   refine AP (λhx=>AF ?_) (λhx=>AE (AP (λRZ=>aF RZ (aF RZ (AM (ac (aK ?_))))) (λRZ=>aK ?_)))
   ·rw[e']at hx;have hx:Dd (pq fo i) (pq fo ((i+1) % n)) (x5,x6) Z=true:=n1.symm.trans hx;rw[adc (.inl ⟨i,by rw[dQ];exact Pj,by rw[dQ,ir Pj,ir hmod];exact hx⟩)];rfl
   ·rw[e']at hx ⊢;refine hstep _ ?_ (n1.symm.trans hx);rw[DJ];have n2':kO (aA (g (i:Int).toNat)) (aR (g (i:Int).toNat)) (aA (g ((i+1) % n))) (aR (g ((i+1) % n))) x5 x6=_:=R;rw[n2'];exact⟨λPX=>⟨RZ,PX⟩,λPX=>PX.2⟩
   ·rw[e']at hx;refine hstep _ ?_ (n1.symm.trans hx);rw[RZ];exact⟨(λPX=>by cases PX),λPX=>PX.1⟩
  ·have ei:i=n:=by omega
   subst ei;refine Ev.of rfl (cW (eM K) (AF ?_));have:b=UH (Aj i fo) (x5,x6) Z:=by
    cases QX:b with
    |true=>have:=hb.1 QX;refine(adc (.inr ⟨by rw[dQ];exact this.1,λk hk=>?_⟩)).symm;rw[dQ]at hk ⊢;rw[ir hk,ir (HH _ K)];exact this.2 k hk
    |false=>
      refine(aql ?_).symm;rintro (⟨k,hk,h⟩|⟨q1,q2⟩)
      ·rw[dQ]at hk h;rw[ir hk,ir (HH _ K),hN k hk]at h;cases h
      ·rw[dQ]at q1 q2;have:=hb.2 ⟨q1,λk hk=>by have:=q2 k hk;rwa [ir hk,ir (HH _ K)]at this⟩;rw[QX]at this;cases this
   rw[this]
 exact key 0 (Bc _) _ fo (λ_=>rfl) ⟨λh=>⟨by have:=As h;omega,λk hk=>by omega⟩,λh=>AG K⟩ (λk hk=>by omega)
theorem ape {r:V} {AI:P2->Prop} (hD:∀ PX,AI PX->mf PX) (Q:∀ f j g,JZ 8 f->mV 8 AI f->Ev (fm T S W U O x5 x6 Z b8 x9 PV PT PZ) (.L2 1 f j g) r) {f:(Nat->List V)} (hf:mV 8 AI f):Ev (fm T S W U O x5 x6 Z b8 x9 PV PT PZ) (.L0 1 f) r:=by
 refine yK (Pn:=8) (AI:=AI) (P0:=λi f=>Ev (fm T S W U O x5 x6 Z b8 x9 PV PT PZ) (.L0 (i:Int) f) r) (P1:=λj i f=>Ev (fm T S W U O x5 x6 Z b8 x9 PV PT PZ) (.L1 (j:Int) (i:Int) f) r) ?_ ?_ ?_ ?_ 7 1 f rfl (Ah _) (λa b M Q=>by omega) hf
 ·intro i f M Q h;exact Ev.of rfl (cO (AG K) (aH h))
 ·intro f hs hm;exact Ev.of rfl (cW (eM K) (gQ (aH (Q _ _ _ hs hm))))
 ·intro j i f h0 Rl hi hm Pj h
  have e:=zT h0 K;have hC:decide (0<(j:Int))=true:=AG K;have hlt':=(atF (hD _ ((hm _).2 ⟨j,K,rfl⟩)) (hD _ ((hm _).2 ⟨j-1,K,rfl⟩))).2 Pj
  refine Ev.of rfl (AE (AE (Ba (λ_=>AG (by first|omega|(rw[e];omega))) (AE (Ba (λ_=>AG (by first|omega|(rw[e];omega))) (AE (AE (AE (Ba (λ_=>AG (by first|omega|(rw[e];omega))) (AE (Ba (λ_=>AG (by first|omega|(rw[e];omega))) (cO hC (aF hC (aF hC (aF hC (AM (ac (cO ?_
   (aF (AG (by first|omega|(rw[e];omega))) (aF (AG (by first|omega|(rw[e];omega))) (aF (AG (by first|omega|(rw[e];omega))) (aF (AG (by first|omega|(rw[e];omega))) (aF (AG (by first|omega|(rw[e];omega))) (aF (AG (by first|omega|(rw[e];omega))) (aF (AG (by first|omega|(rw[e];omega))) (aF (AG (by first|omega|(rw[e];omega))) (aK ?_)))))))))))))))))))))))))))
  ·rw[e];exact hlt'
  ·rw[e];exact h
 ·intro j i f Rl hi hm hn h
  have h':Ev (fm T S W U O x5 x6 Z b8 x9 PV PT PZ) (.L0 (E ((i:Int)+1)) (A Ai f)) r:=by rw[De K];exact h
  by_cases h0:0<j
  ·have e:=zT h0 K;have hC:decide (0<(j:Int))=true:=AG K;have hlt':=λhh=>hn h0 ((atF (hD _ ((hm _).2 ⟨j,K,rfl⟩)) (hD _ ((hm _).2 ⟨j-1,K,rfl⟩))).1 hh);refine Ev.of rfl (AE (AE (Ba (λ_=>AG (by first|omega|(rw[e];omega))) (AE (Ba (λ_=>AG (by first|omega|(rw[e];omega))) (AE (AE (AE (Ba (λ_=>AG (by first|omega|(rw[e];omega))) (AE (Ba (λ_=>AG (by first|omega|(rw[e];omega))) (cO hC (aF hC (aF hC (aF hC (AM (ac (cW ?_ (aK h')))))))))))))))))));rw[e];exact Bool.eq_false_iff.2 hlt'
  ·have hC:decide (0<(j:Int))=false:=eM K
   have hx:∀{b:Bool},decide (0<(j:Int))=true->b=true:=λhh=>by rw[hC]at hh;cases hh
   exact Ev.of rfl (AE (AE (Ba hx (AE (Ba hx (AE (AE (AE (Ba hx (AE (Ba hx (cW hC (aK h')))))))))))))
theorem aoe {r:V} {AI:P2->Prop} (h4:∀ f j g,K4 8 f->mV 8 AI f->Ev (fm T S W U O x5 x6 Z b8 x9 PV PT PZ) (.L4 0 f 0 (λ_=>[]) j g) r) (h5:∀ m f,1<=m->m<3->K4 m f->mV m AI f->Ev (fm T S W U O x5 x6 Z b8 x9 PV PT PZ) (.L5 0 (m:Int) m (decide (2<(m:Int))) 8 f) r)
 (V4:∀m f i n1 R i1 i2 i3 n3 i4 g,3<=m->m<8->K4 m f->mV m AI f->Ev (fm T S W U O x5 x6 Z b8 x9 PV PT PZ) (.L12 0 (m:Int) m f 0 (λ_=>[]) i n1 R i1 i2 i3 n3 i4 (m:Int) g) r) {f:(Nat->List V)} (j:Int) (g:(Nat->List V)) (hs:JZ 8 f) (hf:mV 8 AI f):Ev (fm T S W U O x5 x6 Z b8 x9 PV PT PZ) (.L2 1 f j g) r:=by
 refine adH (Pn:=8) (AI:=AI) (P2':=λi f=>∀j g,Ev (fm T S W U O x5 x6 Z b8 x9 PV PT PZ) (.L2 (i:Int) f j g) r) (P3:=λk off m f=>∀i1 i2 i3 n i4 i5 g,Ev (fm T S W U O x5 x6 Z b8 x9 PV PT PZ) (.L3 (k:Int) off (8-off) i1 i2 i3 n i4 (m:Int) f i5 g) r) ?_ ?_ ?_ ?_ ?_ ?_ 7 1 f rfl (Ah _) hs (λa b M Q=>by omega) hf j g
 ·intro f hs hm j g;exact Ev.of rfl (cW (eM K) (gQ (aH (h4 _ _ _ hs hm))))
 ·intro i f M h8 RY h j g
  have e:=zT (show 0<i by omega) K;refine Ev.of rfl (cO (AG K) (aF (AG (by first|omega|(rw[e];omega))) (aF (AG (by first|omega|(rw[e];omega))) (aF (AG (by first|omega|(rw[e];omega))) (aF (AG (by first|omega|(rw[e];omega))) (cW ?_ (aK ?_)))))))
  ·rw[e];exact(Kr _ _ _ _).trans (eM RY)
  ·rw[De K];exact h j g
 ·intro i f M h8 he h j g;have e:=zT (show 0<i by omega) K;refine Ev.of rfl (cO (AG K) (aF (AG (by first|omega|(rw[e];omega))) (aF (AG (by first|omega|(rw[e];omega))) (aF (AG (by first|omega|(rw[e];omega))) (aF (AG (by first|omega|(rw[e];omega))) (cO ?_ (aF (AG K) (aH (h _ _ _ _ _ _ _)))))))));rw[e];exact(Kr _ _ _ _).trans (AG he)
 ·intro k off m f M hN hm iz20 RY h i1 i2 i3 n i4 i5 g
  have e:=zT (show 0<k by omega) K;refine Ev.of rfl (cO (AG K) (aF (AG (by first|omega|(rw[e];omega))) (aF (AG (by first|omega|(rw[e];omega))) (aF (AG (by first|omega|(rw[e];omega))) (aF (AG (by first|omega|(rw[e];omega))) (cO ?_ (aF (AG (by first|omega|(rw[e];omega))) (aF (AG (by first|omega|(rw[e];omega))) (aF (AG (by first|omega|(rw[e];omega))) (aF (AG (by first|omega|(rw[e];omega))) (aK ?_)))))))))))
  ·rw[e];exact fy12 ((Kr _ _ _ _).trans (eM RY))
  ·rw[De (j:=k) K,De (j:=m) K];exact h _ _ _ _ _ _ _
 ·intro k off m f M hN hm iz20 he h i1 i2 i3 n i4 i5 g
  have e:=zT (show 0<k by omega) K;refine Ev.of rfl (cO (AG K) (aF (AG (by first|omega|(rw[e];omega))) (aF (AG (by first|omega|(rw[e];omega))) (aF (AG (by first|omega|(rw[e];omega))) (aF (AG (by first|omega|(rw[e];omega))) (cW ?_ (aK ?_)))))))
  ·rw[e];exact fy11 ((Kr _ _ _ _).trans (AG he))
  ·rw[De (j:=k) K];exact h _ _ _ _ _ _ _
 ·intro off m f hoff rh iz19 hs hm i1 i2 i3 n i4 i5 g
  refine Ev.of rfl (cW (eM K) (aF (AG K) (aF (AG K) (aF (AG K) (AP (λhh=>aH ?_) (λhh=>aH ?_))))))
  ·have:=As hh;exact h5 m _ rh K (hs.cong λk hk=>BB hk) (hm.cong λk hk=>BB hk)
  ·have:=D2 hh;exact V4 m _ _ _ _ _ _ _ _ _ _ K iz19 (hs.cong λk hk=>BB hk) (hm.cong λk hk=>BB hk)
theorem Dw {c:List P2} {i:Nat} (h:i<c.length):jE c i∈c:=by have:=jk h;exact Is this
theorem HW {fo:be} {p:P2} {n:Nat} {s:Int} (w1:E ((n:Int)-1)=((n-1:Nat):Int)) (w2:E ((n:Int)-2)=((n-2:Nat):Int)) (e:kO (pq fo (n-2)).1 (pq fo (n-2)).2 (pq fo (n-1)).1 (pq fo (n-1)).2 p.1 p.2=s) :
 decide (kO (aA (fo (E ((n:Int)-2)).toNat)) (aR (fo (E ((n:Int)-2)).toNat)) (aA (fo (E ((n:Int)-1)).toNat)) (aR (fo (E ((n:Int)-1)).toNat)) p.1 p.2<=0)=decide (s<=0):=by
 rw[w1,w2,← e];rfl
theorem axw {r:V} {c:List P2} {bl:Nat} {base:List P2} {f:(Nat->List V)} (hf:Aj 8 f=c) (S8:∀ PX∈c,mf PX) (hb:∀ PX∈base,mf PX) (SG:base.length=bl) (hb8:bl<=8)
 (h5:∀n fo cap,n<=cap->cap<=100->Aj n fo=base++(bu [] c).tail.reverse->n=base.length+(bu [] c).tail.length->Ev (fm T S W U O x5 x6 Z b8 x9 PV PT PZ) (.L5 0 (n:Int) n (decide (2<(n:Int))) cap fo) r)
 {cap:Nat} {fo:(Nat->List V)} (hc:bl<=cap) (W5:cap<=50) (Wy:Aj bl fo=base) (i5:Int) (nz14:Int) (f7:(Nat->List V)) (f8:(Nat->List V)) (i9:Int) (Ub:(Nat->List V)):Ev (fm T S W U O x5 x6 Z b8 x9 PV PT PZ) (.L18 (bl:Int) f bl cap fo i5 nz14 f7 f8 i9 Ub) r:=by
 have RE:c.length=8:=by rw[← hf,dQ]
 have ew:=De (j:=bl) K;have e0:E (0+1)=((1:Nat):Int):=by rw[AX K K];rfl
 have at':∀(g:(Nat->List V)),(∀k,k<8->pq g k=pq f k)->∀i,i<8->jE c i=pq g i:=λg hg i hi=>by rw[hg i hi,← hf];exact ir hi
 have key:=nK (base:=base) (c:=c) (Rb:=bl+8) K
  (PO:=λi n fo=>∀(g:(Nat->List V)) (ix:Int) (iy:Int) (i7:Int) (i8:Int) (f9:(Nat->List V)) (S9:Nat) (PS:Nat) (RH:(Nat->List V)) (VB:Int) (TJ:(Nat->List V)),(∀k,k<8->pq g k=pq f k)->Ev (fm T S W U O x5 x6 Z b8 x9 PV PT PZ) (.L22 (i:Int) (bl:Int) g n ix iy fo i7 i8 f9 S9 PS RH VB TJ) r)
  (PI:=λi n cap fo=>∀(g:(Nat->List V)) (i7:Int) (i8:Int) (f9:(Nat->List V)) (S9:Nat) (PS:Nat) (RH:(Nat->List V)) (VB:Int) (TJ:(Nat->List V)),(∀k,k<8->pq g k=pq f k)->Ev (fm T S W U O x5 x6 Z b8 x9 PV PT PZ) (.L23 (i:Int) (bl:Int) g n (jE c i).1 (jE c i).2 cap fo i7 i8 f9 S9 PS RH VB TJ) r) ?_ ?_ ?_ ?_
 ·-- the first round
  obtain⟨p,l,ec⟩:∃ p l,c=p::l:=by
   cases c with
   |nil=>simp at RE|cons p l=>exact⟨p,l,rfl⟩
  have hp:pq f 0=p:=by have:=at' f (λ_ _=>rfl) 0 K;rw[← this,ec];rfl
  subst hp;have k1:=key l [pq f 0] [pq f 0] (bl+1) (bc bl (A Ai fo) λ_=>Hb (pq f 0)) (by rw[ec];rfl) (by rw[ec];rfl) (by rw[yn,Wy];rfl) (Ah _) (λPX hq=>by rw[ec];simp at hq;simp[hq]);have T0:∀ (i7:Int) (i8:Int) (f9:(Nat->List V)) (S9:Nat) (At:(Nat->List V)) (i12:Int) (Pf:(Nat->List V)),Ev (fm T S W U O x5 x6 Z b8 x9 PV PT PZ) (.L20 (bl:Int) (A Ai f) bl cap (A Ai fo) (pq f 0).1 (pq f 0).2 i7 i8 f9 S9 At i12 Pf) r:=by
   intro i7 i8 f9 S9 At i12 Pf;have hC:decide (E ((bl:Int)+1)<(bl:Int))=false:=eM (by rw[ew];omega);have hx:∀{P:Prop},decide (E ((bl:Int)+1)<(bl:Int))=true->P:=λhh=>by rw[hC]at hh;cases hh
   refine Ev.of rfl (iQ hx hx hx λ_=>ac (aF (m5 hc K) (aK ?_)));rw[e0];exact k1 (A Ai f) _ _ _ _ _ _ _ _ _ _ (λk hk=>rfl)
  exact Ev.of rfl (dX (ac (ac (aH (T0 _ _ _ _ _ _ _)))))
 ·intro i n fo hi hn h g ix iy i7 i8 f9 S9 PS RH VB TJ hg;rw[RE]at hi;have e:=at' g hg i hi;have h':=h;rw[e]at h';exact Ev.of rfl (cO (AG K) (aF (AG K) (aF (AG K) (aH (h' (A Ai g) _ _ _ _ _ _ _ _ (λk hk=>hg k hk))))))
 ·intro i n cap fo hi M Q V5 Qo hs h g i7 i8 f9 S9 PS RH VB TJ hg
  have RP:bl+1<n:=by rw[← SG];exact M
  have w1:=zT (j:=n) K K;have w2:=He (j:=n) K K;have sm:∀k,k<n->mf (pq fo k):=λk hk=>(Qo k hk).elim (hb _) (S8 _);have e3:=X1 (sm (n-2) K) (sm (n-1) K) (S8 (jE c i) (Dw hi));have hC:decide (E ((bl:Int)+1)<(n:Int))=true:=AG (by rw[ew];omega);have hS:=HW (fo:=fo) (p:=jE c i) w1 w2 e3;refine Ev.of rfl (iQ (λ_=>⟨AG (by rw[w2];omega),AG (by rw[w2];omega),AG (by rw[w1];omega),AG (by rw[w1];omega)⟩) (λ_ _=>aF (AG (by rw[w1];omega)) (aK ?_)) (λ_ hf=>by rw[hS,AG hs]at hf;cases hf) (λhf=>by rw[hC]at hf;cases hf));rw[w1];exact h (A Ai g) _ _ _ _ _ _ _ _ (λk hk=>hg k hk)
 ·intro i n cap fo hi M Qo hs Q V5 h g i7 i8 f9 S9 PS RH VB TJ hg
  have nx:∀(_:Unit),Ev (fm T S W U O x5 x6 Z b8 x9 PV PT PZ) (.L22 (E ((i:Int)+1)) (bl:Int) (A Ai g) (n+1) (jE c i).1 (jE c i).2 (bc n (A Ai fo) λ_=>Hb (jE c i)) i7 i8 f9 S9 PS RH VB TJ) r:=λ_=>by rw[De (j:=i) K];exact h (A Ai g) _ _ _ _ _ _ _ _ _ _ (λk hk=>hg k hk)
  by_cases RP:bl+1<n
  ·have w1:=zT (j:=n) K K;have w2:=He (j:=n) K K;have sm:∀k,k<n->mf (pq fo k):=λk hk=>(Qo k hk).elim (hb _) (S8 _);have e3:=X1 (sm (n-2) K) (sm (n-1) K) (S8 (jE c i) (Dw hi));have hC:decide (E ((bl:Int)+1)<(n:Int))=true:=AG (by rw[ew];omega);have hS:=HW (fo:=fo) (p:=jE c i) w1 w2 e3;have Ra:=hs (by first|exact RP|(rw[SG];exact RP));exact Ev.of rfl (iQ (λ_=>⟨AG (by rw[w2];omega),AG (by rw[w2];omega),AG (by rw[w1];omega),AG (by rw[w1];omega)⟩) (λ_ hf=>by rw[hS,eM K]at hf;cases hf) (λ_ _=>ac (aF (m5 Q K) (aK (nx ())))) (λhf=>by rw[hC]at hf;cases hf))
  ·have hC:decide (E ((bl:Int)+1)<(n:Int))=false:=eM (by rw[ew];omega)
   have hx:∀{P:Prop},decide (E ((bl:Int)+1)<(n:Int))=true->P:=λhh=>by rw[hC]at hh;cases hh
   exact Ev.of rfl (iQ hx hx hx λ_=>ac (aF (m5 Q K) (aK (nx ()))))
 ·intro n fo WW g ix iy i7 i8 f9 S9 PS RH VB TJ hg;rw[RE];obtain⟨q1,q2,q3,q4⟩:=sB WW (nn (.inr (by intro h;rw[h]at RE;simp at RE)));have w1:=zT (j:=n) q1 (by have:=iE (l:=c) (st:=[]);simp only[EJ]at this;omega);have hl:=iE (l:=c) (st:=[]);simp only[EJ]at hl;have:=h5 (n-1) (A Ai fo) n K K q2 (by rw[Iy];omega);refine Ev.of rfl (cW (eM K) (aF (AG (by rw[w1];omega)) (aH ?_)));rw[w1];exact this
theorem ayA {r:V} {f:(Nat->List V)} (hS:K4 8 f) (S8:∀ PX∈Aj 8 f,mf PX)
 (h5:∀n fo cap,n<=cap->cap<=100->Aj n fo=fj (Aj 8 f)->n=(fj (Aj 8 f)).length->Ev (fm T S W U O x5 x6 Z b8 x9 PV PT PZ) (.L5 0 (n:Int) n (decide (2<(n:Int))) cap fo) r) (ia:Int) (fz:(Nat->List V)):Ev (fm T S W U O x5 x6 Z b8 x9 PV PT PZ) (.L4 0 f 0 (λ_=>[]) ia fz) r:=by
 generalize hc:Aj 8 f=c at *
 have RE:c.length=8:=by rw[← hc,dQ]
 have e0:E (0+1)=((1:Nat):Int):=by rw[AX K K];rfl
 have at':∀(g:(Nat->List V)),(∀k,k<8->pq g k=pq f k)->∀i,i<8->jE c i=pq g i:=λg hg i hi=>by rw[hg i hi,← hc];exact ir hi
 have qT:=iE (l:=c) (st:=[]);simp only[EJ]at qT
 have key:=nK (base:=[]) (c:=c) (Rb:=8) (by simp;omega)
  (PO:=λi n fo=>∀(g:(Nat->List V)) (ia:Int) (fz:(Nat->List V)),(∀k,k<8->pq g k=pq f k)->Ev (fm T S W U O x5 x6 Z b8 x9 PV PT PZ) (.L4 (i:Int) g n fo ia fz) r)
  (PI:=λi n cap fo=>∀(g:(Nat->List V)) (ia:Int) (fz:(Nat->List V)),(∀k,k<8->pq g k=pq f k)->Ev (fm T S W U O x5 x6 Z b8 x9 PV PT PZ) (.L7 (i:Int) g n (jE c i).1 (jE c i).2 cap fo ia fz) r) ?_ ?_ ?_ ?_
 ·exact key c [] [] 0 (λ_=>[]) rfl rfl rfl (Ah _) (λPX hq=>by cases hq) f ia fz (λ_ _=>rfl)
 ·intro i n fo hi hn h g ia fz hg;rw[RE]at hi;have e:=at' g hg i hi;have h':=h;rw[e]at h';exact Ev.of rfl (cO (AG K) (aF (AG K) (aF (AG K) (aH (h' (A Ai g) _ _ (λk hk=>hg k hk))))))
 ·intro i n cap fo hi M Q V5 Qo hs h g ia fz hg
  have RP:0+1<n:=by simpa using M
  have w1:=zT (j:=n) K K;have w2:=He (j:=n) K K;have sm:∀k,k<n->mf (pq fo k):=λk hk=>(Qo k hk).elim (λh=>by cases h) (S8 _);have e3:=X1 (sm (n-2) K) (sm (n-1) K) (S8 (jE c i) (Dw hi));have hC:decide (E (0+1)<(n:Int))=true:=AG (by rw[e0];omega);have hS:=HW (fo:=fo) (p:=jE c i) w1 w2 e3;refine Ev.of rfl (iQ (λ_=>⟨AG (by rw[w2];omega),AG (by rw[w2];omega),AG (by rw[w1];omega),AG (by rw[w1];omega)⟩) (λ_ _=>aF (AG (by rw[w1];omega)) (aK ?_)) (λ_ hf=>by rw[hS,AG hs]at hf;cases hf) (λhf=>by rw[hC]at hf;cases hf));rw[w1];exact h (A Ai g) _ _ (λk hk=>hg k hk)
 ·intro i n cap fo hi M Qo hs Q V5 h g ia fz hg
  have nx:∀(_:Unit),Ev (fm T S W U O x5 x6 Z b8 x9 PV PT PZ) (.L4 (E ((i:Int)+1)) (A Ai g) (n+1) (bc n (A Ai fo) λ_=>Hb (jE c i)) ia fz) r:=λ_=>by rw[De (j:=i) K];exact h (A Ai g) _ _ (λk hk=>hg k hk)
  by_cases RP:0+1<n
  ·have w1:=zT (j:=n) K K;have w2:=He (j:=n) K K;have sm:∀k,k<n->mf (pq fo k):=λk hk=>(Qo k hk).elim (λh=>by cases h) (S8 _);have e3:=X1 (sm (n-2) K) (sm (n-1) K) (S8 (jE c i) (Dw hi));have hC:decide (E (0+1)<(n:Int))=true:=AG (by rw[e0];omega);have hS:=HW (fo:=fo) (p:=jE c i) w1 w2 e3;have Ra:=hs (by simpa using RP);exact Ev.of rfl (iQ (λ_=>⟨AG (by rw[w2];omega),AG (by rw[w2];omega),AG (by rw[w1];omega),AG (by rw[w1];omega)⟩) (λ_ hf=>by rw[hS,eM K]at hf;cases hf) (λ_ _=>ac (aF (m5 Q K) (aK (nx ())))) (λhf=>by rw[hC]at hf;cases hf))
  ·have hC:decide (E (0+1)<(n:Int))=false:=eM (by rw[e0];omega)
   have hx:∀{P:Prop},decide (E (0+1)<(n:Int))=true->P:=λhh=>by rw[hC]at hh;cases hh
   exact Ev.of rfl (iQ hx hx hx λ_=>ac (aF (m5 Q K) (aK (nx ()))))
 ·intro n fo WW g ia fz hg
  rw[RE];obtain⟨q1,q2,q3,q4⟩:=sB WW (nn (.inr (by intro h;rw[h]at RE;simp at RE)));simp only[EJ,DZ,List.nil_append]at q2 q3;have w1:=zT (j:=n) q1 K;have wN:E ((8:Int)-1)=((8-1:Nat):Int):=by rw[AX K K];rfl
  refine Ev.of rfl (cW (eM K) (aF (AG (by rw[w1];omega)) (aH ?_)));rw[w1,wN];have rev:=Dc (Pn:=8) (g:=pq f) (P:=λi j N=>∀(T6:(Nat->List V)) (ia:Int) (fz:(Nat->List V)),(∀k,pq T6 k=pq fo k)->Ev (fm T S W U O x5 x6 Z b8 x9 PV PT PZ) (.L13 (j:Int) (i:Int) N (n-1) n T6 ia fz) r) ?_ ?_
  ·exact rev 8 0 (8-1) (A Ai g) K K (λk hk=>by rw[AU K];exact hg k hk) (A Ai fo) _ _ (λ_=>rfl)
  ·intro i j N Tu hj h T6 ia fz WQ;have v1:=zT (j:=j) K K;have v2:=De (j:=i) K;refine Ev.of rfl (cO (AG K) (aF (AG K) (aF (AG K) (aF (AG K) (aF (AG K) (aF (AG K) (aF (AG K) (aF (AG K) (aF (AG K) (aK ?_))))))))));rw[v1,v2];exact h (A Ai T6) _ _ (λk=>WQ k)
  ·intro i j N Tu nR T6 ia fz WQ
   have hb:Aj (n-1) T6=(bu [] c).tail.reverse:=by rw[afS λk _=>WQ k];exact q2
   have Vh:Aj 8 N=c.reverse:=by rw[← hc];exact avP nR
   have Pj:(bu [] c).tail.reverse.length=n-1:=by rw[Ef,Iy,← q3]
   have hu:fj c=(bu [] c).tail.reverse++(bu [] c.reverse).tail.reverse:=acr K;have Xq:∀ PX∈(bu [] c).tail.reverse,mf PX:=λPX hq=>by
    rcases lz (Km (List.mem_reverse.1 hq)) with h|h
    ·cases h
    ·exact S8 PX h
   have fin:=axw T S W U O x5 x6 Z b8 x9 PV PT PZ  (r:=r) (c:=c.reverse) (base:=(bu [] c).tail.reverse) (f:=A Ai N) Vh (λPX hq=>S8 PX (List.mem_reverse.1 hq)) Xq Pj K (λn fo cap k1 k2 k3 k4=>h5 n fo cap k1 k2 (by rw[hu];exact k3) (by rw[hu,Du,k4];congr 1;exact(Ef ..).symm)) (cap:=n) (fo:=A Ai T6) K K hb;exact Ev.of rfl (cW (eM K) (aH (fin _ _ _ _ _ _)))
theorem aye {r:V} {Pn:Nat} {c:List P2} {bl:Nat} {base:List P2} {f:(Nat->List V)} (h3:3<=Pn) (h8:Pn<=8) (hf:Aj Pn f=c) (S8:∀ PX∈c,mf PX) (hb:∀ PX∈base,mf PX) (SG:base.length=bl) (hb8:bl<=8)
 (h5:∀n fo cap,n<=cap->cap<=100->Aj n fo=base++(bu [] c).tail.reverse->n=base.length+(bu [] c).tail.length->Ev (fm T S W U O x5 x6 Z b8 x9 PV PT PZ) (.L5 0 (n:Int) n (decide (2<(n:Int))) cap fo) r)
 {cap:Nat} {fo:(Nat->List V)} (hc:bl<=cap) (W5:cap<=50) (Wy:Aj bl fo=base) (i7:Int) (i8:Int) (i9:Int) (S9:Nat) (At:(Nat->List V)) (RH:(Nat->List V)) (VB:Int) (Qs:Nat) (Pm:Nat) (i16:Int) (VC:Int) (nz12:Int) (VT:Nat) (U0:Int) (U1:Int) (f22:(Nat->List V)):Ev (fm T S W U O x5 x6 Z b8 x9 PV PT PZ) (.L24 (Pn:Int) Pn (bl:Int) f bl cap fo i7 i8 i9 S9 At RH VB Qs Pm i16 VC nz12 VT U0 U1 f22) r:=by
 have RE:c.length=Pn:=by rw[← hf,dQ]
 have ew:=De (j:=bl) K;have e0:E (0+1)=((1:Nat):Int):=by rw[AX K K];rfl
 have at':∀(g:(Nat->List V)),(∀k,k<Pn->pq g k=pq f k)->∀i,i<Pn->jE c i=pq g i:=λg hg i hi=>by rw[hg i hi,← hf];exact ir hi
 have key:=nK (base:=base) (c:=c) (Rb:=bl+8) K
  (PO:=λi n fo=>∀(g:(Nat->List V)) (ix:Int) (iy:Int) (Uo:Int) (Uq:Int) (Us:Int) (Rp:Nat) (Pf:(Nat->List V)) (Qs:Nat) (Pm:Nat) (TK:(Nat->List V)) (VC:Int) (V0:Nat) (VT:Nat) (U0:Int) (U1:Int) (WB:Int) (WH:Nat) (Ut:Int) (WC:Int) (Vr:(Nat->List V)),(∀k,k<Pn->pq g k=pq f k)->Ev (fm T S W U O x5 x6 Z b8 x9 PV PT PZ) (.L26 (i:Int) (Pn:Int) Pn (bl:Int) g n ix iy fo Uo Uq Us Rp Pf Qs Pm TK VC V0 VT U0 U1 WB WH Ut WC Vr) r)
  (PI:=λi n cap fo=>∀(g:(Nat->List V)) (Uo:Int) (Uq:Int) (Us:Int) (Rp:Nat) (Pf:(Nat->List V)) (Qs:Nat) (Pm:Nat) (TK:(Nat->List V)) (VC:Int) (V0:Nat) (VT:Nat) (U0:Int) (U1:Int) (WB:Int) (WH:Nat) (Ut:Int) (WC:Int) (Vr:(Nat->List V)),(∀k,k<Pn->pq g k=pq f k)->Ev (fm T S W U O x5 x6 Z b8 x9 PV PT PZ) (.L27 (i:Int) (Pn:Int) Pn (bl:Int) g n (jE c i).1 (jE c i).2 cap fo Uo Uq Us Rp Pf Qs Pm TK VC V0 VT U0 U1 WB WH Ut WC Vr) r) ?_ ?_ ?_ ?_
 ·-- the first round
  obtain⟨p,l,ec⟩:∃ p l,c=p::l:=by
   cases c with
   |nil=>simp at RE;omega|cons p l=>exact⟨p,l,rfl⟩
  have hp:pq f 0=p:=by have:=at' f (λ_ _=>rfl) 0 K;rw[← this,ec];rfl
  subst hp;have k1:=key l [pq f 0] [pq f 0] (bl+1) (bc bl (A Ai fo) λ_=>Hb (pq f 0)) (by rw[ec];rfl) (by rw[ec];rfl) (by rw[yn,Wy];rfl) (Ah _) (λPX hq=>by rw[ec];simp at hq;simp[hq]);have T0:∀ (Uo:Int) (Uq:Int) (Us:Int) (Rp:Nat) (Pf:(Nat->List V)) (Qs:Nat) (Ph:(Nat->List V)) (i16:Int) (n17:Nat) (V0:Nat) (i19:Int) (U0:Int) (U1:Int) (n22:Nat) (i23:Int) (Ut:Int) (f25:(Nat->List V)),Ev (fm T S W U O x5 x6 Z b8 x9 PV PT PZ) (.L25 (Pn:Int) Pn (bl:Int) (A Ai f) bl cap (A Ai fo) (pq f 0).1 (pq f 0).2 Uo Uq Us Rp Pf Qs Ph i16 n17 V0 i19 U0 U1 n22 i23 Ut f25) r:=by
   intro Uo Uq Us Rp Pf Qs Ph i16 n17 V0 i19 U0 U1 n22 i23 Ut f25;have hC:decide (E ((bl:Int)+1)<(bl:Int))=false:=eM (by rw[ew];omega);have hx:∀{P:Prop},decide (E ((bl:Int)+1)<(bl:Int))=true->P:=λhh=>by rw[hC]at hh;cases hh
   refine Ev.of rfl (iQ hx hx hx λ_=>ac (aF (m5 hc K) (aK ?_)));rw[e0];exact k1 (A Ai f) _ _ _ _ _ _ _ _ _ _ _ _ _ _ _ _ _ _ _ _ (λk hk=>rfl)
  exact Ev.of rfl (cO (AG K) (aF (AG K) (ac (aH (T0 _ _ _ _ _ _ _ _ _ _ _ _ _ _ _ _ _)))))
 ·intro i n fo hi hn h g ix iy Uo Uq Us Rp Pf Qs Pm TK VC V0 VT U0 U1 WB WH Ut WC Vr hg;rw[RE]at hi;have e:=at' g hg i hi;have h':=h;rw[e]at h';exact Ev.of rfl (cO (AG K) (aF (AG K) (aF (AG K) (aH (h' (A Ai g) _ _ _ _ _ _ _ _ _ _ _ _ _ _ _ _ _ _ (λk hk=>hg k hk))))))
 ·intro i n cap fo hi M Q V5 Qo hs h g Uo Uq Us Rp Pf Qs Pm TK VC V0 VT U0 U1 WB WH Ut WC Vr hg
  have RP:bl+1<n:=by rw[← SG];exact M
  have w1:=zT (j:=n) K K;have w2:=He (j:=n) K K;have sm:∀k,k<n->mf (pq fo k):=λk hk=>(Qo k hk).elim (hb _) (S8 _);have e3:=X1 (sm (n-2) K) (sm (n-1) K) (S8 (jE c i) (Dw hi));have hC:decide (E ((bl:Int)+1)<(n:Int))=true:=AG (by rw[ew];omega);have hS:=HW (fo:=fo) (p:=jE c i) w1 w2 e3;refine Ev.of rfl (iQ (λ_=>⟨AG (by rw[w2];omega),AG (by rw[w2];omega),AG (by rw[w1];omega),AG (by rw[w1];omega)⟩) (λ_ _=>aF (AG (by rw[w1];omega)) (aK ?_)) (λ_ hf=>by rw[hS,AG hs]at hf;cases hf) (λhf=>by rw[hC]at hf;cases hf));rw[w1];exact h (A Ai g) _ _ _ _ _ _ _ _ _ _ _ _ _ _ _ _ _ _ (λk hk=>hg k hk)
 ·intro i n cap fo hi M Qo hs Q V5 h g Uo Uq Us Rp Pf Qs Pm TK VC V0 VT U0 U1 WB WH Ut WC Vr hg
  have nx:∀(_:Unit),Ev (fm T S W U O x5 x6 Z b8 x9 PV PT PZ) (.L26 (E ((i:Int)+1)) (Pn:Int) Pn (bl:Int) (A Ai g) (n+1) (jE c i).1 (jE c i).2 (bc n (A Ai fo) λ_=>Hb (jE c i)) Uo Uq Us Rp Pf Qs Pm TK VC V0 VT U0 U1 WB WH Ut WC Vr) r:=λ_=>by rw[De (j:=i) K];exact h (A Ai g) _ _ _ _ _ _ _ _ _ _ _ _ _ _ _ _ _ _ _ _ (λk hk=>hg k hk)
  by_cases RP:bl+1<n
  ·have w1:=zT (j:=n) K K;have w2:=He (j:=n) K K;have sm:∀k,k<n->mf (pq fo k):=λk hk=>(Qo k hk).elim (hb _) (S8 _);have e3:=X1 (sm (n-2) K) (sm (n-1) K) (S8 (jE c i) (Dw hi));have hC:decide (E ((bl:Int)+1)<(n:Int))=true:=AG (by rw[ew];omega);have hS:=HW (fo:=fo) (p:=jE c i) w1 w2 e3;have Ra:=hs (by first|exact RP|(rw[SG];exact RP));exact Ev.of rfl (iQ (λ_=>⟨AG (by rw[w2];omega),AG (by rw[w2];omega),AG (by rw[w1];omega),AG (by rw[w1];omega)⟩) (λ_ hf=>by rw[hS,eM K]at hf;cases hf) (λ_ _=>ac (aF (m5 Q K) (aK (nx ())))) (λhf=>by rw[hC]at hf;cases hf))
  ·have hC:decide (E ((bl:Int)+1)<(n:Int))=false:=eM (by rw[ew];omega)
   have hx:∀{P:Prop},decide (E ((bl:Int)+1)<(n:Int))=true->P:=λhh=>by rw[hC]at hh;cases hh
   exact Ev.of rfl (iQ hx hx hx λ_=>ac (aF (m5 Q K) (aK (nx ()))))
 ·intro n fo WW g ix iy Uo Uq Us Rp Pf Qs Pm TK VC V0 VT U0 U1 WB WH Ut WC Vr hg;rw[RE];obtain⟨q1,q2,q3,q4⟩:=sB WW (nn (.inr (by intro h;rw[h]at RE;simp at RE;omega)));have w1:=zT (j:=n) q1 (by have:=iE (l:=c) (st:=[]);simp only[EJ]at this;omega);have hl:=iE (l:=c) (st:=[]);simp only[EJ]at hl;have:=h5 (n-1) (A Ai fo) n K K q2 (by rw[Iy];omega);refine Ev.of rfl (cW (eM K) (aF (AG (by rw[w1];omega)) (aH ?_)));rw[w1];exact this
theorem axP {r:V} {Pn:Nat} {f:(Nat->List V)} (h3:3<=Pn) (h8:Pn<=8) (hS:K4 Pn f) (S8:∀ PX∈Aj Pn f,mf PX)
 (h5:∀n fo cap,n<=cap->cap<=100->Aj n fo=fj (Aj Pn f)->n=(fj (Aj Pn f)).length->Ev (fm T S W U O x5 x6 Z b8 x9 PV PT PZ) (.L5 0 (n:Int) n (decide (2<(n:Int))) cap fo) r) (ia:Int) (na:Nat) (nb:Nat) (ib:Int) (ic:Int) (id:Int) (nc:Nat) (ie:Int) (fz:(Nat->List V)):Ev (fm T S W U O x5 x6 Z b8 x9 PV PT PZ) (.L12 0 (Pn:Int) Pn f 0 (λ_=>[]) ia na nb ib ic id nc ie (Pn:Int) fz) r:=by
 generalize hc:Aj Pn f=c at *
 have RE:c.length=Pn:=by rw[← hc,dQ]
 have e0:E (0+1)=((1:Nat):Int):=by rw[AX K K];rfl
 have at':∀(g:(Nat->List V)),(∀k,k<Pn->pq g k=pq f k)->∀i,i<Pn->jE c i=pq g i:=λg hg i hi=>by rw[hg i hi,← hc];exact ir hi
 have qT:=iE (l:=c) (st:=[]);simp only[EJ]at qT
 have key:=nK (base:=[]) (c:=c) (Rb:=8) (by simp;omega)
  (PO:=λi n fo=>∀(g:(Nat->List V)) (ia:Int) (na:Nat) (nb:Nat) (ib:Int) (ic:Int) (id:Int) (nc:Nat) (ie:Int) (fz:(Nat->List V)),(∀k,k<Pn->pq g k=pq f k)->Ev (fm T S W U O x5 x6 Z b8 x9 PV PT PZ) (.L12 (i:Int) (Pn:Int) Pn g n fo ia na nb ib ic id nc ie (Pn:Int) fz) r)
  (PI:=λi n cap fo=>∀(g:(Nat->List V)) (ia:Int) (na:Nat) (nb:Nat) (ib:Int) (ic:Int) (id:Int) (nc:Nat) (ie:Int) (fz:(Nat->List V)),(∀k,k<Pn->pq g k=pq f k)->Ev (fm T S W U O x5 x6 Z b8 x9 PV PT PZ) (.L14 (i:Int) (Pn:Int) Pn g n (jE c i).1 (jE c i).2 cap fo ia na nb ib ic id nc ie (Pn:Int) fz) r) ?_ ?_ ?_ ?_
 ·exact key c [] [] 0 (λ_=>[]) rfl rfl rfl (Ah _) (λPX hq=>by cases hq) f ia na nb ib ic id nc ie fz (λ_ _=>rfl)
 ·intro i n fo hi hn h g ia na nb ib ic id nc ie fz hg;rw[RE]at hi;have e:=at' g hg i hi;have h':=h;rw[e]at h';exact Ev.of rfl (cO (AG K) (aF (AG K) (aF (AG K) (aH (h' (A Ai g) _ _ _ _ _ _ _ _ _ (λk hk=>hg k hk))))))
 ·intro i n cap fo hi M Q V5 Qo hs h g ia na nb ib ic id nc ie fz hg
  have RP:0+1<n:=by simpa using M
  have w1:=zT (j:=n) K K;have w2:=He (j:=n) K K;have sm:∀k,k<n->mf (pq fo k):=λk hk=>(Qo k hk).elim (λh=>by cases h) (S8 _);have e3:=X1 (sm (n-2) K) (sm (n-1) K) (S8 (jE c i) (Dw hi));have hC:decide (E (0+1)<(n:Int))=true:=AG (by rw[e0];omega);have hS:=HW (fo:=fo) (p:=jE c i) w1 w2 e3;refine Ev.of rfl (iQ (λ_=>⟨AG (by rw[w2];omega),AG (by rw[w2];omega),AG (by rw[w1];omega),AG (by rw[w1];omega)⟩) (λ_ _=>aF (AG (by rw[w1];omega)) (aK ?_)) (λ_ hf=>by rw[hS,AG hs]at hf;cases hf) (λhf=>by rw[hC]at hf;cases hf));rw[w1];exact h (A Ai g) _ _ _ _ _ _ _ _ _ (λk hk=>hg k hk)
 ·intro i n cap fo hi M Qo hs Q V5 h g ia na nb ib ic id nc ie fz hg
  have nx:∀(_:Unit),Ev (fm T S W U O x5 x6 Z b8 x9 PV PT PZ) (.L12 (E ((i:Int)+1)) (Pn:Int) Pn (A Ai g) (n+1) (bc n (A Ai fo) λ_=>Hb (jE c i)) ia na nb ib ic id nc ie (Pn:Int) fz) r:=λ_=>by rw[De (j:=i) K];exact h (A Ai g) _ _ _ _ _ _ _ _ _ (λk hk=>hg k hk)
  by_cases RP:0+1<n
  ·have w1:=zT (j:=n) K K;have w2:=He (j:=n) K K;have sm:∀k,k<n->mf (pq fo k):=λk hk=>(Qo k hk).elim (λh=>by cases h) (S8 _);have e3:=X1 (sm (n-2) K) (sm (n-1) K) (S8 (jE c i) (Dw hi));have hC:decide (E (0+1)<(n:Int))=true:=AG (by rw[e0];omega);have hS:=HW (fo:=fo) (p:=jE c i) w1 w2 e3;have Ra:=hs (by simpa using RP);exact Ev.of rfl (iQ (λ_=>⟨AG (by rw[w2];omega),AG (by rw[w2];omega),AG (by rw[w1];omega),AG (by rw[w1];omega)⟩) (λ_ hf=>by rw[hS,eM K]at hf;cases hf) (λ_ _=>ac (aF (m5 Q K) (aK (nx ())))) (λhf=>by rw[hC]at hf;cases hf))
  ·have hC:decide (E (0+1)<(n:Int))=false:=eM (by rw[e0];omega)
   have hx:∀{P:Prop},decide (E (0+1)<(n:Int))=true->P:=λhh=>by rw[hC]at hh;cases hh
   exact Ev.of rfl (iQ hx hx hx λ_=>ac (aF (m5 Q K) (aK (nx ()))))
 ·intro n fo WW g ia na nb ib ic id nc ie fz hg
  rw[RE];obtain⟨q1,q2,q3,q4⟩:=sB WW (nn (.inr (by intro h;rw[h]at RE;simp at RE;omega)));simp only[EJ,DZ,List.nil_append]at q2 q3;have w1:=zT (j:=n) q1 K;have wN:E ((((Pn:Int)).toNat:Int)-1)=((Pn-1:Nat):Int):=by exact zT K K
  refine Ev.of rfl (cW (eM K) (aF (AG (by rw[w1];omega)) (aH ?_)));rw[w1,wN];have rev:=Dc (Pn:=Pn) (g:=pq f) (P:=λi j N=>∀(T6:(Nat->List V)) (ia:Int) (na:Nat) (nb:Nat) (ib:Int) (ic:Int) (id:Int) (nc:Nat) (ie:Int) (fz:(Nat->List V)),(∀k,pq T6 k=pq fo k)->Ev (fm T S W U O x5 x6 Z b8 x9 PV PT PZ) (.L15 (j:Int) (i:Int) (Pn:Int) Pn N (n-1) n T6 ia na nb ib ic id nc ie (Pn:Int) fz) r) ?_ ?_
  ·exact rev Pn 0 (Pn-1) (A Ai g) K K (λk hk=>by rw[AU K];exact hg k hk) (A Ai fo) _ _ _ _ _ _ _ _ _ (λ_=>rfl)
  ·intro i j N Tu hj h T6 ia na nb ib ic id nc ie fz WQ;have v1:=zT (j:=j) K K;have v2:=De (j:=i) K;refine Ev.of rfl (cO (AG K) (aF (AG K) (aF (AG K) (aF (AG K) (aF (AG K) (aF (AG K) (aF (AG K) (aF (AG K) (aF (AG K) (aK ?_))))))))));rw[v1,v2];exact h (A Ai T6) _ _ _ _ _ _ _ _ _ (λk=>WQ k)
  ·intro i j N Tu nR T6 ia na nb ib ic id nc ie fz WQ
   have hb:Aj (n-1) T6=(bu [] c).tail.reverse:=by rw[afS λk _=>WQ k];exact q2
   have Vh:Aj Pn N=c.reverse:=by rw[← hc];exact avP nR
   have Pj:(bu [] c).tail.reverse.length=n-1:=by rw[Ef,Iy,← q3]
   have hu:fj c=(bu [] c).tail.reverse++(bu [] c.reverse).tail.reverse:=acr K;have Xq:∀ PX∈(bu [] c).tail.reverse,mf PX:=λPX hq=>by
    rcases lz (Km (List.mem_reverse.1 hq)) with h|h
    ·cases h
    ·exact S8 PX h
   have fin:=aye T S W U O x5 x6 Z b8 x9 PV PT PZ h3 h8 (r:=r) (c:=c.reverse) (base:=(bu [] c).tail.reverse) (f:=A Ai N) Vh (λPX hq=>S8 PX (List.mem_reverse.1 hq)) Xq Pj K (λn fo cap k1 k2 k3 k4=>h5 n fo cap k1 k2 (by rw[hu];exact k3) (by rw[hu,Du,k4];congr 1;exact(Ef ..).symm)) (cap:=n) (fo:=A Ai T6) K K hb;exact Ev.of rfl (cW (eM K) (aH (fin _ _ _ _ _ _ _ _ _ _ _ _ _ _ _ _)))
theorem Tf (hm:mf (x5,x6)) (h7:0<=Z) (h8:Z<=1073741824) {QS:List P2} (hL:∀ PX∈QS,mf PX) {m:Nat} {f:(Nat->List V)} (M:1<=m) (hs:K4 m f) (hf:mV m (λPX=>PX∈QS) f) {n cap:Nat} {fo:(Nat->List V)} (k1:n<=cap) (k2:cap<=100) (k3:Aj n fo=fj (Aj m f)) (k4:n=(fj (Aj m f)).length) :
 Ev (fm T S W U O x5 x6 Z b8 x9 PV PT PZ) (.L5 0 (n:Int) n (decide (2<(n:Int))) cap fo) (.bool (JC QS (x5,x6) Z)):=by
 have hmem:∀PX,PX∈QS↔PX∈Aj m f:=λPX=>(hf PX).trans qf.symm;have RY:Aj m f≠[]:=λh=>by have:=dQ m f;rw[h]at this;simp at this;omega
 have:=atP T S W U O x5 x6 Z b8 x9 PV PT PZ hm h7 h8 k1 k2 (by have:=hq2 (fc1 hs) RY;omega) (λk hk=>hL _ ((hmem _).2 (hpk (by rw[← k3];exact qf.2 ⟨k,hk,rfl⟩))));rw[k3,ai3 (fc1 hs) hmem]at this;exact this
theorem apz (hb:b8=false) (RV:Hu T S W U O x5 x6 Z x9 PV PT PZ) {f:(Nat->List V)} (hf:Aj 8 f=FD T S W U O x9 PV PT PZ):Ev (fm T S W U O x5 x6 Z b8 x9 PV PT PZ) (.L0 1 f) (.bool (Ee T S W U O x5 x6 Z b8 x9 PV PT PZ)):=by
 have hF:Ee T S W U O x5 x6 Z b8 x9 PV PT PZ=JC (FD T S W U O x9 PV PT PZ) (x5,x6) Z:=by unfold Ee;rw[hb];rfl
 rw[hF];have hL:=at1 RV;have hm:mf (x5,x6):=⟨RV.2.2.2.2.2.1,RV.2.2.2.2.2.2.1⟩;have h7:=RV.2.2.2.2.2.2.2.1;have sml:∀{m:Nat} {f:(Nat->List V)},mV m (λPX=>PX∈FD T S W U O x9 PV PT PZ) f->∀PX∈Aj m f,mf PX:=λhm PX hq=>hL PX ((hm PX).2 (qf.1 hq));refine ape T S W U O x5 x6 Z b8 x9 PV PT PZ (AI:=λPX=>PX∈FD T S W U O x9 PV PT PZ) hL (λf j g hs Tv=>aoe T S W U O x5 x6 Z b8 x9 PV PT PZ ?_ ?_ ?_ j g hs Tv) (λPX=>by rw[← hf];exact qf)
 ·exact λf j g hs Tv=>ayA T S W U O x5 x6 Z b8 x9 PV PT PZ hs (sml Tv) (λn fo cap k1 k2 k3 k4=>Tf T S W U O x5 x6 Z b8 x9 PV PT PZ hm h7.1 h7.2 hL K hs Tv k1 k2 k3 k4) j g
 ·exact λm f M h3 hs Tv=>Tf T S W U O x5 x6 Z b8 x9 PV PT PZ hm h7.1 h7.2 hL M hs Tv (n:=m) K K (ad1 (by rw[dQ];exact h3)).symm (by rw[ad1 (by rw[dQ];exact h3),dQ])
 ·exact λm f i n1 R i1 i2 i3 n3 i4 g h3 h8 hs Tv=>axP T S W U O x5 x6 Z b8 x9 PV PT PZ h3 K hs (sml Tv) (λn fo cap k1 k2 k3 k4=>Tf T S W U O x5 x6 Z b8 x9 PV PT PZ hm h7.1 h7.2 hL K hs Tv k1 k2 k3 k4) i n1 R i1 i2 i3 n3 i4 g
theorem awC (hp:b8=false->Hu T S W U O x5 x6 Z x9 PV PT PZ):aU (Ev (fm T S W U O x5 x6 Z b8 x9 PV PT PZ)) (m57 T S W U O x5 x6 Z b8 x9 PV PT PZ) (.bool (Ee T S W U O x5 x6 Z b8 x9 PV PT PZ)):=by
 refine AP (λh=>AF ?_) (λh=>?_)
 ·have:Ee T S W U O x5 x6 Z b8 x9 PV PT PZ=false:=by unfold Ee;rw[h];rfl
  rw[this];rfl
 ·have e1:E (0+1)=1:=by rw[AX K K];rfl
  repeat (first|refine ac ?_|refine AM ?_|refine dX ?_|refine gQ ?_)
  refine aH ?_;rw[e1];exact apz T S W U O x5 x6 Z b8 x9 PV PT PZ h (hp h) rfl
def C57:aD:=bP [.agg [tI,tI,tI,tI,tI,tI,tI,tI,.bool],.agg gP] (λ
 |[.agg [.int _ T,.int _ S,.int _ W,.int _ U,.int _ O,.int _ x5,.int _ x6,.int _ Z,.bool b8],.agg [.int _ x9,.int _ PV,.int _ PT,.int _ PZ]]=>b8=false->Hu T S W U O x5 x6 Z x9 PV PT PZ|_=>False) λ
 |[.agg [.int _ T,.int _ S,.int _ W,.int _ U,.int _ O,.int _ x5,.int _ x6,.int _ Z,.bool b8],.agg [.int _ x9,.int _ PV,.int _ PT,.int _ PZ]]=>.bool (Ee T S W U O x5 x6 Z b8 x9 PV PT PZ)|_=>.any
theorem azG:b7 C57 105:=aT hdS λ_ hp=>kt (ap9 ..) (awC _ _ _ _ _ _ _ _ _ _ _ _ _ hp)
end
end Go.Dx
namespace Go.Dx
open Go.Sx
noncomputable section
section
variable {a b c m:P2} {r:Int}
theorem Wn.sw1 (h:Wn m a b c):Wn m b a c:=by
 have e1:cM b a c=-cM a b c:=by unfold cM sd;grind
 have e2:=je a b m;have e3:=je c a m;have e4:=je b c m;obtain⟨M,Q⟩:=h;exact⟨K,K⟩
theorem Wn.sw2 (h:Wn m a b c):Wn m a c b:=by
 have e1:cM a c b=-cM a b c:=by unfold cM sd;grind
 have e2:=je a b m;have e3:=je c a m;have e4:=je b c m;obtain⟨M,Q⟩:=h;exact⟨K,K⟩
theorem anz (hr:0<=r) (h:Dd a b m r=true):Dd b a m r=true:=by unfold Dd at *;rw[yaK hr];exact h
theorem avI (hr:0<=r) (h:Dd a a m r=true) (b:P2):Dd a b m r=true:=by
 refine(qJ hr).2 (ac5 ?_ b);obtain⟨n,k,M,Q,h3,h4⟩:=(qJ hr).1 h;rw[show k*m.1-1*((k-n)*a.1+n*a.1)=k*(m.1-a.1) by grind,show k*m.2-1*((k-n)*a.2+n*a.2)=k*(m.2-a.2) by grind,zk]at h4;refine to h3 ?_;have e:k*1*r*(k*1*r)=k*k*(r*r):=by grind
 omega
theorem fzb4 (hm:mf m) (ha:mf a) (hb:mf b) (hc:mf c):pQ m.1 m.2 a.1 a.2 b.1 b.2 c.1 c.2=true↔Wn m a b c:=by
 have k:∀{a b p:P2},mf a->mf b->mf p->fB (bI b.1 a.1) (bJ b.2 a.2) (bI p.1 a.1) (bJ p.2 a.2)=cM a b p:=λha hb hp=>(arO ha.1 ha.2 hb.1 hb.2 hp.1 hp.2).1;unfold pQ Wn;rw[k ha hb hc,k ha hb hm,k hb hc hm,k hc ha hm];generalize cM a b c=s;generalize cM a b m=x;generalize cM b c m=y;generalize cM c a m=z;have g1:∀n:Int,(0<=fC n)↔0<=n:=λn=>by rcases ae0 n with ⟨h,h0⟩|⟨h,h0⟩|⟨h,h0⟩<;>rw[h]<;>omega
 have g2:∀n:Int,(fC n<=0)↔n<=0:=λn=>by rcases ae0 n with ⟨h,h0⟩|⟨h,h0⟩|⟨h,h0⟩<;>rw[h]<;>omega
 simp only[g1,g2];by_cases h0:s=0
 ·simp[h0]
 ·by_cases S:0<=x<;>by_cases y1:0<=y<;>by_cases z1:0<=z<;>by_cases W:x<=0<;>by_cases y2:y<=0<;>by_cases z2:z<=0<;>simp[h0,S,y1,z1,W,y2,z2]
theorem in0 {v:Nat->P2} {Pn:Nat} {QS:List P2} (Q:2<=Pn) (hL:∀ PX,PX∈QS↔∃ k,k<Pn/\v k=PX) (hr:0<=r) (h:∀ i j,j<i->i<Pn->Dd (v i) (v j) m r=false/\∀ n,n<j->¬ Wn m (v i) (v j) (v n)):¬ El (λPX=>PX∈QS) m r:=by
 have np:∀ i j,i<Pn->j<Pn->i≠j->Dd (v i) (v j) m r=true->False:=λi j hi hj Tu hn=>by
  rcases KY Tu with M|M
  ·have:=anz hr hn;rw[(h j i M hj).1]at this;cases this
  ·rw[(h i j M hi).1]at hn;cases hn
 rintro (⟨p,PX,hp,hq,hn⟩|⟨p,PX,s,hp,hq,hs,hw⟩)
 ·obtain ⟨i,hi,rfl⟩:=(hL _).1 hp
  obtain⟨j,hj,rfl⟩:=(hL _).1 hq;by_cases Tu:i=j
  ·subst Tu
   by_cases h0:i=0
   ·exact np i 1 hi K K (avI hr hn _)
   ·exact np i 0 hi K h0 (avI hr hn _)
  ·exact np i j hi hj Tu hn
 ·obtain⟨i,hi,rfl⟩:=(hL _).1 hp
  obtain⟨j,hj,rfl⟩:=(hL _).1 hq;obtain⟨k,hk,rfl⟩:=(hL _).1 hs;have z1:i≠j:=λe=>hw.1 (by rw[e];exact auj _ _);have z2:j≠k:=λe=>hw.1 (by rw[e];exact HV _ _);have z3:i≠k:=λe=>hw.1 (by rw[e];exact PH _ _);have tr:∀i j k,i<Pn->k<j->j<i->Wn m (v i) (v j) (v k)->False:=λi j k hi M Q hw=>(h i j Q hi).2 k M hw;rcases KY z1 with M|M<;>rcases KY z2 with Q|Q<;>rcases KY z3 with h3|h3
  ·exact tr k j i hk M Q hw.sw1.sw2.sw1
  ·omega
  ·exact tr j k i hj h3 Q hw.sw1.sw2
  ·exact tr j i k hj h3 M hw.sw1
  ·exact tr k i j hk M h3 hw.sw2.sw1
  ·exact tr i k j hi Q h3 hw.sw2
  ·omega
  ·exact tr i j k hi Q M hw
theorem h10 {QS:List P2} (h:El (λPX=>PX∈QS) m r):ym QS m r=true:=@AG _ (Classical.propDecidable _) h
theorem af3 {QS:List P2} (h:¬El (λPX=>PX∈QS) m r):ym QS m r=false:=@eM _ (Classical.propDecidable _) h
end
end
end Go.Dx
namespace Go.Dx
open Go.IntKind (i64 u64 u8)
open Go.Sx Go.Proofs
variable (s0:ByteArray) (S W U O x5 x6 Z Y x9 PV PT PZ Pk Po:Int)
noncomputable section
def AL:bo:=(105,.con C57)::jw
theorem c64:ba Tryz.prog AQ AS AL:=.con azG (hdS)
def LH:l7:=λk=>bif Nat.beq k 0 then 5 else 0
inductive MW where|L0 (_:Int) (_:be)|L1 (_ _:Int) (_:be)|L2 (_ _ _:Int) (_:be)
def PU:MW->bT×List AD×Option Ex
 |.L0 PW Rs=>([(15,D PW),(14,D (E (E (E (E (0+1)+1)+1)+1))),(13,V.gs 0 8),(12,V.pl 1 0),(11,D (Cg U Y)),(10,V.pl 2 0),(8,D (cJ U x9)),(7,D (cG U PV)),(3,V.pl 3 0)],[AD.gl 2 8 (A aM Rs) 163,AD.cells [D PT,D PZ,D Pk,D PZ,D Pk,D Po,D PT,D Po] 164,AD.cells [D (cH U x6),D (cI U Z)] 163,AD.cells [V.str s0,D S,D W,D U,D O,D x5] 52],none)|.L1 Q6 Qd R2=>([(16,D Q6),(15,D Qd),(14,D (E (E (E (E (0+1)+1)+1)+1))),(13,V.gs 0 8),(12,V.pl 1 0),(11,D (Cg U Y)),(10,V.pl 2 0),(8,D (cJ U x9)),(7,D (cG U PV)),(3,V.pl 3 0)],[AD.gl 2 8 (A aM R2) 163,AD.cells [D PT,D PZ,D Pk,D PZ,D Pk,D Po,D PT,D Po] 164,AD.cells [D (cH U x6),D (cI U Z)] 163,AD.cells [V.str s0,D S,D W,D U,D O,D x5] 52],none)|.L2 Q9 R3 RG Se=>([(17,D Q9),(16,D R3),(15,D RG),(14,D (E (E (E (E (0+1)+1)+1)+1))),(13,V.gs 0 8),(12,V.pl 1 0),(11,D (Cg U Y)),(10,V.pl 2 0),(8,D (cJ U x9)),(7,D (cG U PV)),(3,V.pl 3 0)],[AD.gl 2 8 (A aM Se) 163,AD.cells [D PT,D PZ,D Pk,D PZ,D Pk,D Po,D PT,D Po] 164,AD.cells [D (cH U x6),D (cI U Z)] 163,AD.cells [V.str s0,D S,D W,D U,D O,D x5] 52],none)
def axb:MW->JJ
 |.L0 ..=>(0,[])|.L1 ..=>(1,[])|.L2 ..=>(2,[])
def asx:AN (cr JJ):=aQ JJ AL LH azS [V.agg [V.str s0,D S,D W,D U,D O,D x5],V.agg [D x6,D Z,D Y,D x9,D PV],V.agg [D PT,D PZ,D Pk,D Po]]
def Hh (cx:List Cx):Lp JJ:=eX (eC (asx s0 S W U O x5 x6 Z Y x9 PV PT PZ Pk Po) [false,true,true,true,true,false])
def hf2 (cx:List Cx):Lp JJ:=eX (eC (oU AL LH (0,[]) (Hh s0 S W U O x5 x6 Z Y x9 PV PT PZ Pk Po []) (PU s0 S W U O x5 x6 Z Y x9 PV PT PZ Pk Po (.L0 (0:Int) (λ_=>[])))) [true])
def alR (cx:List Cx):Lp JJ:=eX (eC (oU AL LH (1,[]) (hf2 s0 S W U O x5 x6 Z Y x9 PV PT PZ Pk Po []) (PU s0 S W U O x5 x6 Z Y x9 PV PT PZ Pk Po (.L1 (0:Int) (0:Int) (λ_=>[])))) [true,false])
def azn:JJ->Lp JJ
 |(0,cx)=>Hh s0 S W U O x5 x6 Z Y x9 PV PT PZ Pk Po cx|(1,cx)=>hf2 s0 S W U O x5 x6 Z Y x9 PV PT PZ Pk Po cx|(2,cx)=>alR s0 S W U O x5 x6 Z Y x9 PV PT PZ Pk Po cx|(_,cx)=>Hh s0 S W U O x5 x6 Z Y x9 PV PT PZ Pk Po cx
def D60:LD JJ MW:=⟨axb,azn s0 S W U O x5 x6 Z Y x9 PV PT PZ Pk Po,PU s0 S W U O x5 x6 Z Y x9 PV PT PZ Pk Po⟩
def MC (s0:ByteArray) (S W U O x5 x6 Z Y x9 PV PT PZ Pk Po:Int):MW->RT MW
 |.L0 PW Rs=>.br (decide (PW<(↑8:Int))) (.enter (iR 0 4 []) (MW.L1 0 PW (A aM Rs)) [⟨0,aM,8,A aM Rs,aL rfl _ _⟩]) (.ret (V.kb false))|.L1 Q6 Qd R2=>.br (decide (Q6<Qd)) (.ob (decide (0<=Qd/\Qd<(↑8:Int)/\8<=8)) (.ob (decide (Qd.toNat<8)) (.ob (decide (0<=Q6/\Q6<(↑8:Int)/\8<=8)) (.ob (decide (Q6.toNat<8)) (.cb (.br (lF (cH U x6) (cI U Z) (aA (R2 Qd.toNat)) (aR (R2 Qd.toNat)) (aA (R2 Q6.toNat)) (aR (R2 Q6.toNat)) (Cg U Y)) (.ret (V.kb true)) (.enter (iR 0 4 []) (MW.L2 0 Q6 Qd (A aM R2)) [⟨0,aM,8,A aM R2,aL rfl _ _⟩]))))))) (.next (iR 0 4 []) (MW.L0 (E (Qd+1)) (A aM R2)) [⟨0,aM,8,A aM R2,aL rfl _ _⟩])|.L2 Q9 R3 RG Se=>.br (decide (Q9<R3)) (.ob (decide (0<=RG/\RG<(↑8:Int)/\8<=8)) (.ob (decide (RG.toNat<8)) (.ob (decide (0<=R3/\R3<(↑8:Int)/\8<=8)) (.ob (decide (R3.toNat<8)) (.ob (decide (0<=Q9/\Q9<(↑8:Int)/\8<=8)) (.ob (decide (Q9.toNat<8)) (.cb (.br (pQ (cH U x6) (cI U Z) (aA (Se RG.toNat)) (aR (Se RG.toNat)) (aA (Se R3.toNat)) (aR (Se R3.toNat)) (aA (Se Q9.toNat)) (aR (Se Q9.toNat))) (.ret (V.kb true)) (.next (iR 0 4 []) (MW.L2 (E (Q9+1)) R3 RG (A aM Se)) [⟨0,aM,8,A aM Se,aL rfl _ _⟩]))))))))) (.next (iR 0 4 []) (MW.L1 (E (R3+1)) RG (A aM Se)) [⟨0,aM,8,A aM Se,aL rfl _ _⟩])
def m60:RT MW:=dm (s0,O,x5,x6,Z,Y) (.cb (.br (!fN U x9) (.ret (V.kb false)) (.cb (.cb (.brt (.obt (.cb (.obt (.cb (.obt (.obt (.brt (.obt (.cb (.obt (.cb (.obt (.obt (.brt (.obt (.cb (.obt (.cb (.obt (.obt (.brt (.obt (.cb (.obt (.cb (.obt (.obt (.brf (.enter [some (some 12),some (some 4),some (some 3),some (some 0)] (MW.L0 0 (bc 6 (bc 4 (bc 2 (λi=>List.take 2 (List.drop (i*2) [D (eE S U PT (cG U PV)),D (ep W U PZ (cG U PV)),D (eE S U PT (cJ U x9)),D (ep W U PZ (cJ U x9))])) λi=>List.take 2 (List.drop (i*2) [D (eE S U Pk (cG U PV)),D (ep W U PZ (cG U PV)),D (eE S U Pk (cJ U x9)),D (ep W U PZ (cJ U x9))])) λi=>List.take 2 (List.drop (i*2) [D (eE S U Pk (cG U PV)),D (ep W U Po (cG U PV)),D (eE S U Pk (cJ U x9)),D (ep W U Po (cJ U x9))])) λi=>List.take 2 (List.drop (i*2) [D (eE S U PT (cG U PV)),D (ep W U Po (cG U PV)),D (eE S U PT (cJ U x9)),D (ep W U Po (cJ U x9))]))) [⟨0,aM,8,bc 6 (bc 4 (bc 2 (λi=>List.take 2 (List.drop (i*2) [D (eE S U PT (cG U PV)),D (ep W U PZ (cG U PV)),D (eE S U PT (cJ U x9)),D (ep W U PZ (cJ U x9))])) λi=>List.take 2 (List.drop (i*2) [D (eE S U Pk (cG U PV)),D (ep W U PZ (cG U PV)),D (eE S U Pk (cJ U x9)),D (ep W U PZ (cJ U x9))])) λi=>List.take 2 (List.drop (i*2) [D (eE S U Pk (cG U PV)),D (ep W U Po (cG U PV)),D (eE S U Pk (cJ U x9)),D (ep W U Po (cJ U x9))])) λi=>List.take 2 (List.drop (i*2) [D (eE S U PT (cG U PV)),D (ep W U Po (cG U PV)),D (eE S U PT (cJ U x9)),D (ep W U Po (cJ U x9))]),CI rfl rfl⟩]))))))))))))))))))))))))))))))))))
theorem ars:d0 AL LH (D60 s0 S W U O x5 x6 Z Y x9 PV PT PZ Pk Po) (asx s0 S W U O x5 x6 Z Y x9 PV PT PZ Pk Po) (m60 s0 S W U O x5 x6 Z Y x9 PV PT PZ Pk Po) (MC s0 S W U O x5 x6 Z Y x9 PV PT PZ Pk Po):=⟨bF,λs=>by cases s<;>exact bF⟩
attribute [local irreducible] lF pQ
def Kx:Bool:=fN U x9&&ym (FD S W U (cG U PV) (cJ U x9) PT PZ Pk Po) (cH U x6,cI U Z) (Cg U Y)
theorem auF (h7:0<=(Cg U Y)) (h8:(Cg U Y)<=1073741824) (hm:mf (cH U x6,cI U Z)) {QS:List P2} (hL:∀ PX∈QS,mf PX) {f:be} (hf:Aj 8 f=QS):Ev (MC s0 S W U O x5 x6 Z Y x9 PV PT PZ Pk Po) (.L0 0 f) (.bool (ym QS (cH U x6,cI U Z) (Cg U Y))):=by
 have hv:∀PX,PX∈QS↔∃k,k<8/\pq f k=PX:=λPX=>by rw[← hf];exact qf
 have sv:∀ k,k<8->mf (pq f k):=λk hk=>hL _ ((hv _).2 ⟨k,hk,rfl⟩);have nzb8:∀ i j,i<8->j<8->lF (cH U x6) (cI U Z) (pq f i).1 (pq f i).2 (pq f j).1 (pq f j).2 (Cg U Y)=Dd (pq f i) (pq f j) (cH U x6,cI U Z) (Cg U Y):=λi j hi hj=>
  f15 (sv i hi).1 (sv i hi).2 (sv j hj).1 (sv j hj).2 hm.1 hm.2 h7 h8
 have resV:∀ i j n,i<8->j<8->n<8->(pQ (cH U x6) (cI U Z) (pq f i).1 (pq f i).2 (pq f j).1 (pq f j).2 (pq f n).1 (pq f n).2=true↔Wn (cH U x6,cI U Z) (pq f i) (pq f j) (pq f n)):=λi j n hi hj hn=>fzb4 (m:=(cH U x6,cI U Z)) hm (sv i hi) (sv j hj) (sv n hn);have k0:∀ i,i<=8->∀ g:be,(∀ k,pq g k=pq f k)->(∀ i' j',j'<i'->i'<i->Dd (pq f i') (pq f j') (cH U x6,cI U Z) (Cg U Y)=false/\∀ n,n<j'->¬ Wn (cH U x6,cI U Z) (pq f i') (pq f j') (pq f n))->Ev (MC s0 S W U O x5 x6 Z Y x9 PV PT PZ Pk Po) (.L0 (i:Int) g) (.bool (ym QS (cH U x6,cI U Z) (Cg U Y))):=by
  refine dv λi hi Ux g hg h0=>?_;by_cases Y0:i<8
  ·refine Ev.of rfl (cO (AG K) (aH ?_))
   have k1:∀ j,j<=i->∀ g:be,(∀ k,pq g k=pq f k)->(∀ j',j'<j->Dd (pq f i) (pq f j') (cH U x6,cI U Z) (Cg U Y)=false/\∀ n,n<j'->¬ Wn (cH U x6,cI U Z) (pq f i) (pq f j') (pq f n))->Ev (MC s0 S W U O x5 x6 Z Y x9 PV PT PZ Pk Po) (.L1 (j:Int) (i:Int) g) (.bool (ym QS (cH U x6,cI U Z) (Cg U Y))):=by
    refine dv λj hj nz17 g hg M=>?_;by_cases Rl:j<i
    ·have e1:=nzb8 i j Y0 K
     rw[← hg,← hg j]at e1;refine Ev.of rfl (cO (AG K) (aF (AG K) (aF (AG K) (aF (AG K) (aF (AG K) (AM (ac (AP (λhh=>AF ?_) (λhh=>aH ?_)))))))))
     ·have Xy:=e1.symm.trans hh;rw[hg,hg]at Xy;rw[h10 (.inl ⟨_,_,(hv _).2 ⟨i,Y0,rfl⟩,(hv _).2 ⟨j,K,rfl⟩,Xy⟩)];rfl
     ·have Xy:=e1.symm.trans hh
      rw[hg,hg]at Xy;have k2:∀ n,n<=j->∀ g:be,(∀ k,pq g k=pq f k)->(∀ n',n'<n->¬ Wn (cH U x6,cI U Z) (pq f i) (pq f j) (pq f n'))->Ev (MC s0 S W U O x5 x6 Z Y x9 PV PT PZ Pk Po) (.L2 (n:Int) (j:Int) (i:Int) g) (.bool (ym QS (cH U x6,cI U Z) (Cg U Y))):=by
       refine dv λn hn nz18 g hg hw=>?_;by_cases iz24:n<j
       ·have e2:=resV i j n Y0 K K
        rw[← hg,← hg j,← hg n]at e2;refine Ev.of rfl (cO (AG K) (aF (AG K) (aF (AG K) (aF (AG K) (aF (AG K) (aF (AG K) (aF (AG K) (AM (ac (AP (λhh=>AF ?_) (λhh=>aK ?_)))))))))))
        ·have TY:=e2.1 hh;rw[hg,hg,hg]at TY;rw[h10 (.inr ⟨_,_,_,(hv _).2 ⟨i,Y0,rfl⟩,(hv _).2 ⟨j,K,rfl⟩,(hv _).2 ⟨n,K,rfl⟩,TY⟩)];rfl
        ·rw [De K]
         refine nz18 iz24 _ (λk=>hg k) λn' V9=>?_;by_cases en:n'=n
         ·intro TY;rw[en]at TY;rw[← hg i,← hg j,← hg n]at TY;have:=e2.2 TY;have ip15:pQ (cH U x6) (cI U Z) (pq g i).1 (pq g i).2 (pq g j).1 (pq g j).2 (pq g n).1 (pq g n).2=false:=hh;rw[ip15]at this;cases this
         ·exact hw n' K
       ·have en:n=j:=by omega
        subst en;refine Ev.of rfl (cW (eM K) (aK ?_));rw[De K];refine nz17 Rl _ (λk=>hg k) λj' SJ=>?_;by_cases ej:j'=n
        ·rw[ej];exact⟨Xy,λn' V9=>hw n' V9⟩
        ·exact M j' K
      exact k2 0 (Bc _) _ (λk=>hg k) (λn' V9=>by omega)
    ·have ej:j=i:=by omega
     subst ej;refine Ev.of rfl (cW (eM K) (aK ?_));rw[De K];refine Ux Y0 _ (λk=>hg k) λi' j' SJ RI=>?_;by_cases ei:i'=j
     ·rw[ei]at SJ ⊢;exact M j' SJ
     ·exact h0 i' j' SJ K
   exact k1 0 (Bc _) _ (λk=>hg k) (λj' SJ=>by omega)
  ·have ei:i=8:=by omega
   subst ei;refine Ev.of rfl (cW (eM K) (AF ?_));rw[af3 (in0 (v:=pq f) (Pn:=8) K hv h7 h0)];rfl
 exact k0 0 (Bc _) f (λ_=>rfl) (λi' j' _ h=>by omega)
theorem axr (hp:fN U x9=true->Hu S W U (cG U PV) (cJ U x9) (cH U x6) (cI U Z) (Cg U Y) PT PZ Pk Po):aU (Ev (MC s0 S W U O x5 x6 Z Y x9 PV PT PZ Pk Po)) (m60 s0 S W U O x5 x6 Z Y x9 PV PT PZ Pk Po) (.bool (Kx S W U x6 Z Y x9 PV PT PZ Pk Po)):=by
 refine AM (ac (AP (λh=>AF ?_) (λh=>?_)))
 ·have:Kx S W U x6 Z Y x9 PV PT PZ Pk Po=false:=by unfold Kx;rw[Mq h];rfl
  rw[this];rfl
 ·have RV:=hp (wc h)
  have:Kx S W U x6 Z Y x9 PV PT PZ Pk Po=ym (FD S W U (cG U PV) (cJ U x9) PT PZ Pk Po) (cH U x6,cI U Z) (Cg U Y):=by unfold Kx;rw[wc h];rfl
  rw[this]
  repeat (first|refine ac ?_|refine AM ?_|refine dX ?_|refine gQ ?_)
  refine aH ?_;exact auF s0 S W U O x5 x6 Z Y x9 PV PT PZ Pk Po RV.2.2.2.2.2.2.2.1.1 RV.2.2.2.2.2.2.2.1.2 ⟨RV.2.2.2.2.2.1,RV.2.2.2.2.2.2.1⟩ (at1 RV) rfl
def C60:aD:=bP [.agg aV,.agg bj,.agg gP] (λ
 |[.agg [.str s0,.int _ S,.int _ W,.int _ U,.int _ O,.int _ x5],.agg [.int _ x6,.int _ Z,.int _ Y,.int _ x9,.int _ PV],.agg [.int _ PT,.int _ PZ,.int _ Pk,.int _ Po]]=>fN U x9=true->Hu S W U (cG U PV) (cJ U x9) (cH U x6) (cI U Z) (Cg U Y) PT PZ Pk Po|_=>False) λ
 |[.agg [.str s0,.int _ S,.int _ W,.int _ U,.int _ O,.int _ x5],.agg [.int _ x6,.int _ Z,.int _ Y,.int _ x9,.int _ PV],.agg [.int _ PT,.int _ PZ,.int _ Pk,.int _ Po]]=>.bool (Kx S W U x6 Z Y x9 PV PT PZ Pk Po)|_=>.any
theorem aw4:b7 C60 121:=aT c64 λ_ hp=>kt (ars ..) (axr _ _ _ _ _ _ _ _ _ _ _ _ _ _ _ hp)
end
end Go.Dx
namespace Go.Dx
open Go.Sx
noncomputable section
theorem ie9 {x y a z w:Int} (h:xt x y a z w=0):(-100000<=x/\x<=100000)/\(-100000<=y/\y<=100000)/\(1<=a/\a<=20000)/\0<=z/\z<w/\w<=1000:=by
 unfold xt at h;cases hp:nY x y with
 |false=>rw[hp]at h;cases h
 |true=>
   rw[hp]at h;simp only[Fs,Ff,cond_true]at h;cases hf:dC a 1 20000 with
   |false=>rw[hf]at h;cases h
   |true=>
     rw[hf]at h;have ha:=mI hf;have hq:=Rc hp;by_cases M:z<0
     ·simp[M]at h
     ·by_cases Q:w<=z
      ·simp[M,Q]at h
      ·by_cases h3:1000<w
       ·simp[M,Q,h3]at h
       ·exact⟨hq.1,hq.2,ha,K,K,K⟩
theorem ajH {x y h dx dy:Int} (hc:MD x y h dx dy=0):(-100000<=x/\x<=100000)/\(-100000<=y/\y<=100000)/\(1<=h/\h<=200):=by
 have Rw:(bif bif bif bif !nY x y then true else !dC h 1 200 then true else !dC dx (-1000) 1000 then true else !dC dy (-1000) 1000 then 7 else bif bif dx==0 then dy==0 else false then 2 else(0:Int))=0:=hc;cases hp:nY x y with
 |false=>rw[hp]at Rw;cases Rw
 |true=>
   rw[hp]at Rw;cases hf:dC h 1 200 with
   |false=>rw[hf]at Rw;cases Rw|true=>exact⟨(Rc hp).1,(Rc hp).2,mI hf⟩
theorem ajv {n6:Nat} {f6:be} {i:Nat} (h:cC n6 f6 i=0):MD (aR (f6 i)) (bX (f6 i)) (bf (f6 i)) (cq (f6 i)) (bG (f6 i))=0:=by
 have h':R8 n6 (A aV f6) (i:Int)=0:=h;unfold R8 at h';simp only[Bt]at h';cases hn:nQ (sv (av (A aV f6 i))) with
 |false=>rw[hn]at h';cases h'
 |true=>
   rw[hn,Fs,cond_false]at h';cases hd:gW i (λk=>(sv (av (A aV f6 k))).toList==(sv (av (A aV f6 i))).toList) with
   |true=>rw[hd]at h';cases h'|false=>rw[hd,cond_false]at h';exact h'
section
variable {X QE h tx ty QW lo hi x9 PV PT PZ px py:Int}
structure TC (X QE h tx ty QW lo hi:Int):Prop where
 X':-100000<=X/\X<=100000
 Y':-100000<=QE/\QE<=100000
 h':1<=h/\h<=200
 tx':-100000<=tx/\tx<=100000
 ty':-100000<=ty/\ty<=100000
 R':1<=QW/\QW<=20000
 lo':0<=lo/\lo<hi/\hi<=1000
theorem TC.vals (t:TC X QE h tx ty QW lo hi):nU h hi=max 0 (h-hi)/\cG h hi=max 0 (h-hi)/\nC h lo=h-lo/\cJ h lo=h-lo/\nN h tx=h*tx/\cH h tx=h*tx/\nm h ty=h*ty/\cI h ty=h*ty/\nf h QW=h*QW/\Cg h QW=h*QW/\sm (h*tx)/\sm (h*ty)/\0<=h*QW/\h*QW<=1073741824:=by obtain⟨_,_,hh,M,Q,h3,h4⟩:=t;have k1:=mX (x:=h) (y:=tx) (QG:=200) (B:=100000) K K K K;have k2:=mX (x:=h) (y:=ty) (QG:=200) (B:=100000) K K K K;have k3:=mX (x:=h) (y:=QW) (QG:=200) (B:=20000) K K K K;have k4:=mP (show 0<=h by omega) (show 0<=QW by omega);unfold nU cG nC cJ nN nm nf xN zh cH cI Cg;rw[Int.mul_comm QW h,AX (x:=h-hi) K K,AX (x:=h-min hi h) K K,AX (x:=h-lo) K K,AX (x:=h*tx) K K,AX (x:=h*ty) K K,AX (x:=h*QW) K K];unfold sm;refine⟨rfl,K,rfl,rfl,rfl,rfl,rfl,rfl,rfl,rfl,K,K,k4,K⟩
theorem TC.lo5 (lo hi h:Int):fN h lo=!lr h lo:=by
 unfold fN lr;by_cases k:lo<=h
 ·rw[AG k,eM K];rfl
 ·rw[eM k,AG K];rfl
section
variable (t:TC X QE h tx ty QW lo hi)
include t
theorem TC.in57 (hb:lr h lo=false) (h9:-100000<=x9/\x9<=100000) (W0:-100000<=PV/\PV<=100000) (W2:-100000<=PT/\PT<=100000) (V4:-100000<=PZ/\PZ<=100000):Hu X QE h (nU h hi) (nC h lo) (nN h tx) (nm h ty) (nf h QW) x9 PV PT PZ:=by obtain⟨e1,_,e2,_,e3,_,e4,_,e5,_,s1,s2,s3,s4⟩:=t.vals;have:=t.h';have:=t.lo';unfold lr at hb;have hb:=D2 hb;rw[e1,e2,e3,e4,e5];exact⟨t.X',t.Y',K,K,K,s1,s2,⟨s3,s4⟩,h9,W0,W2,V4⟩
theorem TC.refIn (hb:fN h lo=true) (h9:-100000<=x9/\x9<=100000) (W0:-100000<=PV/\PV<=100000) (W2:-100000<=PT/\PT<=100000) (V4:-100000<=PZ/\PZ<=100000):Hu X QE h (cG h hi) (cJ h lo) (cH h tx) (cI h ty) (Cg h QW) x9 PV PT PZ:=by obtain⟨e1,e1',e2,e2',e3,e3',e4,e4',e5,e5',_⟩:=t.vals;have:=t.in57 (x9:=x9) (PV:=PV) (PT:=PT) (PZ:=PZ) (by rw[TC.lo5 lo hi h]at hb;exact Mq hb) h9 W0 W2 V4;rwa [e1,← e1',e2,← e2',e3,← e3',e4,← e4',e5,← e5']at this
theorem TC.touch:Ee X QE h (nU h hi) (nC h lo) (nN h tx) (nm h ty) (nf h QW) (lr h lo) x9 PV PT PZ=Kx X QE h tx ty QW lo hi x9 PV PT PZ:=by obtain⟨e1,e1',e2,e2',e3,e3',e4,e4',e5,e5',s1,s2,s3,s4⟩:=t.vals;unfold Ee Kx;rw[TC.lo5 lo hi h,e1,e1',e2,e2',e3,e3',e4,e4',e5,e5',id7 (by simp[FD]) s3]
theorem TC.hasE (hx:-100000<=px/\px<=100000) (hy:-100000<=py/\py<=100000):y4 X QE h (nU h hi) (nC h lo) (nN h tx) (nm h ty) (nf h QW) (lr h lo) px py=fh X QE h tx ty QW lo hi px py:=by
 obtain⟨e1,e1',e2,e2',e3,e3',e4,e4',e5,e5',s1,s2,s3,s4⟩:=t.vals;have:=t.h';have:=t.lo';unfold y4 fh;rw[TC.lo5 lo hi h];cases hb:lr h lo with
 |true=>rfl
 |false=>rw[Ff,cond_true,cond_true,e1,e1',e2,e2',e3,e3',e4,e4',e5,e5'];unfold lr at hb;have hb:=D2 hb;have p0:=Iq t.X' (h:=h) (n:=max 0 (h-hi)) K K hx;have p1:=Iq t.Y' (h:=h) (n:=max 0 (h-hi)) K K hy;have q0:=Iq t.X' (h:=h) (n:=h-lo) K K hx;have q1:=Iq t.Y' (h:=h) (n:=h-lo) K K hy;rw[show eE X h px (max 0 (h-hi))=ck X h px (max 0 (h-hi)) from rfl,show ep QE h py (max 0 (h-hi))=cm QE h py (max 0 (h-hi)) from rfl,show eE X h px (h-lo)=ck X h px (h-lo) from rfl,show ep QE h py (h-lo)=cm QE h py (h-lo) from rfl];rw[p0.1,p1.2.1,q0.1,q1.2.1];rw[c62 p0.2.2 p1.2.2 q0.2.2 q1.2.2 s1 s2 s3 s4,f15 p0.2.2 p1.2.2 q0.2.2 q1.2.2 s1 s2 s3 s4]
end
end
def kp (d t:Nat->Bool):Nat->Int
 |0=>0|k+1=>bif d k then 2 else bif t k then max (kp d t k) 1 else kp d t k
def jC (d t:Nat->Bool) (n:Nat):Int:=bif gW n d then 2 else bif gW n t then 1 else 0
theorem ig (n:Nat) (p:Nat->Bool):gW (n+1) p=(gW n p||p n):=by
 cases h:gW (n+1) p with
 |true=>
   obtain⟨i,hi,hp⟩:=B1.1 h;by_cases e:i=n
   ·rw[← e,hp];simp
   ·rw[cZ i K hp];rfl
 |false=>
   have M:gW n p=false:=by
    cases Q:gW n p with
    |false=>rfl|true=>obtain⟨i,hi,hp⟩:=B1.1 Q;rw[cZ i K hp]at h;cases h
   have Q:p n=false:=by
    cases Q:p n with
    |false=>rfl|true=>rw[cZ n K Q]at h;cases h
   rw[M,Q];rfl
theorem hlj (d t:Nat->Bool):∀ n,kp d t n=jC d t n
 |0=>rfl
 |n+1=>by
   have ih:=hlj d t n;unfold jC at *
   simp only[kp];rw[ig,ig,ih];cases gW n d<;>cases gW n t<;>cases d n<;>cases t n<;>rfl
end
end Go.Dx
namespace Go.Dx
open Go.IntKind (i64 u64 u8)
open Go.Sx Go.Proofs
variable (H:Nat) (G:be) (R:Nat) (N:be) (n4:Nat) (f4:be) (n6:Nat) (f6:be) (Y x9 PV PT PZ:Int)
noncomputable section
def EB:bo:=(121,.con C60)::AL
theorem fn5:ba Tryz.prog AQ AS EB:=.con aw4 (c64)
attribute [local irreducible] M1 jv sW
def u18:l7:=λk=>bif Nat.beq k 2 then 5 else 0
theorem Ju {H:Nat} {G:be} {R:Nat} {N:be} {n4:Nat} {f4:be} {n6:Nat} {f6:be} {Y:Int} (h:Di (gR H (A aZ G) R (A bj N) n4 (A bm f4) n6 (A aV f6)) Y n6=0):(0<=Y/\Y<(n6:Int))/\∀i,i<R->TC (aR (f6 Y.toNat)) (bX (f6 Y.toNat)) (bf (f6 Y.toNat)) (aA (N i)) (aR (N i)) (bX (N i)) (bf (N i)) (cq (N i)):=by obtain⟨M,Q,h3⟩:=hwl h;have hv:=Fx M;refine⟨⟨Q,h3⟩,λi hi=>?_⟩;have hc:=ajH (ajv (f6:=A aV f6) (hv.cl Y.toNat K));have ht:=ie9 (hv.tr i hi);exact⟨hc.1,hc.2.1,hc.2.2,ht.1,ht.2.1,ht.2.2.1,ht.2.2.2⟩
inductive UL where|L0 (_ _:Int)
def ao4:UL->bT×List AD×Option Ex
 |.L0 PW QO=>([(31,D PW),(30,D (R:Int)),(29,V.sl R (A bj N)),(9,D QO),(5,V.pl 0 0),(3,V.pl 1 0),(1,D Y)],[AD.cells [D x9,D PV,D PT,D PZ] 37,AD.cells [V.sl H (A aZ G),V.sl R (A bj N),V.sl n4 (A bm f4),V.sl n6 (A aV f6)] 31],none)
def ayg:UL->JJ
 |.L0 ..=>(0,[])
def au2:AN (cr JJ):=aQ JJ EB u0 UO [Cq H G R N n4 f4 n6 f6,D Y,V.agg [D x9,D PV,D PT,D PZ]]
def hd1 (cx:List Cx):Lp JJ:=eX (eC (au2 H G R N n4 f4 n6 f6 Y x9 PV PT PZ) It)
def axX:JJ->Lp JJ
 |(0,cx)=>hd1 H G R N n4 f4 n6 f6 Y x9 PV PT PZ cx|(_,cx)=>hd1 H G R N n4 f4 n6 f6 Y x9 PV PT PZ cx
def D17:LD JJ UL:=⟨ayg,axX H G R N n4 f4 n6 f6 Y x9 PV PT PZ,ao4 H G R N n4 f4 n6 f6 Y x9 PV PT PZ⟩
def Vo (H:Nat) (G:be) (R:Nat) (N:be) (n4:Nat) (f4:be) (n6:Nat) (f6:be) (Y x9 PV PT PZ:Int):UL->RT UL
 |.L0 PW QO=>.br (decide (PW<(R:Int))) (.ob (decide (0<=PW/\PW<(R:Int))) (.ob (decide (0<=Y/\Y<(n6:Int))) (.cb (.cb (.cb (.br (!KI 4 (A aM (b9 [D x9,D PV,D PT,D PV,D PT,D PZ,D x9,D PZ] 0 2)) (aR (f6 Y.toNat)) (bX (f6 Y.toNat)) (bf (f6 Y.toNat)) (nU (bf (f6 Y.toNat)) (cq (N PW.toNat))) (nC (bf (f6 Y.toNat)) (bf (N PW.toNat))) (nN (bf (f6 Y.toNat)) (aA (N PW.toNat))) (nm (bf (f6 Y.toNat)) (aR (N PW.toNat))) (nf (bf (f6 Y.toNat)) (bX (N PW.toNat))) (lr (bf (f6 Y.toNat)) (bf (N PW.toNat)))) (.next D8 (UL.L0 (E (PW+1)) 2) []) (.obp (lr (bf (f6 Y.toNat)) (bf (N PW.toNat))=false->((-100000:Int)<=aR (f6 Y.toNat)/\aR (f6 Y.toNat)<=(100000:Int))/\((-100000:Int)<=bX (f6 Y.toNat)/\bX (f6 Y.toNat)<=(100000:Int))/\((0:Int)<=bf (f6 Y.toNat)/\bf (f6 Y.toNat)<=(200:Int))/\((0:Int)<=nU (bf (f6 Y.toNat)) (cq (N PW.toNat))/\nU (bf (f6 Y.toNat)) (cq (N PW.toNat))<=(200:Int))/\((0:Int)<=nC (bf (f6 Y.toNat)) (bf (N PW.toNat))/\nC (bf (f6 Y.toNat)) (bf (N PW.toNat))<=(200:Int))/\((-536870912:Int)<=nN (bf (f6 Y.toNat)) (aA (N PW.toNat))/\nN (bf (f6 Y.toNat)) (aA (N PW.toNat))<=(536870912:Int))/\((-536870912:Int)<=nm (bf (f6 Y.toNat)) (aR (N PW.toNat))/\nm (bf (f6 Y.toNat)) (aR (N PW.toNat))<=(536870912:Int))/\((0:Int)<=nf (bf (f6 Y.toNat)) (bX (N PW.toNat))/\nf (bf (f6 Y.toNat)) (bX (N PW.toNat))<=(1073741824:Int))/\((-100000:Int)<=x9/\x9<=(100000:Int))/\((-100000:Int)<=PV/\PV<=(100000:Int))/\((-100000:Int)<=PT/\PT<=(100000:Int))/\(-100000:Int)<=PZ/\PZ<=(100000:Int)) (.obt (.br (Ee (aR (f6 Y.toNat)) (bX (f6 Y.toNat)) (bf (f6 Y.toNat)) (nU (bf (f6 Y.toNat)) (cq (N PW.toNat))) (nC (bf (f6 Y.toNat)) (bf (N PW.toNat))) (nN (bf (f6 Y.toNat)) (aA (N PW.toNat))) (nm (bf (f6 Y.toNat)) (aR (N PW.toNat))) (nf (bf (f6 Y.toNat)) (bX (N PW.toNat))) (lr (bf (f6 Y.toNat)) (bf (N PW.toNat))) x9 PV PT PZ) (.next D8 (UL.L0 (E (PW+1)) (max QO 1)) []) (.next D8 (UL.L0 (E (PW+1)) QO) [])))))))))) (.ret (V.tup [D QO,D 0]))
def OV:RT UL:=.am n6 (.obp (((aC H G)/\aC n6 f6)/\(0:Nat)=(0:Nat)/\(2:Nat)<=(100:Nat)) (.obt (.br (M1 H (A aZ G) R (A bj N) n4 (A bm f4) n6 (A aV f6) 2 (A L (b9 [D Y,D (n6:Int)] 0 1))!=0) (.ret (V.tup [D 0,D (M1 H (A aZ G) R (A bj N) n4 (A bm f4) n6 (A aV f6) 2 (A L (b9 [D Y,D (n6:Int)] 0 1)))])) (.cb (.br (yQ x9 PV PT PZ) (.ret (V.tup [D 0,D 7])) (.am R (.enter Il (UL.L0 0 0) [])))))))
theorem aqS:d0 EB u0 (D17 H G R N n4 f4 n6 f6 Y x9 PV PT PZ) (au2 H G R N n4 f4 n6 f6 Y x9 PV PT PZ) (OV H G R N n4 f4 n6 f6 Y x9 PV PT PZ) (Vo H G R N n4 f4 n6 f6 Y x9 PV PT PZ):=⟨bF,λs=>by cases s<;>exact bF⟩
def Gi (ii:Nat):Bool:=dm (H,G,R,n4,f4,n6) (!KI 4 (A aM (b9 [D x9,D PV,D PT,D PV,D PT,D PZ,D x9,D PZ] 0 2)) (aR (f6 Y.toNat)) (bX (f6 Y.toNat)) (bf (f6 Y.toNat)) (nU (bf (f6 Y.toNat)) (cq (N ii))) (nC (bf (f6 Y.toNat)) (bf (N ii))) (nN (bf (f6 Y.toNat)) (aA (N ii))) (nm (bf (f6 Y.toNat)) (aR (N ii))) (nf (bf (f6 Y.toNat)) (bX (N ii))) (lr (bf (f6 Y.toNat)) (bf (N ii))))
def LB (ii:Nat):Bool:=dm (H,G,R,n4,f4,n6) (Ee (aR (f6 Y.toNat)) (bX (f6 Y.toNat)) (bf (f6 Y.toNat)) (nU (bf (f6 Y.toNat)) (cq (N ii))) (nC (bf (f6 Y.toNat)) (bf (N ii))) (nN (bf (f6 Y.toNat)) (aA (N ii))) (nm (bf (f6 Y.toNat)) (aR (N ii))) (nf (bf (f6 Y.toNat)) (bX (N ii))) (lr (bf (f6 Y.toNat)) (bf (N ii))) x9 PV PT PZ)
def pZ:Int:=bif M1 H (A aZ G) R (A bj N) n4 (A bm f4) n6 (A aV f6) 2 (A L (b9 [D Y,D (n6:Int)] 0 1))!=0 then 0 else bif yQ x9 PV PT PZ then 0 else kp (Gi H G R N n4 f4 n6 f6 Y x9 PV PT PZ) (LB H G R N n4 f4 n6 f6 Y x9 PV PT PZ) R
def sT:Int:=bif M1 H (A aZ G) R (A bj N) n4 (A bm f4) n6 (A aV f6) 2 (A L (b9 [D Y,D (n6:Int)] 0 1))!=0 then M1 H (A aZ G) R (A bj N) n4 (A bm f4) n6 (A aV f6) 2 (A L (b9 [D Y,D (n6:Int)] 0 1)) else bif yQ x9 PV PT PZ then 7 else 0
theorem c17 (H:Nat) (G:be) (R:Nat) (N:be) (n4:Nat) (f4:be) (n6:Nat) (f6:be) (Y x9 PV PT PZ:Int) (hx:0<=Y/\Y<(n6:Int)) (hn:R<=9223372036854775807) (RV:∀ i,i<R->TC (aR (f6 Y.toNat)) (bX (f6 Y.toNat)) (bf (f6 Y.toNat)) (aA (N i)) (aR (N i)) (bX (N i)) (bf (N i)) (cq (N i))) (hp:(-100000<=x9/\x9<=100000)/\(-100000<=PV/\PV<=100000)/\(-100000<=PT/\PT<=100000)/\(-100000<=PZ/\PZ<=100000)) :
 ∀i,i<=R->Ev (Vo H G R N n4 f4 n6 f6 Y x9 PV PT PZ) (.L0 (i:Int) (kp (Gi H G R N n4 f4 n6 f6 Y x9 PV PT PZ) (LB H G R N n4 f4 n6 f6 Y x9 PV PT PZ) i)) (.tup [D (kp (Gi H G R N n4 f4 n6 f6 Y x9 PV PT PZ) (LB H G R N n4 f4 n6 f6 Y x9 PV PT PZ) R),D 0]):=by
 refine dv λi hi ih=>?_;by_cases Pj:i<R
 ·have ih:=ih Pj
  have hw:=kH Pj hn;refine Ev.of rfl (cO (AG K) (aF (AG K) (aF (AG hx) (AM (ac (AM (ac (AM (ac (AP (λh=>aK ?_) (λh=>aI ?_ (ac (AP (λQ=>aK ?_) (λQ=>aK ?_))))))))))))))
  ·rw[hw]
   have e:kp (Gi H G R N n4 f4 n6 f6 Y x9 PV PT PZ) (LB H G R N n4 f4 n6 f6 Y x9 PV PT PZ) (i+1)=2:=by simp only[kp];rw[show Gi H G R N n4 f4 n6 f6 Y x9 PV PT PZ i=true from h];rfl
   rw[e]at ih;exact ih
  ·exact λhb=>(RV i Pj).in57 hb hp.1 hp.2.1 hp.2.2.1 hp.2.2.2
  ·rw[hw]
   have e:kp (Gi H G R N n4 f4 n6 f6 Y x9 PV PT PZ) (LB H G R N n4 f4 n6 f6 Y x9 PV PT PZ) (i+1)=max (kp (Gi H G R N n4 f4 n6 f6 Y x9 PV PT PZ) (LB H G R N n4 f4 n6 f6 Y x9 PV PT PZ) i) 1:=by simp only[kp];rw[show Gi H G R N n4 f4 n6 f6 Y x9 PV PT PZ i=false from h,show LB H G R N n4 f4 n6 f6 Y x9 PV PT PZ i=true from Q];rfl
   rw[e]at ih;exact ih
  ·rw[hw]
   have e:kp (Gi H G R N n4 f4 n6 f6 Y x9 PV PT PZ) (LB H G R N n4 f4 n6 f6 Y x9 PV PT PZ) (i+1)=kp (Gi H G R N n4 f4 n6 f6 Y x9 PV PT PZ) (LB H G R N n4 f4 n6 f6 Y x9 PV PT PZ) i:=by simp only[kp];rw[show Gi H G R N n4 f4 n6 f6 Y x9 PV PT PZ i=false from h,show LB H G R N n4 f4 n6 f6 Y x9 PV PT PZ i=false from Q];rfl
   rw[e]at ih;exact ih
 ·have e:i=R:=by omega
  subst e;exact Ev.of rfl (cW (eM K) (AF rfl))
theorem ahh (hp:aC H G/\aC n6 f6):aU (Ev (Vo H G R N n4 f4 n6 f6 Y x9 PV PT PZ)) (OV H G R N n4 f4 n6 f6 Y x9 PV PT PZ) (.tup [D (pZ H G R N n4 f4 n6 f6 Y x9 PV PT PZ),D (sT H G R N n4 f4 n6 f6 Y x9 PV PT PZ)]):=bC λh6=>aI ⟨hp,rfl,aO⟩ (ac (AP (λh=>AF (by unfold pZ sT;rw[h];rfl)) (λh=>AM (ac (AP (λQ=>AF (by unfold pZ sT;rw[h,Q];rfl)) (λQ=>bC λhn=>aH (by
 have e0:pZ H G R N n4 f4 n6 f6 Y x9 PV PT PZ=kp (Gi H G R N n4 f4 n6 f6 Y x9 PV PT PZ) (LB H G R N n4 f4 n6 f6 Y x9 PV PT PZ) R:=by unfold pZ;rw[h,Q];rfl
 have e1:sT H G R N n4 f4 n6 f6 Y x9 PV PT PZ=0:=by unfold sT;rw[h,Q];rfl
 rw[e0,e1];have hc:=asT (H:=H) (G:=G) (R:=R) (N:=N) (n4:=n4) (f4:=f4) (n6:=n6) (f6:=f6) (i:=Y) (m:=n6) (λ_=>h6);have hz:Di (gR H (A aZ G) R (A bj N) n4 (A bm f4) n6 (A aV f6)) Y n6=0:=by rw[← hc];simpa using h
 obtain⟨hx,RV⟩:=Ju hz;rw[adM]at Q;have hq:=xH (wc Q);exact c17 _ _ _ _ _ _ _ _ _ _ _ _ _ hx hn RV ⟨hq.1,hq.2.1,hq.2.2.1,hq.2.2.2.1⟩ 0 (Bc _))))))))
theorem axQ (hp:aC H (A aZ G)/\aC n6 (A aV f6)):aU (Ev (Vo H G R N n4 f4 n6 f6 Y x9 PV PT PZ)) (OV H G R N n4 f4 n6 f6 Y x9 PV PT PZ) (.tup [D (pZ H (A aZ G) R (A bj N) n4 (A bm f4) n6 (A aV f6) Y x9 PV PT PZ),D (sT H (A aZ G) R (A bj N) n4 (A bm f4) n6 (A aV f6) Y x9 PV PT PZ)]):=ahh H G R N n4 f4 n6 f6 Y x9 PV PT PZ hp
def C17:aD:=bP [.agg [.sl aZ,.sl bj,.sl bm,.sl aV],tI,.agg gP] (λ
 |[.agg [.sl H G,.sl R N,.sl n4 f4,.sl n6 f6],.int _ Y,.agg [.int _ x9,.int _ PV,.int _ PT,.int _ PZ]]=>aC H G/\aC n6 f6|_=>False) λ
 |[.agg [.sl H G,.sl R N,.sl n4 f4,.sl n6 f6],.int _ Y,.agg [.int _ x9,.int _ PV,.int _ PT,.int _ PZ]]=>.tup [D (pZ H G R N n4 f4 n6 f6 Y x9 PV PT PZ),D (sT H G R N n4 f4 n6 f6 Y x9 PV PT PZ)]|_=>.any
theorem ax2:b7 C17 58:=aT fn5 λ_ hp=>kt (aqS ..) (axQ _ _ _ _ _ _ _ _ _ _ _ _ _ hp)
inductive F6 where|L0 (_ _:Int)
def aqs:F6->bT×List AD×Option Ex
 |.L0 PW QO=>([(12,D PW),(11,D QO),(10,V.pl 0 0),(9,V.pl 1 0),(5,V.pl 2 0),(3,V.pl 3 0)],[AD.cells [D x9,D PV,D PT,D PV,D PT,D PZ,D x9,D PZ] 164,AD.cells [V.str (sv (av (f6 Y.toNat))),D (aR (f6 Y.toNat)),D (bX (f6 Y.toNat)),D (bf (f6 Y.toNat)),D (cq (f6 Y.toNat)),D (bG (f6 Y.toNat))] 52,AD.cells [D x9,D PV,D PT,D PZ] 37,AD.cells [V.sl H (A aZ G),V.sl R (A bj N),V.sl n4 (A bm f4),V.sl n6 (A aV f6)] 31],none)
def avW:F6->JJ
 |.L0 ..=>(0,[])
def atX:AN (cr JJ):=aQ JJ EB u18 ayq [Cq H G R N n4 f4 n6 f6,D Y,V.agg [D x9,D PV,D PT,D PZ]]
def fs7 (cx:List Cx):Lp JJ:=eX (eC (atX H G R N n4 f4 n6 f6 Y x9 PV PT PZ) [true,false,false])
def awF:JJ->Lp JJ
 |(0,cx)=>fs7 H G R N n4 f4 n6 f6 Y x9 PV PT PZ cx|(_,cx)=>fs7 H G R N n4 f4 n6 f6 Y x9 PV PT PZ cx
def D18:LD JJ F6:=⟨avW,awF H G R N n4 f4 n6 f6 Y x9 PV PT PZ,aqs H G R N n4 f4 n6 f6 Y x9 PV PT PZ⟩
def LR (H:Nat) (G:be) (R:Nat) (N:be) (n4:Nat) (f4:be) (n6:Nat) (f6:be) (Y x9 PV PT PZ:Int):F6->RT F6
 |.L0 PW QO=>.am R (.br (decide (PW<(R:Int))) (.brt (.ob (decide (0<=PW/\PW<(R:Int))) (.obt (.cb (.brt (.ii (.obi (.obj (fh (aR (f6 Y.toNat)) (bX (f6 Y.toNat)) (bf (f6 Y.toNat)) (aA (N PW.toNat)) (aR (N PW.toNat)) (bX (N PW.toNat)) (bf (N PW.toNat)) (cq (N PW.toNat)) x9 PV) (decide (0<=PW/\PW<(R:Int))) (.ii (.obt (.obi (.br (fh (aR (f6 Y.toNat)) (bX (f6 Y.toNat)) (bf (f6 Y.toNat)) (aA (N PW.toNat)) (aR (N PW.toNat)) (bX (N PW.toNat)) (bf (N PW.toNat)) (cq (N PW.toNat)) x9 PV) (.ob (fh (aR (f6 Y.toNat)) (bX (f6 Y.toNat)) (bf (f6 Y.toNat)) (aA (N PW.toNat)) (aR (N PW.toNat)) (bX (N PW.toNat)) (bf (N PW.toNat)) (cq (N PW.toNat)) x9 PV) (.ob (fh (aR (f6 Y.toNat)) (bX (f6 Y.toNat)) (bf (f6 Y.toNat)) (aA (N PW.toNat)) (aR (N PW.toNat)) (bX (N PW.toNat)) (bf (N PW.toNat)) (cq (N PW.toNat)) x9 PV) (.ob (fh (aR (f6 Y.toNat)) (bX (f6 Y.toNat)) (bf (f6 Y.toNat)) (aA (N PW.toNat)) (aR (N PW.toNat)) (bX (N PW.toNat)) (bf (N PW.toNat)) (cq (N PW.toNat)) x9 PV) (.cb (.brt (.ii (.obi (.obj (fh (aR (f6 Y.toNat)) (bX (f6 Y.toNat)) (bf (f6 Y.toNat)) (aA (N PW.toNat)) (aR (N PW.toNat)) (bX (N PW.toNat)) (bf (N PW.toNat)) (cq (N PW.toNat)) PT PV) (decide (0<=PW/\PW<(R:Int))) (.ii (.obt (.obi (.br (fh (aR (f6 Y.toNat)) (bX (f6 Y.toNat)) (bf (f6 Y.toNat)) (aA (N PW.toNat)) (aR (N PW.toNat)) (bX (N PW.toNat)) (bf (N PW.toNat)) (cq (N PW.toNat)) PT PV) (.ob (fh (aR (f6 Y.toNat)) (bX (f6 Y.toNat)) (bf (f6 Y.toNat)) (aA (N PW.toNat)) (aR (N PW.toNat)) (bX (N PW.toNat)) (bf (N PW.toNat)) (cq (N PW.toNat)) PT PV) (.ob (fh (aR (f6 Y.toNat)) (bX (f6 Y.toNat)) (bf (f6 Y.toNat)) (aA (N PW.toNat)) (aR (N PW.toNat)) (bX (N PW.toNat)) (bf (N PW.toNat)) (cq (N PW.toNat)) PT PV) (.ob (fh (aR (f6 Y.toNat)) (bX (f6 Y.toNat)) (bf (f6 Y.toNat)) (aA (N PW.toNat)) (aR (N PW.toNat)) (bX (N PW.toNat)) (bf (N PW.toNat)) (cq (N PW.toNat)) PT PV) (.cb (.brt (.ii (.obi (.obj (fh (aR (f6 Y.toNat)) (bX (f6 Y.toNat)) (bf (f6 Y.toNat)) (aA (N PW.toNat)) (aR (N PW.toNat)) (bX (N PW.toNat)) (bf (N PW.toNat)) (cq (N PW.toNat)) PT PZ) (decide (0<=PW/\PW<(R:Int))) (.ii (.obt (.obi (.br (fh (aR (f6 Y.toNat)) (bX (f6 Y.toNat)) (bf (f6 Y.toNat)) (aA (N PW.toNat)) (aR (N PW.toNat)) (bX (N PW.toNat)) (bf (N PW.toNat)) (cq (N PW.toNat)) PT PZ) (.ob (fh (aR (f6 Y.toNat)) (bX (f6 Y.toNat)) (bf (f6 Y.toNat)) (aA (N PW.toNat)) (aR (N PW.toNat)) (bX (N PW.toNat)) (bf (N PW.toNat)) (cq (N PW.toNat)) PT PZ) (.ob (fh (aR (f6 Y.toNat)) (bX (f6 Y.toNat)) (bf (f6 Y.toNat)) (aA (N PW.toNat)) (aR (N PW.toNat)) (bX (N PW.toNat)) (bf (N PW.toNat)) (cq (N PW.toNat)) PT PZ) (.ob (fh (aR (f6 Y.toNat)) (bX (f6 Y.toNat)) (bf (f6 Y.toNat)) (aA (N PW.toNat)) (aR (N PW.toNat)) (bX (N PW.toNat)) (bf (N PW.toNat)) (cq (N PW.toNat)) PT PZ) (.cb (.brf (.br (fh (aR (f6 Y.toNat)) (bX (f6 Y.toNat)) (bf (f6 Y.toNat)) (aA (N PW.toNat)) (aR (N PW.toNat)) (bX (N PW.toNat)) (bf (N PW.toNat)) (cq (N PW.toNat)) x9 PZ) (.ret (V.tup [D 2,D 0])) (.ob (decide (0<=PW/\PW<(R:Int))) (.obp (fN (bf (f6 Y.toNat)) (bf (N PW.toNat))=true->((-100000:Int)<=aR (f6 Y.toNat)/\aR (f6 Y.toNat)<=(100000:Int))/\((-100000:Int)<=bX (f6 Y.toNat)/\bX (f6 Y.toNat)<=(100000:Int))/\((0:Int)<=bf (f6 Y.toNat)/\bf (f6 Y.toNat)<=(200:Int))/\((0:Int)<=cG (bf (f6 Y.toNat)) (cq (N PW.toNat))/\cG (bf (f6 Y.toNat)) (cq (N PW.toNat))<=(200:Int))/\((0:Int)<=cJ (bf (f6 Y.toNat)) (bf (N PW.toNat))/\cJ (bf (f6 Y.toNat)) (bf (N PW.toNat))<=(200:Int))/\((-536870912:Int)<=cH (bf (f6 Y.toNat)) (aA (N PW.toNat))/\cH (bf (f6 Y.toNat)) (aA (N PW.toNat))<=(536870912:Int))/\((-536870912:Int)<=cI (bf (f6 Y.toNat)) (aR (N PW.toNat))/\cI (bf (f6 Y.toNat)) (aR (N PW.toNat))<=(536870912:Int))/\((0:Int)<=Cg (bf (f6 Y.toNat)) (bX (N PW.toNat))/\Cg (bf (f6 Y.toNat)) (bX (N PW.toNat))<=(1073741824:Int))/\((-100000:Int)<=x9/\x9<=(100000:Int))/\((-100000:Int)<=PV/\PV<=(100000:Int))/\((-100000:Int)<=PT/\PT<=(100000:Int))/\(-100000:Int)<=PZ/\PZ<=(100000:Int)) (.obt (.br (Kx (aR (f6 Y.toNat)) (bX (f6 Y.toNat)) (bf (f6 Y.toNat)) (aA (N PW.toNat)) (aR (N PW.toNat)) (bX (N PW.toNat)) (bf (N PW.toNat)) (cq (N PW.toNat)) x9 PV PT PZ) (.next (iR 0 4 []) (F6.L0 (E (PW+1)) 1) []) (.next (iR 0 4 []) (F6.L0 (E (PW+1)) QO) []))))))))))) (.brf (.ob (decide (0<=PW/\PW<(R:Int))) (.obp (fN (bf (f6 Y.toNat)) (bf (N PW.toNat))=true->((-100000:Int)<=aR (f6 Y.toNat)/\aR (f6 Y.toNat)<=(100000:Int))/\((-100000:Int)<=bX (f6 Y.toNat)/\bX (f6 Y.toNat)<=(100000:Int))/\((0:Int)<=bf (f6 Y.toNat)/\bf (f6 Y.toNat)<=(200:Int))/\((0:Int)<=cG (bf (f6 Y.toNat)) (cq (N PW.toNat))/\cG (bf (f6 Y.toNat)) (cq (N PW.toNat))<=(200:Int))/\((0:Int)<=cJ (bf (f6 Y.toNat)) (bf (N PW.toNat))/\cJ (bf (f6 Y.toNat)) (bf (N PW.toNat))<=(200:Int))/\((-536870912:Int)<=cH (bf (f6 Y.toNat)) (aA (N PW.toNat))/\cH (bf (f6 Y.toNat)) (aA (N PW.toNat))<=(536870912:Int))/\((-536870912:Int)<=cI (bf (f6 Y.toNat)) (aR (N PW.toNat))/\cI (bf (f6 Y.toNat)) (aR (N PW.toNat))<=(536870912:Int))/\((0:Int)<=Cg (bf (f6 Y.toNat)) (bX (N PW.toNat))/\Cg (bf (f6 Y.toNat)) (bX (N PW.toNat))<=(1073741824:Int))/\((-100000:Int)<=x9/\x9<=(100000:Int))/\((-100000:Int)<=PV/\PV<=(100000:Int))/\((-100000:Int)<=PT/\PT<=(100000:Int))/\(-100000:Int)<=PZ/\PZ<=(100000:Int)) (.obt (.br (Kx (aR (f6 Y.toNat)) (bX (f6 Y.toNat)) (bf (f6 Y.toNat)) (aA (N PW.toNat)) (aR (N PW.toNat)) (bX (N PW.toNat)) (bf (N PW.toNat)) (cq (N PW.toNat)) x9 PV PT PZ) (.next (iR 0 4 []) (F6.L0 (E (PW+1)) 1) []) (.next (iR 0 4 []) (F6.L0 (E (PW+1)) QO) [])))))))))))))))))) (.brt (.brf (.ob (decide (0<=PW/\PW<(R:Int))) (.obp (fN (bf (f6 Y.toNat)) (bf (N PW.toNat))=true->((-100000:Int)<=aR (f6 Y.toNat)/\aR (f6 Y.toNat)<=(100000:Int))/\((-100000:Int)<=bX (f6 Y.toNat)/\bX (f6 Y.toNat)<=(100000:Int))/\((0:Int)<=bf (f6 Y.toNat)/\bf (f6 Y.toNat)<=(200:Int))/\((0:Int)<=cG (bf (f6 Y.toNat)) (cq (N PW.toNat))/\cG (bf (f6 Y.toNat)) (cq (N PW.toNat))<=(200:Int))/\((0:Int)<=cJ (bf (f6 Y.toNat)) (bf (N PW.toNat))/\cJ (bf (f6 Y.toNat)) (bf (N PW.toNat))<=(200:Int))/\((-536870912:Int)<=cH (bf (f6 Y.toNat)) (aA (N PW.toNat))/\cH (bf (f6 Y.toNat)) (aA (N PW.toNat))<=(536870912:Int))/\((-536870912:Int)<=cI (bf (f6 Y.toNat)) (aR (N PW.toNat))/\cI (bf (f6 Y.toNat)) (aR (N PW.toNat))<=(536870912:Int))/\((0:Int)<=Cg (bf (f6 Y.toNat)) (bX (N PW.toNat))/\Cg (bf (f6 Y.toNat)) (bX (N PW.toNat))<=(1073741824:Int))/\((-100000:Int)<=x9/\x9<=(100000:Int))/\((-100000:Int)<=PV/\PV<=(100000:Int))/\((-100000:Int)<=PT/\PT<=(100000:Int))/\(-100000:Int)<=PZ/\PZ<=(100000:Int)) (.obt (.br (Kx (aR (f6 Y.toNat)) (bX (f6 Y.toNat)) (bf (f6 Y.toNat)) (aA (N PW.toNat)) (aR (N PW.toNat)) (bX (N PW.toNat)) (bf (N PW.toNat)) (cq (N PW.toNat)) x9 PV PT PZ) (.next (iR 0 4 []) (F6.L0 (E (PW+1)) 1) []) (.next (iR 0 4 []) (F6.L0 (E (PW+1)) QO) []))))))))))))))))))) (.brt (.brt (.brf (.ob (decide (0<=PW/\PW<(R:Int))) (.obp (fN (bf (f6 Y.toNat)) (bf (N PW.toNat))=true->((-100000:Int)<=aR (f6 Y.toNat)/\aR (f6 Y.toNat)<=(100000:Int))/\((-100000:Int)<=bX (f6 Y.toNat)/\bX (f6 Y.toNat)<=(100000:Int))/\((0:Int)<=bf (f6 Y.toNat)/\bf (f6 Y.toNat)<=(200:Int))/\((0:Int)<=cG (bf (f6 Y.toNat)) (cq (N PW.toNat))/\cG (bf (f6 Y.toNat)) (cq (N PW.toNat))<=(200:Int))/\((0:Int)<=cJ (bf (f6 Y.toNat)) (bf (N PW.toNat))/\cJ (bf (f6 Y.toNat)) (bf (N PW.toNat))<=(200:Int))/\((-536870912:Int)<=cH (bf (f6 Y.toNat)) (aA (N PW.toNat))/\cH (bf (f6 Y.toNat)) (aA (N PW.toNat))<=(536870912:Int))/\((-536870912:Int)<=cI (bf (f6 Y.toNat)) (aR (N PW.toNat))/\cI (bf (f6 Y.toNat)) (aR (N PW.toNat))<=(536870912:Int))/\((0:Int)<=Cg (bf (f6 Y.toNat)) (bX (N PW.toNat))/\Cg (bf (f6 Y.toNat)) (bX (N PW.toNat))<=(1073741824:Int))/\((-100000:Int)<=x9/\x9<=(100000:Int))/\((-100000:Int)<=PV/\PV<=(100000:Int))/\((-100000:Int)<=PT/\PT<=(100000:Int))/\(-100000:Int)<=PZ/\PZ<=(100000:Int)) (.obt (.br (Kx (aR (f6 Y.toNat)) (bX (f6 Y.toNat)) (bf (f6 Y.toNat)) (aA (N PW.toNat)) (aR (N PW.toNat)) (bX (N PW.toNat)) (bf (N PW.toNat)) (cq (N PW.toNat)) x9 PV PT PZ) (.next (iR 0 4 []) (F6.L0 (E (PW+1)) 1) []) (.next (iR 0 4 []) (F6.L0 (E (PW+1)) QO) [])))))))))))))))))))) (.ret (V.tup [D QO,D 0])))
abbrev aw5:=[some (some 3),some (some 2),some (some 1),some (some 0)]
def OW:RT F6:=.am n6 (.obp ((aC H G)/\aC n6 f6) (.obt (.br (jv H (A aZ G) R (A bj N) n4 (A bm f4) n6 (A aV f6) Y (n6:Int)==0) (.ob (jv H (A aZ G) R (A bj N) n4 (A bm f4) n6 (A aV f6) Y (n6:Int)==0) (.cb (.br (!rm x9 PV PT PZ) (.brt (.ret (V.tup [D 0,D 7]))) (.bry (jv H (A aZ G) R (A bj N) n4 (A bm f4) n6 (A aV f6) Y (n6:Int)!=0) (.ob (decide (0<=Y/\Y<(n6:Int))) (.cb (.enter aw5 (F6.L0 0 0) []))))))) (.brx (jv H (A aZ G) R (A bj N) n4 (A bm f4) n6 (A aV f6) Y (n6:Int)!=0) (.ret (V.tup [D 0,D (jv H (A aZ G) R (A bj N) n4 (A bm f4) n6 (A aV f6) Y (n6:Int))]))))))
theorem aos:d0 EB u18 (D18 H G R N n4 f4 n6 f6 Y x9 PV PT PZ) (atX H G R N n4 f4 n6 f6 Y x9 PV PT PZ) (OW H G R N n4 f4 n6 f6 Y x9 PV PT PZ) (LR H G R N n4 f4 n6 f6 Y x9 PV PT PZ):=⟨bF,λs=>by cases s<;>exact bF⟩
def Gc (ii:Nat):Bool:=dm (H,G,R,n4,f4,n6) (fh (aR (f6 Y.toNat)) (bX (f6 Y.toNat)) (bf (f6 Y.toNat)) (aA (N ii)) (aR (N ii)) (bX (N ii)) (bf (N ii)) (cq (N ii)) x9 PV&&(fh (aR (f6 Y.toNat)) (bX (f6 Y.toNat)) (bf (f6 Y.toNat)) (aA (N ii)) (aR (N ii)) (bX (N ii)) (bf (N ii)) (cq (N ii)) PT PV&&(fh (aR (f6 Y.toNat)) (bX (f6 Y.toNat)) (bf (f6 Y.toNat)) (aA (N ii)) (aR (N ii)) (bX (N ii)) (bf (N ii)) (cq (N ii)) PT PZ&&fh (aR (f6 Y.toNat)) (bX (f6 Y.toNat)) (bf (f6 Y.toNat)) (aA (N ii)) (aR (N ii)) (bX (N ii)) (bf (N ii)) (cq (N ii)) x9 PZ)))
def LI (ii:Nat):Bool:=dm (H,G,R,n4,f4,n6) (Kx (aR (f6 Y.toNat)) (bX (f6 Y.toNat)) (bf (f6 Y.toNat)) (aA (N ii)) (aR (N ii)) (bX (N ii)) (bf (N ii)) (cq (N ii)) x9 PV PT PZ)
def fG:Int:=bif jv H (A aZ G) R (A bj N) n4 (A bm f4) n6 (A aV f6) Y (n6:Int)!=0 then 0 else bif rm x9 PV PT PZ then jC (Gc H G R N n4 f4 n6 f6 Y x9 PV PT PZ) (LI H G R N n4 f4 n6 f6 Y x9 PV PT PZ) R else 0
def tq:Int:=bif jv H (A aZ G) R (A bj N) n4 (A bm f4) n6 (A aV f6) Y (n6:Int)!=0 then jv H (A aZ G) R (A bj N) n4 (A bm f4) n6 (A aV f6) Y (n6:Int) else bif rm x9 PV PT PZ then 0 else 7
theorem c18 (H:Nat) (G:be) (R:Nat) (N:be) (n4:Nat) (f4:be) (n6:Nat) (f6:be) (Y x9 PV PT PZ:Int) (hx:0<=Y/\Y<(n6:Int)) (RV:∀ i,i<R->TC (aR (f6 Y.toNat)) (bX (f6 Y.toNat)) (bf (f6 Y.toNat)) (aA (N i)) (aR (N i)) (bX (N i)) (bf (N i)) (cq (N i))) (hp:(-100000<=x9/\x9<=100000)/\(-100000<=PV/\PV<=100000)/\(-100000<=PT/\PT<=100000)/\(-100000<=PZ/\PZ<=100000)) :
 ∀i,i<=R->gW i (Gc H G R N n4 f4 n6 f6 Y x9 PV PT PZ)=false->∀o:Int,o=(bif gW i (LI H G R N n4 f4 n6 f6 Y x9 PV PT PZ) then 1 else 0)->Ev (LR H G R N n4 f4 n6 f6 Y x9 PV PT PZ) (.L0 (i:Int) o) (.tup [D (jC (Gc H G R N n4 f4 n6 f6 Y x9 PV PT PZ) (LI H G R N n4 f4 n6 f6 Y x9 PV PT PZ) R),D 0]):=by
 refine dv λii hi ih hd o ho=>Ev.of rfl (bC λhn=>?_);by_cases Pj:ii<R
 ·have ih:=ih Pj
  have hw:=kH Pj hn;have Rr:decide (0<=(ii:Int)/\(ii:Int)<(R:Int))=true:=AG K;have Y8:=λhb=>(RV ii Pj).refIn hb hp.1 hp.2.1 hp.2.2.1 hp.2.2.2;have hD:Gc H G R N n4 f4 n6 f6 Y x9 PV PT PZ ii=true->jC (Gc H G R N n4 f4 n6 f6 Y x9 PV PT PZ) (LI H G R N n4 f4 n6 f6 Y x9 PV PT PZ) R=2:=λh=>by unfold jC;rw[cZ ii Pj h];rfl
  have hN1:Gc H G R N n4 f4 n6 f6 Y x9 PV PT PZ ii=false->LI H G R N n4 f4 n6 f6 Y x9 PV PT PZ ii=true->Ev (LR H G R N n4 f4 n6 f6 Y x9 PV PT PZ) (.L0 (E ((ii:Int)+1)) 1) (.tup [D (jC (Gc H G R N n4 f4 n6 f6 Y x9 PV PT PZ) (LI H G R N n4 f4 n6 f6 Y x9 PV PT PZ) R),D 0]):=λM Q=>by rw[hw];exact ih (by rw[ig,hd,M];rfl) 1 (by rw[ig,Q,Bool.or_true];rfl)
  have hN0:Gc H G R N n4 f4 n6 f6 Y x9 PV PT PZ ii=false->LI H G R N n4 f4 n6 f6 Y x9 PV PT PZ ii=false->Ev (LR H G R N n4 f4 n6 f6 Y x9 PV PT PZ) (.L0 (E ((ii:Int)+1)) o) (.tup [D (jC (Gc H G R N n4 f4 n6 f6 Y x9 PV PT PZ) (LI H G R N n4 f4 n6 f6 Y x9 PV PT PZ) R),D 0]):=λM Q=>by rw[hw];exact ih (by rw[ig,hd,M];rfl) o (by rw[ig,Q,Bool.or_false];exact ho)
  refine cO (AG K) ?_;generalize jC (Gc H G R N n4 f4 n6 f6 Y x9 PV PT PZ) (LI H G R N n4 f4 n6 f6 Y x9 PV PT PZ) R=r at *
  unfold Gc at hD hN1 hN0;unfold LI at hN1 hN0;clear ih hw ho hd;rw[Bt];generalize Zi:fh (aR (f6 Y.toNat)) (bX (f6 Y.toNat)) (bf (f6 Y.toNat)) (aA (N ii)) (aR (N ii)) (bX (N ii)) (bf (N ii)) (cq (N ii)) x9 PV=c0 at *
  generalize Sz:fh (aR (f6 Y.toNat)) (bX (f6 Y.toNat)) (bf (f6 Y.toNat)) (aA (N ii)) (aR (N ii)) (bX (N ii)) (bf (N ii)) (cq (N ii)) PT PV=c1 at *
  generalize Uc:fh (aR (f6 Y.toNat)) (bX (f6 Y.toNat)) (bf (f6 Y.toNat)) (aA (N ii)) (aR (N ii)) (bX (N ii)) (bf (N ii)) (cq (N ii)) PT PZ=c2 at *
  generalize im13:fh (aR (f6 Y.toNat)) (bX (f6 Y.toNat)) (bf (f6 Y.toNat)) (aA (N ii)) (aR (N ii)) (bX (N ii)) (bf (N ii)) (cq (N ii)) x9 PZ=c3 at *
  generalize ht:Kx (aR (f6 Y.toNat)) (bX (f6 Y.toNat)) (bf (f6 Y.toNat)) (aA (N ii)) (aR (N ii)) (bX (N ii)) (bf (N ii)) (cq (N ii)) x9 PV PT PZ=t at *
  clear Zi Sz Uc im13 ht;cases c0<;>(repeat' (first|(exact aK (hN1 rfl rfl))|(exact aK (hN0 rfl rfl))|exact AF (by rw[hD rfl])|refine AE ?_|refine AM ?_|refine ac ?_|refine aF rfl ?_|refine aF Rr ?_|refine Ba (λ_=>Rr) ?_|refine aI Y8 ?_|refine dX ?_|refine gQ ?_|refine cO rfl ?_|refine cW rfl ?_))
  all_goals (cases c1<;>(repeat' (first|(exact aK (hN1 rfl rfl))|(exact aK (hN0 rfl rfl))|exact AF (by rw[hD rfl])|refine AE ?_|refine AM ?_|refine ac ?_|refine aF rfl ?_|refine aF Rr ?_|refine Ba (λ_=>Rr) ?_|refine aI Y8 ?_|refine dX ?_|refine gQ ?_|refine cO rfl ?_|refine cW rfl ?_)))
  all_goals (cases c2<;>(repeat' (first|(exact aK (hN1 rfl rfl))|(exact aK (hN0 rfl rfl))|exact AF (by rw[hD rfl])|refine AE ?_|refine AM ?_|refine ac ?_|refine aF rfl ?_|refine aF Rr ?_|refine Ba (λ_=>Rr) ?_|refine aI Y8 ?_|refine dX ?_|refine gQ ?_|refine cO rfl ?_|refine cW rfl ?_)))
  all_goals (cases c3<;>(repeat' (first|(exact aK (hN1 rfl rfl))|(exact aK (hN0 rfl rfl))|exact AF (by rw[hD rfl])|refine AE ?_|refine AM ?_|refine ac ?_|refine aF rfl ?_|refine aF Rr ?_|refine Ba (λ_=>Rr) ?_|refine aI Y8 ?_|refine dX ?_|refine gQ ?_|refine cO rfl ?_|refine cW rfl ?_)))
  all_goals (cases t<;>(repeat' (first|(exact aK (hN1 rfl rfl))|(exact aK (hN0 rfl rfl))|exact AF (by rw[hD rfl])|refine AE ?_|refine AM ?_|refine ac ?_|refine aF rfl ?_|refine aF Rr ?_|refine Ba (λ_=>Rr) ?_|refine aI Y8 ?_|refine dX ?_|refine gQ ?_|refine cO rfl ?_|refine cW rfl ?_)))
 ·have e:ii=R:=by omega
  subst e;refine cW (eM K) (AF ?_);unfold jC;rw[hd,ho];rfl
theorem ah0 (hp:aC H G/\aC n6 f6):aU (Ev (LR H G R N n4 f4 n6 f6 Y x9 PV PT PZ)) (OW H G R N n4 f4 n6 f6 Y x9 PV PT PZ) (.tup [D (fG H G R N n4 f4 n6 f6 Y x9 PV PT PZ),D (tq H G R N n4 f4 n6 f6 Y x9 PV PT PZ)]):=by
 refine bC λh6=>aI hp (ac (AP (λh=>aF h (AM (ac (AP (λQ=>dX (AF (by
  have h':(jv H (A aZ G) R (A bj N) n4 (A bm f4) n6 (A aV f6) Y (n6:Int)!=0)=false:=by rw[DU h];rfl
  unfold fG tq;rw[h',Mq Q];rfl))) (λQ=>ac3 ?_ ?_))))) (λh=>asU ?_ (AF ?_))))
 ·rw[DU h];rfl
 ·have h':(jv H (A aZ G) R (A bj N) n4 (A bm f4) n6 (A aV f6) Y (n6:Int)!=0)=false:=by rw[DU h];rfl
  have e0:fG H G R N n4 f4 n6 f6 Y x9 PV PT PZ=jC (Gc H G R N n4 f4 n6 f6 Y x9 PV PT PZ) (LI H G R N n4 f4 n6 f6 Y x9 PV PT PZ) R:=by unfold fG;rw[h',wc Q];rfl
  have e1:tq H G R N n4 f4 n6 f6 Y x9 PV PT PZ=0:=by unfold tq;rw[h',wc Q];rfl
  rw[e0,e1];have hc:=aeH (H:=H) (G:=G) (R:=R) (N:=N) (n4:=n4) (f4:=f4) (n6:=n6) (f6:=f6) (i:=Y) (m:=n6);have hz:Di (gR H (A aZ G) R (A bj N) n4 (A bm f4) n6 (A aV f6)) Y n6=0:=by rw[← hc];exact DU h
  obtain⟨hx,RV⟩:=Ju hz;have hq:=xH (wc Q);exact aF (AG hx) (AM (ac (aH (c18 _ _ _ _ _ _ _ _ _ _ _ _ _ hx RV ⟨hq.1,hq.2.1,hq.2.2.1,hq.2.2.2.1⟩ 0 (Bc _) rfl 0 rfl))))
 ·rw[bne,h];rfl
 ·have h':(jv H (A aZ G) R (A bj N) n4 (A bm f4) n6 (A aV f6) Y (n6:Int)!=0)=true:=by rw[bne,h];rfl
  unfold fG tq;rw[h'];rfl
theorem aAk (hp:aC H (A aZ G)/\aC n6 (A aV f6)):aU (Ev (LR H G R N n4 f4 n6 f6 Y x9 PV PT PZ)) (OW H G R N n4 f4 n6 f6 Y x9 PV PT PZ) (.tup [D (fG H (A aZ G) R (A bj N) n4 (A bm f4) n6 (A aV f6) Y x9 PV PT PZ),D (tq H (A aZ G) R (A bj N) n4 (A bm f4) n6 (A aV f6) Y x9 PV PT PZ)]):=ah0 H G R N n4 f4 n6 f6 Y x9 PV PT PZ hp
def C18:aD:=bP [.agg [.sl aZ,.sl bj,.sl bm,.sl aV],tI,.agg gP] (λ
 |[.agg [.sl H G,.sl R N,.sl n4 f4,.sl n6 f6],.int _ Y,.agg [.int _ x9,.int _ PV,.int _ PT,.int _ PZ]]=>aC H G/\aC n6 f6|_=>False) λ
 |[.agg [.sl H G,.sl R N,.sl n4 f4,.sl n6 f6],.int _ Y,.agg [.int _ x9,.int _ PV,.int _ PT,.int _ PZ]]=>.tup [D (fG H G R N n4 f4 n6 f6 Y x9 PV PT PZ),D (tq H G R N n4 f4 n6 f6 Y x9 PV PT PZ)]|_=>.any
theorem azq:b7 C18 62:=aT fn5 λ_ hp=>kt (aos ..) (aAk _ _ _ _ _ _ _ _ _ _ _ _ _ hp)
end
end Go.Dx
namespace Go.Dx
open Go.Sx
noncomputable section
theorem azl {e:Int} {p:Bool} {v v':Int} (h:e=0->p=false->v=v'):(bif e != 0 then 0 else bif p then 0 else v)=(bif e != 0 then 0 else bif !p then v' else 0):=by
 by_cases he:e=0
 ·subst he
  cases p with
  |true=>rfl|false=>exact h rfl rfl
 ·have Q:(e != 0)=true:=by simpa using he
  rw[Q];rfl
theorem axS (e:Int) (p:Bool):(bif e !=0 then e else bif p then 7 else 0)=(bif e !=0 then e else bif !p then 0 else(7:Int)):=by cases e !=0<;>cases p<;>rfl
section
variable {H:Nat} {G:be} {R:Nat} {N:be} {n4:Nat} {f4:be} {n6:Nat} {f6:be}
theorem awA {p:Nat->Bool}:(!gW 4 λi=>!p i)=(p 0&&(p 1&&(p 2&&p 3))):=by
 have e:gW 4 (λi=>!p i)=(!p 0||(!p 1||(!p 2||!p 3))):=by rw[ig,ig,ig,ig];rw[show gW 0 (λi=>!p i)=false from rfl];cases p 0<;>cases p 1<;>cases p 2<;>cases p 3<;>rfl
 rw[e];cases p 0<;>cases p 1<;>cases p 2<;>cases p 3<;>rfl
theorem hpc (Y x9 PV PT PZ:Int):pZ H G R N n4 f4 n6 f6 Y x9 PV PT PZ=fG H G R N n4 f4 n6 f6 Y x9 PV PT PZ/\sT H G R N n4 f4 n6 f6 Y x9 PV PT PZ=tq H G R N n4 f4 n6 f6 Y x9 PV PT PZ:=by
 have hc:=asT (H:=H) (G:=G) (R:=R) (N:=N) (n4:=n4) (f4:=f4) (n6:=n6) (f6:=f6) (i:=Y) (m:=n6) (λh=>by have:=(Fx h).l6;omega);have hd:=aeH (H:=H) (G:=G) (R:=R) (N:=N) (n4:=n4) (f4:=f4) (n6:=n6) (f6:=f6) (i:=Y) (m:=n6);unfold pZ fG sT tq;rw[hc,hd,adM];generalize hP:rm x9 PV PT PZ=P;refine⟨?_,?_⟩
 ·have:=azl (e:=Di (gR H (A aZ G) R (A bj N) n4 (A bm f4) n6 (A aV f6)) Y n6) (p:=!P) (v:=kp (Gi H G R N n4 f4 n6 f6 Y x9 PV PT PZ) (LB H G R N n4 f4 n6 f6 Y x9 PV PT PZ) R) (v':=jC (Gc H G R N n4 f4 n6 f6 Y x9 PV PT PZ) (LI H G R N n4 f4 n6 f6 Y x9 PV PT PZ) R) (λhe hp=>by
   rw[Bool.not_eq_false']at hp;have hq:=xH (hP.trans hp);rw[hlj];unfold jC;have e1:gW R (Gi H G R N n4 f4 n6 f6 Y x9 PV PT PZ)=gW R (Gc H G R N n4 f4 n6 f6 Y x9 PV PT PZ):=ql λi hi=>by have t:=(Ju he).2 i hi;unfold Gi Gc KI MG;rw[mz];rw[← t.hasE hq.1 hq.2.1,← t.hasE hq.2.2.1 hq.2.1,← t.hasE hq.2.2.1 hq.2.2.2.1,← t.hasE hq.1 hq.2.2.2.1];exact awA
   have e2:gW R (LB H G R N n4 f4 n6 f6 Y x9 PV PT PZ)=gW R (LI H G R N n4 f4 n6 f6 Y x9 PV PT PZ):=ql λi hi=>((Ju he).2 i hi).touch;rw[e1,e2])
  rw[Ez]at this;exact this
 ·have:=axS (Di (gR H (A aZ G) R (A bj N) n4 (A bm f4) n6 (A aV f6)) Y n6) (!P);rw[Ez]at this;exact this
end
end
end Go.Dx
namespace Go.Dx
open Go.IntKind (i64 u64 u8)
open Go.Sx Go.Proofs
variable (H:Nat) (G:be) (R:Nat) (N:be) (O:Int) (n5:Nat) (q:be) (n7:Nat) (f7:be) (n9:Nat) (f9:be) (PS:Nat) (At:be) (Pi:Nat) (Pf:be) (Pm:Nat) (Ph:be) (Pb Pw:Int) (RL:ByteArray) (Ps Pr Py Pz QQ QY QZ Qa Qb Qq RA:Int)
noncomputable section
def JL:bo:=(58,.con C17)::(62,.con C18)::JP
theorem HI:ba Tryz.prog AQ AS JL:=.con ax2 (.con azq (FW))
def mF (UN lo:Int):Int:=bif UN==2 then 0 else bif UN==1 then 0 else lo
def mo (UN hi:Int):Int:=bif UN==2 then 0 else hi
def aax:RT Empty:=dm (H,G,R,N,O,Pi,Pf,Pm,Ph,RL,Ps,Pr,Py,Pz,QQ) (.obp (aC n5 (A aZ q)/\aC PS (A aV At)) (.obt (.br (pZ n5 (A aZ q) n7 (A bj f7) n9 (A bm f9) PS (A aV At) Pb QY QZ Qa Qb==2) (.ret (V.agg Au)) (.br (pZ n5 (A aZ q) n7 (A bj f7) n9 (A bm f9) PS (A aV At) Pb QY QZ Qa Qb==1) (.ret (V.agg [D 0,D RA])) (.ret (V.agg [D Qq,D RA]))))))
theorem ny1:cV cX (aQ JJ JL u0 B2 [V.agg [V.sl H (A al G),V.sl R (A ao N),D O,V.sl n5 (A aZ q),V.sl n7 (A bj f7),V.sl n9 (A bm f9),V.sl PS (A aV At),V.sl Pi (A L Pf),V.sl Pm (A cg Ph),D Pb,V.str RL,D Ps,D Pr,D Py,D Pz,D QQ],V.agg [D QY,D QZ,D Qa,D Qb],D Qq,D RA]) (aax H G R N O n5 q n7 f7 n9 f9 PS At Pi Pf Pm Ph Pb RL Ps Pr Py Pz QQ QY QZ Qa Qb Qq RA):=bF
theorem anf (hp:aC n5 (A aZ q)/\aC PS (A aV At)):aU cN (aax H G R N O n5 q n7 f7 n9 f9 PS At Pi Pf Pm Ph Pb RL Ps Pr Py Pz QQ QY QZ Qa Qb Qq RA) (.agg [D (mF (fG n5 (A aZ q) n7 (A bj f7) n9 (A bm f9) PS (A aV At) Pb QY QZ Qa Qb) Qq),D (mo (fG n5 (A aZ q) n7 (A bj f7) n9 (A bm f9) PS (A aV At) Pb QY QZ Qa Qb) RA)]):=by refine aI hp (ac ?_);rw[(hpc ..).1];exact(AP (λh=>AF (by unfold mF mo;rw[h];rfl)) (λh=>AP (λQ=>AF (by unfold mF mo;rw[h,Q];rfl)) (λQ=>AF (by unfold mF mo;rw[h,Q];rfl))))
def adV:aD:=bP [.agg [.sl al,.sl ao,tI,.sl aZ,.sl bj,.sl bm,.sl aV,.sl L,.sl cg,tI,.str,tI,tI,tI,tI,tI],.agg gP,tI,tI] (λ
 |[.agg [.sl H G,.sl R N,.int _ O,.sl n5 q,.sl n7 f7,.sl n9 f9,.sl PS At,.sl Pi Pf,.sl Pm Ph,.int _ Pb,.str RL,.int _ Ps,.int _ Pr,.int _ Py,.int _ Pz,.int _ QQ],.agg [.int _ QY,.int _ QZ,.int _ Qa,.int _ Qb],.int _ Qq,.int _ RA]=>aC n5 q/\aC PS At|_=>False) λ
 |[.agg [.sl H G,.sl R N,.int _ O,.sl n5 q,.sl n7 f7,.sl n9 f9,.sl PS At,.sl Pi Pf,.sl Pm Ph,.int _ Pb,.str RL,.int _ Ps,.int _ Pr,.int _ Py,.int _ Pz,.int _ QQ],.agg [.int _ QY,.int _ QZ,.int _ Qa,.int _ Qb],.int _ Qq,.int _ RA]=>.agg [D (mF (fG n5 q n7 f7 n9 f9 PS At Pb QY QZ Qa Qb) Qq),D (mo (fG n5 q n7 f7 n9 f9 PS At Pb QY QZ Qa Qb) RA)]|_=>.any
theorem afI:b7 adV 33:=aT HI λ_ hp=>c7 (ny1 ..) (anf _ _ _ _ _ _ _ _ _ _ _ _ _ _ _ _ _ _ _ _ _ _ _ _ _ _ _ _ _ _ hp)
def aaH:RT Empty:=dm (H,G,R,N,O,Pi,Pf,Pm,Ph) (.obp (aC n5 (A aZ q)/\aC PS (A aV At)) (.obt (.br (fG n5 (A aZ q) n7 (A bj f7) n9 (A bm f9) PS (A aV At) Pb Pw Ps Pr Py==2) (.ret (V.agg Au)) (.br (fG n5 (A aZ q) n7 (A bj f7) n9 (A bm f9) PS (A aV At) Pb Pw Ps Pr Py==1) (.ret (V.agg [D 0,D QQ])) (.ret (V.agg [D Pz,D QQ]))))))
theorem if0:cV cX (aQ JJ JL u0 akx [V.agg [V.sl H (A al G),V.sl R (A ao N),D O,V.sl n5 (A aZ q),V.sl n7 (A bj f7),V.sl n9 (A bm f9),V.sl PS (A aV At),V.sl Pi (A L Pf),V.sl Pm (A cg Ph)],D Pb,V.agg [D Pw,D Ps,D Pr,D Py],V.agg [D Pz,D QQ]]) (aaH H G R N O n5 q n7 f7 n9 f9 PS At Pi Pf Pm Ph Pb Pw Ps Pr Py Pz QQ):=bF
theorem aiu (hp:aC n5 (A aZ q)/\aC PS (A aV At)):aU cN (aaH H G R N O n5 q n7 f7 n9 f9 PS At Pi Pf Pm Ph Pb Pw Ps Pr Py Pz QQ) (.agg [D (mF (fG n5 (A aZ q) n7 (A bj f7) n9 (A bm f9) PS (A aV At) Pb Pw Ps Pr Py) Pz),D (mo (fG n5 (A aZ q) n7 (A bj f7) n9 (A bm f9) PS (A aV At) Pb Pw Ps Pr Py) QQ)]):=aI hp (ac (AP (λh=>AF (by unfold mF mo;rw[h];rfl)) (λh=>AP (λQ=>AF (by unfold mF mo;rw[h,Q];rfl)) (λQ=>AF (by unfold mF mo;rw[h,Q];rfl)))))
def acl:aD:=bP [.agg [.sl al,.sl ao,tI,.sl aZ,.sl bj,.sl bm,.sl aV,.sl L,.sl cg],tI,.agg gP,.agg aM] (λ
 |[.agg [.sl H G,.sl R N,.int _ O,.sl n5 q,.sl n7 f7,.sl n9 f9,.sl PS At,.sl Pi Pf,.sl Pm Ph],.int _ Pb,.agg [.int _ Pw,.int _ Ps,.int _ Pr,.int _ Py],.agg [.int _ Pz,.int _ QQ]]=>aC n5 q/\aC PS At|_=>False) λ
 |[.agg [.sl H G,.sl R N,.int _ O,.sl n5 q,.sl n7 f7,.sl n9 f9,.sl PS At,.sl Pi Pf,.sl Pm Ph],.int _ Pb,.agg [.int _ Pw,.int _ Ps,.int _ Pr,.int _ Py],.agg [.int _ Pz,.int _ QQ]]=>.agg [D (mF (fG n5 q n7 f7 n9 f9 PS At Pb Pw Ps Pr Py) Pz),D (mo (fG n5 q n7 f7 n9 f9 PS At Pb Pw Ps Pr Py) QQ)]|_=>.any
theorem ajM:b7 acl 38:=aT HI λ_ hp=>c7 (if0 ..) (aiu _ _ _ _ _ _ _ _ _ _ _ _ _ _ _ _ _ _ _ _ _ _ _ _ hp)
def wk (cx cy h a b c d:Int):Prop:=((-100000<=cx/\cx<=100000)/\(-100000<=cy/\cy<=100000)/\(1<=h/\h<=200))/\jV a/\jV b/\jV c/\jV d
theorem wk.pl {cx cy h a b c d:Int} (o:wk cx cy h a b c d):jV cx/\jV cy/\jV a/\jV b/\jV c/\jV d:=by obtain⟨⟨M,Q,h3⟩,h4⟩:=o;exact⟨by unfold jV;omega,by unfold jV;omega,h4⟩
def Q5 (O cx cy h a b c d dx dy:Int):Int:=xU H G R N O (iU (E (cx-c)) (E (cx-a)) (E (cy-d)) (E (cy-b)) dx dy) (jp (E (cx-c)) (E (cx-a)) (E (cy-d)) (E (cy-b)) dx dy) (iV (E (cx-c)) (E (cx-a)) (E (cy-d)) (E (cy-b)) dx dy) (jd (E (cx-c)) (E (cx-a)) (E (cy-d)) (E (cy-b)) dx dy) (E (100*h))
def TI (O cx cy h a b c d dx dy:Int):Int:=xq H G R N O (iU (E (cx-c)) (E (cx-a)) (E (cy-d)) (E (cy-b)) dx dy) (jp (E (cx-c)) (E (cx-a)) (E (cy-d)) (E (cy-b)) dx dy) (iV (E (cx-c)) (E (cx-a)) (E (cy-d)) (E (cy-b)) dx dy) (jd (E (cx-c)) (E (cx-a)) (E (cy-d)) (E (cy-b)) dx dy) (E (100*h))
def awU (UN tw r h:Int):Int:=mF UN (E (100*fq (E (E (1000*tw)*r)) (E (E (100*h)*E (100*h)))))
def ayR (UN tw r h:Int):Int:=mo UN (E (100*gK (E (E (1000*tw)*r)) (E (E (100*h)*E (100*h)))))
def q7 (At Pf Ph:be) (i cx cy h cdx cdy a b c d dx dy:Int):Int:=awU (fG n5 q n7 f7 n9 f9 PS At i a b c d) (vV H G R N Pf Ph i cx cy cdx cdy a b c d (E (100*h))) (Q5 H G R N O cx cy h a b c d dx dy) h
def rf (At Pf Ph:be) (i cx cy h cdx cdy a b c d dx dy:Int):Int:=ayR (fG n5 q n7 f7 n9 f9 PS At i a b c d) (v8 H G R N Pf Ph i cx cy cdx cdy a b c d (E (100*h))) (TI H G R N O cx cy h a b c d dx dy) h
theorem au0 {h:Int} (k:1<=h/\h<=200):E (E (100*h)*E (100*h))=0->False:=by have m:(100*h*(100*h)).natAbs<=20000*20000:=azc K K;have m2:1<=100*h*(100*h):=HF K K;rw[AX (x:=100*h) K K,AX K K];omega
def J7:bo:=(45,.con abD)::(74,.con ab0)::(33,.con adV)::(38,.con acl)::JL
theorem Gn:ba Tryz.prog AQ AS J7:=.con ah3 (.con al9 (.con afI (.con ajM (HI))))
def OQ:RT Empty:=dm RL (.cb (.cb (.obp (((0:Int)<=Pb/\Pb<(Pi:Int))/\((0:Int)<=Pb/\Pb<(Pm:Int))/\(aC H (A al G)/\aC R (A ao N))/\Hd Pz QQ/\jV Ps/\jV Pr/\jV QY/\jV QZ/\jV Qa/\jV Qb) (.obt (.obp (Hd Qq RA/\((-1000000000:Int)<=E (Ps-Qa)/\E (Ps-Qa)<=(1000000000:Int))/\((-1000000000:Int)<=E (Ps-QY)/\E (Ps-QY)<=(1000000000:Int))/\((-1000000000:Int)<=E (Pr-Qb)/\E (Pr-Qb)<=(1000000000:Int))/\(-1000000000:Int)<=E (Pr-QZ)/\E (Pr-QZ)<=(1000000000:Int)) (.obt (.obp (aC H (A al G)/\aC R (A ao N)) (.obt (.obp (nz (E (im Py*im Py))) (.obt (.obp (nz (E (im Py*im Py))) (.obt (.obp (aC n5 (A aZ q)/\aC PS (A aV At)) (.obt (.ret (V.agg [D (mF (fG n5 (A aZ q) n7 (A bj f7) n9 (A bm f9) PS (A aV At) Pb QY QZ Qa Qb) (E (100*dS (E (E (1000*vV H (A al G) R (A ao N) (A L Pf) (A cg Ph) Pb Ps Pr Pz QQ QY QZ Qa Qb (im Py))*Q5 H (A al G) R (A ao N) O Ps Pr Py QY QZ Qa Qb Qq RA)) (E (im Py*im Py))))),D (mo (fG n5 (A aZ q) n7 (A bj f7) n9 (A bm f9) PS (A aV At) Pb QY QZ Qa Qb) (E (100*eV (E (E (1000*v8 H (A al G) R (A ao N) (A L Pf) (A cg Ph) Pb Ps Pr Pz QQ QY QZ Qa Qb (im Py))*TI H (A al G) R (A ao N) O Ps Pr Py QY QZ Qa Qb Qq RA)) (E (im Py*im Py)))))]))))))))))))))))
theorem ns3:cV cX (aQ JJ J7 u0 fs4 [V.agg [V.sl H (A al G),V.sl R (A ao N),D O,V.sl n5 (A aZ q),V.sl n7 (A bj f7),V.sl n9 (A bm f9),V.sl PS (A aV At),V.sl Pi (A L Pf),V.sl Pm (A cg Ph),D Pb,V.str RL,D Ps,D Pr,D Py,D Pz,D QQ],V.agg [D QY,D QZ,D Qa,D Qb],V.agg [D Qq,D RA]]) (OQ H G R N O n5 q n7 f7 n9 f9 PS At Pi Pf Pm Ph Pb RL Ps Pr Py Pz QQ QY QZ Qa Qb Qq RA):=bF
theorem akS (H:Nat) (G:be) (R:Nat) (N:be) (O:Int) (n5:Nat) (q:be) (n7:Nat) (f7:be) (n9:Nat) (f9:be) (PS:Nat) (At:be) (Pi:Nat) (Pf:be) (Pm:Nat) (Ph:be) (Pb:Int) (RL:ByteArray) (Ps Pr Py Pz QQ QY QZ Qa Qb Qq RA:Int) (hp:(0<=Pb/\Pb<(Pi:Int))/\(0<=Pb/\Pb<(Pm:Int))/\(aC H (A al G)/\aC R (A ao N))/\(aC n5 (A aZ q)/\aC PS (A aV At))/\Hd Pz QQ/\wk Ps Pr Py QY QZ Qa Qb/\Hd Qq RA):aU cN (OQ H G R N O n5 q n7 f7 n9 f9 PS At Pi Pf Pm Ph Pb RL Ps Pr Py Pz QQ QY QZ Qa Qb Qq RA) (.agg [D (q7 H (A al G) R (A ao N) O n5 (A aZ q) n7 (A bj f7) n9 (A bm f9) PS (A aV At) (A L Pf) (A cg Ph) Pb Ps Pr Py Pz QQ QY QZ Qa Qb Qq RA),D (rf H (A al G) R (A ao N) O n5 (A aZ q) n7 (A bj f7) n9 (A bm f9) PS (A aV At) (A L Pf) (A cg Ph) Pb Ps Pr Py Pz QQ QY QZ Qa Qb Qq RA)]):=by obtain⟨h0,M,hz,hr,hd,o,hv⟩:=hp;have p:=o.pl;have hn:=au0 o.1.2.2;unfold OQ;rw[asC,asH];exact AM (ac (AM (ac (aI ⟨h0,M,hz,hd,o.pl⟩ (ac (aI ⟨hv,E6 p.1 p.2.2.2.2.1,E6 p.1 p.2.2.1,E6 p.2.1 p.2.2.2.2.2,E6 p.2.1 p.2.2.2.1⟩ (ac (aI hz (ac (aI hn (ac (aI hn (ac (aI hr (ac (AF rfl))))))))))))))))
def acI:aD:=bP [.agg [.sl al,.sl ao,tI,.sl aZ,.sl bj,.sl bm,.sl aV,.sl L,.sl cg,tI,.str,tI,tI,tI,tI,tI],.agg gP,.agg aM] (λ
 |[.agg [.sl H G,.sl R N,.int _ O,.sl n5 q,.sl n7 f7,.sl n9 f9,.sl PS At,.sl Pi Pf,.sl Pm Ph,.int _ Pb,.str RL,.int _ Ps,.int _ Pr,.int _ Py,.int _ Pz,.int _ QQ],.agg [.int _ QY,.int _ QZ,.int _ Qa,.int _ Qb],.agg [.int _ Qq,.int _ RA]]=>(0<=Pb/\Pb<(Pi:Int))/\(0<=Pb/\Pb<(Pm:Int))/\(aC H G/\aC R N)/\(aC n5 q/\aC PS At)/\Hd Pz QQ/\wk Ps Pr Py QY QZ Qa Qb/\Hd Qq RA|_=>False) λ
 |[.agg [.sl H G,.sl R N,.int _ O,.sl n5 q,.sl n7 f7,.sl n9 f9,.sl PS At,.sl Pi Pf,.sl Pm Ph,.int _ Pb,.str RL,.int _ Ps,.int _ Pr,.int _ Py,.int _ Pz,.int _ QQ],.agg [.int _ QY,.int _ QZ,.int _ Qa,.int _ Qb],.agg [.int _ Qq,.int _ RA]]=>.agg [D (q7 H G R N O n5 q n7 f7 n9 f9 PS At Pf Ph Pb Ps Pr Py Pz QQ QY QZ Qa Qb Qq RA),D (rf H G R N O n5 q n7 f7 n9 f9 PS At Pf Ph Pb Ps Pr Py Pz QQ QY QZ Qa Qb Qq RA)]|_=>.any
theorem ajF:b7 acI 20:=aT Gn λ_ hp=>c7 (ns3 ..) (akS _ _ _ _ _ _ _ _ _ _ _ _ _ _ _ _ _ _ _ _ _ _ _ _ _ _ _ _ _ _ hp)
def ybj:RT Empty:=.ob (dI Pb PS) (.obp (((0:Int)<=Pb/\Pb<(Pi:Int))/\((0:Int)<=Pb/\Pb<(Pm:Int))/\((0:Int)<=Pb/\Pb<(PS:Int))/\(aC H (A al G)/\aC R (A ao N))/\Kz (E (E (cq (At Pb.toNat)*cq (At Pb.toNat))+E (bG (At Pb.toNat)*bG (At Pb.toNat))))) (.obt (.obp ((dE (E (1000000*E (E (Pz*Pz)+E (QQ*QQ))))=(0:Int)->False)/\(dW (E (1000000*E (E (Pz*Pz)+E (QQ*QQ))))=(0:Int)->False)) (.obt (.obp (aC H (A al G)/\aC R (A ao N)) (.obt (.obp (nz (E (E (100*bf (At Pb.toNat))*E (100*bf (At Pb.toNat))))) (.obt (.obp (nz (E (E (100*bf (At Pb.toNat))*E (100*bf (At Pb.toNat))))) (.obt (.obp (aC n5 (A aZ q)/\aC PS (A aV At)) (.obt (.ret (V.agg [D (mF (fG n5 (A aZ q) n7 (A bj f7) n9 (A bm f9) PS (A aV At) Pb Pw Ps Pr Py) (E (100*fq (E (E (1000*vV H (A al G) R (A ao N) (A L Pf) (A cg Ph) Pb (aR (At Pb.toNat)) (bX (At Pb.toNat)) (cq (At Pb.toNat)) (bG (At Pb.toNat)) Pw Ps Pr Py (E (100*bf (At Pb.toNat))))*Q5 H (A al G) R (A ao N) O (aR (At Pb.toNat)) (bX (At Pb.toNat)) (bf (At Pb.toNat)) Pw Ps Pr Py Pz QQ)) (E (E (100*bf (At Pb.toNat))*E (100*bf (At Pb.toNat))))))),D (mo (fG n5 (A aZ q) n7 (A bj f7) n9 (A bm f9) PS (A aV At) Pb Pw Ps Pr Py) (E (100*gK (E (E (1000*v8 H (A al G) R (A ao N) (A L Pf) (A cg Ph) Pb (aR (At Pb.toNat)) (bX (At Pb.toNat)) (cq (At Pb.toNat)) (bG (At Pb.toNat)) Pw Ps Pr Py (E (100*bf (At Pb.toNat))))*TI H (A al G) R (A ao N) O (aR (At Pb.toNat)) (bX (At Pb.toNat)) (bf (At Pb.toNat)) Pw Ps Pr Py Pz QQ)) (E (E (100*bf (At Pb.toNat))*E (100*bf (At Pb.toNat)))))))]))))))))))))))
theorem nf1:cV cX (aQ JJ J7 u0 akG [V.agg [V.sl H (A al G),V.sl R (A ao N),D O,V.sl n5 (A aZ q),V.sl n7 (A bj f7),V.sl n9 (A bm f9),V.sl PS (A aV At),V.sl Pi (A L Pf),V.sl Pm (A cg Ph)],D Pb,V.agg [D Pw,D Ps,D Pr,D Py],D Pz,D QQ]) (ybj H G R N O n5 q n7 f7 n9 f9 PS At Pi Pf Pm Ph Pb Pw Ps Pr Py Pz QQ):=bF
theorem af5 (H:Nat) (G:be) (R:Nat) (N:be) (O:Int) (n5:Nat) (q:be) (n7:Nat) (f7:be) (n9:Nat) (f9:be) (PS:Nat) (At:be) (Pi:Nat) (Pf:be) (Pm:Nat) (Ph:be) (Pb Pw Ps Pr Py Pz QQ:Int) (hp:(0<=Pb/\Pb<(Pi:Int))/\(0<=Pb/\Pb<(Pm:Int))/\(0<=Pb/\Pb<(PS:Int))/\(aC H (A al G)/\aC R (A ao N))/\(aC n5 (A aZ q)/\aC PS (A aV At))/\Hd (cq ((A aV At) Pb.toNat)) (bG ((A aV At) Pb.toNat))/\wk (aR ((A aV At) Pb.toNat)) (bX ((A aV At) Pb.toNat)) (bf ((A aV At) Pb.toNat)) Pw Ps Pr Py/\Hd Pz QQ):aU cN (ybj H G R N O n5 q n7 f7 n9 f9 PS At Pi Pf Pm Ph Pb Pw Ps Pr Py Pz QQ) (.agg [D (q7 H (A al G) R (A ao N) O n5 (A aZ q) n7 (A bj f7) n9 (A bm f9) PS (A aV At) (A L Pf) (A cg Ph) Pb (aR ((A aV At) Pb.toNat)) (bX ((A aV At) Pb.toNat)) (bf ((A aV At) Pb.toNat)) (cq ((A aV At) Pb.toNat)) (bG ((A aV At) Pb.toNat)) Pw Ps Pr Py Pz QQ),D (rf H (A al G) R (A ao N) O n5 (A aZ q) n7 (A bj f7) n9 (A bm f9) PS (A aV At) (A L Pf) (A cg Ph) Pb (aR ((A aV At) Pb.toNat)) (bX ((A aV At) Pb.toNat)) (bf ((A aV At) Pb.toNat)) (cq ((A aV At) Pb.toNat)) (bG ((A aV At) Pb.toNat)) Pw Ps Pr Py Pz QQ)]):=by obtain⟨h0,M,Q,hz,hr,hd,o,hv⟩:=hp;have hn:=au0 o.1.2.2;exact aF (AG Q) (aI ⟨h0,M,Q,hz,fn0 hd⟩ (ac (aI (fn0 hv) (ac (aI hz (ac (aI hn (ac (aI hn (ac (aI hr (ac (AF rfl)))))))))))))
def adF:aD:=bP [.agg [.sl al,.sl ao,tI,.sl aZ,.sl bj,.sl bm,.sl aV,.sl L,.sl cg],tI,.agg gP,tI,tI] (λ
 |[.agg [.sl H G,.sl R N,.int _ O,.sl n5 q,.sl n7 f7,.sl n9 f9,.sl PS At,.sl Pi Pf,.sl Pm Ph],.int _ Pb,.agg [.int _ Pw,.int _ Ps,.int _ Pr,.int _ Py],.int _ Pz,.int _ QQ]=>(0<=Pb/\Pb<(Pi:Int))/\(0<=Pb/\Pb<(Pm:Int))/\(0<=Pb/\Pb<(PS:Int))/\(aC H G/\aC R N)/\(aC n5 q/\aC PS At)/\Hd (cq (At Pb.toNat)) (bG (At Pb.toNat))/\wk (aR (At Pb.toNat)) (bX (At Pb.toNat)) (bf (At Pb.toNat)) Pw Ps Pr Py/\Hd Pz QQ|_=>False) λ
 |[.agg [.sl H G,.sl R N,.int _ O,.sl n5 q,.sl n7 f7,.sl n9 f9,.sl PS At,.sl Pi Pf,.sl Pm Ph],.int _ Pb,.agg [.int _ Pw,.int _ Ps,.int _ Pr,.int _ Py],.int _ Pz,.int _ QQ]=>.agg [D (q7 H G R N O n5 q n7 f7 n9 f9 PS At Pf Ph Pb (aR (At Pb.toNat)) (bX (At Pb.toNat)) (bf (At Pb.toNat)) (cq (At Pb.toNat)) (bG (At Pb.toNat)) Pw Ps Pr Py Pz QQ),D (rf H G R N O n5 q n7 f7 n9 f9 PS At Pf Ph Pb (aR (At Pb.toNat)) (bX (At Pb.toNat)) (bf (At Pb.toNat)) (cq (At Pb.toNat)) (bG (At Pb.toNat)) Pw Ps Pr Py Pz QQ)]|_=>.any
theorem amK:b7 adF 48:=aT Gn λ_ hp=>c7 (nf1 ..) (af5 _ _ _ _ _ _ _ _ _ _ _ _ _ _ _ _ _ _ _ _ _ _ _ _ hp)
end
noncomputable section
def xj:Prop:=(Pi=PS/\Pm=PS)/\(aC H G/\aC R N)/\(aC n5 q/\aC PS At)/\∀i,i<PS->N6 (At i)
def yx (a b c d:Int):Prop:=jV a/\jV b/\jV c/\jV d
def J2:bo:=J7
theorem fo2:ba Tryz.prog AQ AS J2:=Gn
theorem auK {e a b c d:Int} (h:eY e a b c d=0):e=0/\jb a b c d=true:=by
 unfold eY at h;cases M:e==0 with
 |false=>rw[M]at h;have h:e=0:=h;rw[h]at M;cases M
 |true=>
   rw[M]at h;cases Q:jb a b c d with
   |false=>rw[Q]at h;cases h|true=>exact⟨DU M,rfl⟩
def DC:bo:=(20,.con acI)::(48,.con adF)::J2
theorem Gx:ba Tryz.prog AQ AS DC:=.con ajF (.con amK (fo2))
def gF (At Pf Ph:be) (a b c d dx dy:Int):Nat->Int:=zW (UG Pf) λi=>q7 H G R N O n5 q n7 f7 n9 f9 PS At Pf Ph (i:Int) (aR (At i)) (bX (At i)) (bf (At i)) (cq (At i)) (bG (At i)) a b c d dx dy
def gC (At Pf Ph:be) (a b c d dx dy:Int):Nat->Int:=zW (UG Pf) λi=>rf H G R N O n5 q n7 f7 n9 f9 PS At Pf Ph (i:Int) (aR (At i)) (bX (At i)) (bf (At i)) (cq (At i)) (bG (At i)) a b c d dx dy
def acV:RT Empty:=dm RL (.obp (((0:Int)<=Pb/\Pb<(Pi:Int))/\((0:Int)<=Pb/\Pb<(Pm:Int))/\(aC H (A al G)/\aC R (A ao N))/\(aC n5 (A aZ q)/\aC PS (A aV At))/\Hd Pz QQ/\wk Ps Pr Py QY QZ Qa Qb/\Hd Qq RA) (.obt (.ret (V.agg [D (q7 H (A al G) R (A ao N) O n5 (A aZ q) n7 (A bj f7) n9 (A bm f9) PS (A aV At) (A L Pf) (A cg Ph) Pb Ps Pr Py Pz QQ QY QZ Qa Qb Qq RA),D (rf H (A al G) R (A ao N) O n5 (A aZ q) n7 (A bj f7) n9 (A bm f9) PS (A aV At) (A L Pf) (A cg Ph) Pb Ps Pr Py Pz QQ QY QZ Qa Qb Qq RA)]))))
theorem ov0:cV cX (aQ JJ DC u0 eqB [V.agg [V.sl H (A al G),V.sl R (A ao N),D O,V.sl n5 (A aZ q),V.sl n7 (A bj f7),V.sl n9 (A bm f9),V.sl PS (A aV At),V.sl Pi (A L Pf),V.sl Pm (A cg Ph),D Pb,V.str RL,D Ps,D Pr,D Py,D Pz,D QQ],V.pd [D QY,D QZ,D Qa,D Qb],V.pd [D Qq,D RA]]) (acV H G R N O n5 q n7 f7 n9 f9 PS At Pi Pf Pm Ph Pb RL Ps Pr Py Pz QQ QY QZ Qa Qb Qq RA):=bF
theorem alP (H:Nat) (G:be) (R:Nat) (N:be) (O:Int) (n5:Nat) (q:be) (n7:Nat) (f7:be) (n9:Nat) (f9:be) (PS:Nat) (At:be) (Pi:Nat) (Pf:be) (Pm:Nat) (Ph:be) (Pb:Int) (RL:ByteArray) (Ps Pr Py Pz QQ QY QZ Qa Qb Qq RA:Int) (hp:(0<=Pb/\Pb<(Pi:Int))/\(0<=Pb/\Pb<(Pm:Int))/\(aC H (A al G)/\aC R (A ao N))/\(aC n5 (A aZ q)/\aC PS (A aV At))/\Hd Pz QQ/\wk Ps Pr Py QY QZ Qa Qb/\Hd Qq RA):aU cN (acV H G R N O n5 q n7 f7 n9 f9 PS At Pi Pf Pm Ph Pb RL Ps Pr Py Pz QQ QY QZ Qa Qb Qq RA) (.agg [D (q7 H (A al G) R (A ao N) O n5 (A aZ q) n7 (A bj f7) n9 (A bm f9) PS (A aV At) (A L Pf) (A cg Ph) Pb Ps Pr Py Pz QQ QY QZ Qa Qb Qq RA),D (rf H (A al G) R (A ao N) O n5 (A aZ q) n7 (A bj f7) n9 (A bm f9) PS (A aV At) (A L Pf) (A cg Ph) Pb Ps Pr Py Pz QQ QY QZ Qa Qb Qq RA)]):=aI hp (ac (AF rfl))
def aeM:aD:=bP [.agg [.sl al,.sl ao,tI,.sl aZ,.sl bj,.sl bm,.sl aV,.sl L,.sl cg,tI,.str,tI,tI,tI,tI,tI],.pd gP,.pd aM] (λ
 |[.agg [.sl H G,.sl R N,.int _ O,.sl n5 q,.sl n7 f7,.sl n9 f9,.sl PS At,.sl Pi Pf,.sl Pm Ph,.int _ Pb,.str RL,.int _ Ps,.int _ Pr,.int _ Py,.int _ Pz,.int _ QQ],.pd [.int _ QY,.int _ QZ,.int _ Qa,.int _ Qb],.pd [.int _ Qq,.int _ RA]]=>(0<=Pb/\Pb<(Pi:Int))/\(0<=Pb/\Pb<(Pm:Int))/\(aC H G/\aC R N)/\(aC n5 q/\aC PS At)/\Hd Pz QQ/\wk Ps Pr Py QY QZ Qa Qb/\Hd Qq RA|_=>False) λ
 |[.agg [.sl H G,.sl R N,.int _ O,.sl n5 q,.sl n7 f7,.sl n9 f9,.sl PS At,.sl Pi Pf,.sl Pm Ph,.int _ Pb,.str RL,.int _ Ps,.int _ Pr,.int _ Py,.int _ Pz,.int _ QQ],.pd [.int _ QY,.int _ QZ,.int _ Qa,.int _ Qb],.pd [.int _ Qq,.int _ RA]]=>.agg [D (q7 H G R N O n5 q n7 f7 n9 f9 PS At Pf Ph Pb Ps Pr Py Pz QQ QY QZ Qa Qb Qq RA),D (rf H G R N O n5 q n7 f7 n9 f9 PS At Pf Ph Pb Ps Pr Py Pz QQ QY QZ Qa Qb Qq RA)]|_=>.any
theorem ajp:b7 aeM 19:=aT Gx λ_ hp=>c7 (ov0 ..) (alP _ _ _ _ _ _ _ _ _ _ _ _ _ _ _ _ _ _ _ _ _ _ _ _ _ _ _ _ _ _ hp)
inductive tV where|L0 (_ _ _:Int)
def aaf:tV->bT×List AD×Option Ex
 |.L0 PW QO Qr=>([(10,D PW),(9,V.pl 0 0),(8,V.pl 1 0),(5,V.pl 2 0),(4,V.pl 3 0),(0,V.agg [V.sl H (A al G),V.sl R (A ao N),D O,V.sl n5 (A aZ q),V.sl n7 (A bj f7),V.sl n9 (A bm f9),V.sl PS (A aV At),V.sl Pi (A L Pf),V.sl Pm (A cg Ph)]),(1,V.agg [D Pb,D Pw,D Ps,D Pr]),(2,D Py),(3,D Pz)],[AD.cells [D QO,D Qr] 39,AD.cells Au 39,AD.cells [D Pb,D Pw,D Ps,D Pr] 37,AD.cells [V.sl H (A al G),V.sl R (A ao N),D O,V.sl n5 (A aZ q),V.sl n7 (A bj f7),V.sl n9 (A bm f9),V.sl PS (A aV At),V.sl Pi (A L Pf),V.sl Pm (A cg Ph)] 35],none)
def akB:tV->JJ
 |.L0 ..=>(0,[])
def hcl:AN (cr JJ):=aQ JJ DC u0 afG [V.agg [V.sl H (A al G),V.sl R (A ao N),D O,V.sl n5 (A aZ q),V.sl n7 (A bj f7),V.sl n9 (A bm f9),V.sl PS (A aV At),V.sl Pi (A L Pf),V.sl Pm (A cg Ph)],V.agg [D Pb,D Pw,D Ps,D Pr],D Py,D Pz]
def aBv (cx:List Cx):Lp JJ:=eX (eC (hcl H G R N O n5 q n7 f7 n9 f9 PS At Pi Pf Pm Ph Pb Pw Ps Pr Py Pz) [])
def ah8:JJ->Lp JJ
 |(0,cx)=>aBv H G R N O n5 q n7 f7 n9 f9 PS At Pi Pf Pm Ph Pb Pw Ps Pr Py Pz cx|(_,cx)=>aBv H G R N O n5 q n7 f7 n9 f9 PS At Pi Pf Pm Ph Pb Pw Ps Pr Py Pz cx
def auC:LD JJ tV:=⟨akB,ah8 H G R N O n5 q n7 f7 n9 f9 PS At Pi Pf Pm Ph Pb Pw Ps Pr Py Pz,aaf H G R N O n5 q n7 f7 n9 f9 PS At Pi Pf Pm Ph Pb Pw Ps Pr Py Pz⟩
def Gs:tV->RT tV
 |.L0 PW QO Qr=>.am Pi (.br (decide (PW<(Pi:Int))) (.ob (dI PW Pi) (.br (decide (0<=aA (Pf PW.toNat))) (.obp (((0:Int)<=PW/\PW<(Pi:Int))/\((0:Int)<=PW/\PW<(Pm:Int))/\((0:Int)<=PW/\PW<(PS:Int))/\(aC H (A al G)/\aC R (A ao N))/\(aC n5 (A aZ q)/\aC PS (A aV At))/\Hd (cq (At PW.toNat)) (bG (At PW.toNat))/\wk (aR (At PW.toNat)) (bX (At PW.toNat)) (bf (At PW.toNat)) Pb Pw Ps Pr/\Hd Py Pz) (.obt (.next (iR 0 4 []) (tV.L0 (E (PW+1)) (E (QO+q7 H (A al G) R (A ao N) O n5 (A aZ q) n7 (A bj f7) n9 (A bm f9) PS (A aV At) (A L Pf) (A cg Ph) PW (aR (At PW.toNat)) (bX (At PW.toNat)) (bf (At PW.toNat)) (cq (At PW.toNat)) (bG (At PW.toNat)) Pb Pw Ps Pr Py Pz)) (E (Qr+rf H (A al G) R (A ao N) O n5 (A aZ q) n7 (A bj f7) n9 (A bm f9) PS (A aV At) (A L Pf) (A cg Ph) PW (aR (At PW.toNat)) (bX (At PW.toNat)) (bf (At PW.toNat)) (cq (At PW.toNat)) (bG (At PW.toNat)) Pb Pw Ps Pr Py Pz))) []))) (.next (iR 0 4 []) (tV.L0 (E (PW+1)) QO Qr) []))) (.ret (V.agg [D QO,D Qr])))
def abj:RT tV:=dm (H,G,R,N,O,n5,q,n7,f7,n9,f9,PS,At,Pi,Pf,Pm,Ph,Pb,Pw,Ps,Pr,Py,Pz) (.enter aw5 (tV.L0 0 0 0) [])
theorem yah:d0 DC u0 (auC H G R N O n5 q n7 f7 n9 f9 PS At Pi Pf Pm Ph Pb Pw Ps Pr Py Pz) (hcl H G R N O n5 q n7 f7 n9 f9 PS At Pi Pf Pm Ph Pb Pw Ps Pr Py Pz) (abj H G R N O n5 q n7 f7 n9 f9 PS At Pi Pf Pm Ph Pb Pw Ps Pr Py Pz) (Gs H G R N O n5 q n7 f7 n9 f9 PS At Pi Pf Pm Ph Pb Pw Ps Pr Py Pz):=⟨bF,λs=>by cases s<;>exact bF⟩
section
variable (hp:xj H (A al G) R (A ao N) n5 (A aZ q) PS (A aV At) Pi Pm/\yx Pb Pw Ps Pr/\Hd Py Pz)
include hp
theorem avb:∀ k,k<=Pi->Ev (Gs H G R N O n5 q n7 f7 n9 f9 PS At Pi Pf Pm Ph Pb Pw Ps Pr Py Pz) (.L0 (k:Int) (gF H (A al G) R (A ao N) O n5 (A aZ q) n7 (A bj f7) n9 (A bm f9) PS (A aV At) (A L Pf) (A cg Ph) Pb Pw Ps Pr Py Pz k) (gC H (A al G) R (A ao N) O n5 (A aZ q) n7 (A bj f7) n9 (A bm f9) PS (A aV At) (A L Pf) (A cg Ph) Pb Pw Ps Pr Py Pz k)) (.agg [D (gF H (A al G) R (A ao N) O n5 (A aZ q) n7 (A bj f7) n9 (A bm f9) PS (A aV At) (A L Pf) (A cg Ph) Pb Pw Ps Pr Py Pz Pi),D (gC H (A al G) R (A ao N) O n5 (A aZ q) n7 (A bj f7) n9 (A bm f9) PS (A aV At) (A L Pf) (A cg Ph) Pb Pw Ps Pr Py Pz Pi)]):=by
 obtain⟨⟨⟨M,Q⟩,hz,hr,hc⟩,hv⟩:=hp;refine dv λk hk ih=>Ev.of rfl ?_;refine bC λhn=>?_;by_cases Pj:k<Pi
 ·have hw:E ((k:Int)+1)=((k+1:Nat):Int):=by rw[AX K K];omega
  have ih:=ih Pj;rw[← hw]at ih;have c:=hc k K;refine cO (AG K) (aF (AG K) (AP (λh=>aI ⟨K,K,K,hz,hr,c.hd,⟨⟨c.px,c.py,c.ph⟩,hv.1⟩,hv.2⟩ (ac (aK ?_))) (λh=>aK ?_)))
  ·have h:UG (A L Pf) k=true:=h;unfold gF gC at ih;rw[ug h,ug h]at ih;exact ih
  ·have h:UG (A L Pf) k=false:=h;unfold gF gC at ih;rw[uF h,uF h]at ih;exact ih
 ·have e:k=Pi:=by omega
  refine cW (eM K) ?_;rw[e];exact AF rfl
theorem ane:aU (Ev (Gs H G R N O n5 q n7 f7 n9 f9 PS At Pi Pf Pm Ph Pb Pw Ps Pr Py Pz)) (abj H G R N O n5 q n7 f7 n9 f9 PS At Pi Pf Pm Ph Pb Pw Ps Pr Py Pz) (.agg [D (gF H (A al G) R (A ao N) O n5 (A aZ q) n7 (A bj f7) n9 (A bm f9) PS (A aV At) (A L Pf) (A cg Ph) Pb Pw Ps Pr Py Pz Pi),D (gC H (A al G) R (A ao N) O n5 (A aZ q) n7 (A bj f7) n9 (A bm f9) PS (A aV At) (A L Pf) (A cg Ph) Pb Pw Ps Pr Py Pz Pi)]):=aH (avb H G R N O n5 q n7 f7 n9 f9 PS At Pi Pf Pm Ph Pb Pw Ps Pr Py Pz hp 0 (Bc _))
end
def adQ:aD:=bP [.agg [.sl al,.sl ao,tI,.sl aZ,.sl bj,.sl bm,.sl aV,.sl L,.sl cg],.agg gP,tI,tI] (λ
 |[.agg [.sl H G,.sl R N,.int _ O,.sl n5 q,.sl n7 f7,.sl n9 f9,.sl PS At,.sl Pi Pf,.sl Pm Ph],.agg [.int _ Pb,.int _ Pw,.int _ Ps,.int _ Pr],.int _ Py,.int _ Pz]=>xj H G R N n5 q PS At Pi Pm/\yx Pb Pw Ps Pr/\Hd Py Pz|_=>False) λ
 |[.agg [.sl H G,.sl R N,.int _ O,.sl n5 q,.sl n7 f7,.sl n9 f9,.sl PS At,.sl Pi Pf,.sl Pm Ph],.agg [.int _ Pb,.int _ Pw,.int _ Ps,.int _ Pr],.int _ Py,.int _ Pz]=>.agg [D (gF H G R N O n5 q n7 f7 n9 f9 PS At Pf Ph Pb Pw Ps Pr Py Pz Pi),D (gC H G R N O n5 q n7 f7 n9 f9 PS At Pf Ph Pb Pw Ps Pr Py Pz Pi)]|_=>.any
theorem afu:b7 adQ 22:=aT Gx λ_ hp=>kt (yah ..) (ane _ _ _ _ _ _ _ _ _ _ _ _ _ _ _ _ _ _ _ _ _ _ _ hp)
def KG:bo:=(19,.con aeM)::(22,.con adQ)::DC
theorem hbs:ba Tryz.prog AQ AS KG:=.con ajp (.con afu (Gx))
inductive oI where|L0 (_:Int) (_:Nat) (_ _:Int)
def ib4:oI->bT×List AD×Option Ex
 |.L0 PW R1 Qr Rm=>([(8,D PW),(7,D (Pi:Int)),(6,V.sl Pi (A L Pf)),(5,V.pl 4 7),(0,V.yl R1),(1,V.pl 4 0)],[AD.cells [V.sl H (A al G),V.sl R (A ao N),D O,V.sl n5 (A aZ q),V.sl n7 (A bj f7),V.sl n9 (A bm f9),V.sl PS (A aV At),V.sl Pi (A L Pf),V.sl Pm (A cg Ph)] 35,AD.cells [V.fn 19 [] [V.pd [D Pb,D Pw,D Ps,D Pr],V.pd [D Py,D Pz]]] 56,AD.cells Au 39,AD.cells [D Qr,D Rm] 39,AD.cells [V.sl H (A al G),V.sl R (A ao N),D O,V.sl n5 (A aZ q),V.sl n7 (A bj f7),V.sl n9 (A bm f9),V.sl PS (A aV At),V.sl Pi (A L Pf),V.sl Pm (A cg Ph)] 35],none)
def m70:oI->JJ
 |.L0 _ R1 ..=>(0,[Cx.n R1])
def avn:AN (cr JJ):=aQ JJ KG u0 F8 [V.agg [V.sl H (A al G),V.sl R (A ao N),D O,V.sl n5 (A aZ q),V.sl n7 (A bj f7),V.sl n9 (A bm f9),V.sl PS (A aV At),V.sl Pi (A L Pf),V.sl Pm (A cg Ph)],V.fn 19 [] [V.pd [D Pb,D Pw,D Ps,D Pr],V.pd [D Py,D Pz]]]
def NuN (cx:List Cx):Lp JJ:=eX (eC (Ii (eC (avn H G R N O n5 q n7 f7 n9 f9 PS At Pi Pf Pm Ph Pb Pw Ps Pr Py Pz) []) (fX cx 0)) [])
def nh6:JJ->Lp JJ
 |(0,cx)=>NuN H G R N O n5 q n7 f7 n9 f9 PS At Pi Pf Pm Ph Pb Pw Ps Pr Py Pz cx|(_,cx)=>NuN H G R N O n5 q n7 f7 n9 f9 PS At Pi Pf Pm Ph Pb Pw Ps Pr Py Pz cx
def als:LD JJ oI:=⟨m70,nh6 H G R N O n5 q n7 f7 n9 f9 PS At Pi Pf Pm Ph Pb Pw Ps Pr Py Pz,ib4 H G R N O n5 q n7 f7 n9 f9 PS At Pi Pf Pm Ph Pb Pw Ps Pr Py Pz⟩
def Bn:oI->RT oI
 |.L0 PW R1 Qr Rm=>.br (decide (PW<(Pi:Int))) (.ob (dI PW Pi) (.iv (.obj (decide (0<=aA (Pf PW.toNat))) (dI PW PS) (.iv (.br (decide (0<=aA (Pf PW.toNat))) (.ob (decide (0<=aA (Pf PW.toNat))) (.ob (decide (0<=aA (Pf PW.toNat))) (.obp (((0:Int)<=PW/\PW<(Pi:Int))/\((0:Int)<=PW/\PW<(Pm:Int))/\(aC H (A al G)/\aC R (A ao N))/\(aC n5 (A aZ q)/\aC PS (A aV At))/\Hd (cq (At PW.toNat)) (bG (At PW.toNat))/\wk (aR (At PW.toNat)) (bX (At PW.toNat)) (bf (At PW.toNat)) Pb Pw Ps Pr/\Hd Py Pz) (.obt (.next (iR 0 5 []) (oI.L0 (E (PW+1)) R1 (E (Qr+q7 H (A al G) R (A ao N) O n5 (A aZ q) n7 (A bj f7) n9 (A bm f9) PS (A aV At) (A L Pf) (A cg Ph) PW (aR (At PW.toNat)) (bX (At PW.toNat)) (bf (At PW.toNat)) (cq (At PW.toNat)) (bG (At PW.toNat)) Pb Pw Ps Pr Py Pz)) (E (Rm+rf H (A al G) R (A ao N) O n5 (A aZ q) n7 (A bj f7) n9 (A bm f9) PS (A aV At) (A L Pf) (A cg Ph) PW (aR (At PW.toNat)) (bX (At PW.toNat)) (bf (At PW.toNat)) (cq (At PW.toNat)) (bG (At PW.toNat)) Pb Pw Ps Pr Py Pz))) []))))) (.next (iR 0 5 []) (oI.L0 (E (PW+1)) R1 Qr Rm) [])))))) (.ret (V.agg [D Qr,D Rm]))
def f13:RT oI:=dm (H,G,R,N,O,n5,q,n7,f7,n9,f9,PS,At,Pf,Pm,Ph,Pb,Pw,Ps,Pr,Py,Pz) (.all (λl_8642=>.am Pi (.enter (iR 0 5 []) (oI.L0 0 (l_8642) 0 0) [])))
theorem i10:d0 KG u0 (als H G R N O n5 q n7 f7 n9 f9 PS At Pi Pf Pm Ph Pb Pw Ps Pr Py Pz) (avn H G R N O n5 q n7 f7 n9 f9 PS At Pi Pf Pm Ph Pb Pw Ps Pr Py Pz) (f13 H G R N O n5 q n7 f7 n9 f9 PS At Pi Pf Pm Ph Pb Pw Ps Pr Py Pz) (Bn H G R N O n5 q n7 f7 n9 f9 PS At Pi Pf Pm Ph Pb Pw Ps Pr Py Pz):=⟨bF,λs=>by cases s<;>exact bF⟩
theorem ais (hn:Pi<=9223372036854775807) (l:Nat) (hp:xj H (A al G) R (A ao N) n5 (A aZ q) PS (A aV At) Pi Pm/\yx Pb Pw Ps Pr/\Hd Py Pz):∀ k,k<=Pi->Ev (Bn H G R N O n5 q n7 f7 n9 f9 PS At Pi Pf Pm Ph Pb Pw Ps Pr Py Pz) (.L0 (k:Int) l (gF H (A al G) R (A ao N) O n5 (A aZ q) n7 (A bj f7) n9 (A bm f9) PS (A aV At) (A L Pf) (A cg Ph) Pb Pw Ps Pr Py Pz k) (gC H (A al G) R (A ao N) O n5 (A aZ q) n7 (A bj f7) n9 (A bm f9) PS (A aV At) (A L Pf) (A cg Ph) Pb Pw Ps Pr Py Pz k)) (.agg [D (gF H (A al G) R (A ao N) O n5 (A aZ q) n7 (A bj f7) n9 (A bm f9) PS (A aV At) (A L Pf) (A cg Ph) Pb Pw Ps Pr Py Pz Pi),D (gC H (A al G) R (A ao N) O n5 (A aZ q) n7 (A bj f7) n9 (A bm f9) PS (A aV At) (A L Pf) (A cg Ph) Pb Pw Ps Pr Py Pz Pi)]):=by
 obtain⟨⟨⟨M,Q⟩,hz,hr,hc⟩,hv⟩:=hp;refine dv λk hk ih=>Ev.of rfl ?_
 skip
 by_cases Pj:k<Pi
 ·have hw:E ((k:Int)+1)=((k+1:Nat):Int):=by rw[AX K K];omega
  have ih:=ih Pj;rw[← hw]at ih;have c:=hc k K;refine cO (AG K) (aF (AG K) (AE (AE (AE (AE (Ba (λ_=>AG K) (AE (AE (AE (AE (AP (λh=>aF h (aF h (aI ⟨K,K,hz,hr,c.hd,⟨⟨c.px,c.py,c.ph⟩,hv.1⟩,hv.2⟩ (ac (aK ?_))))) (λh=>aK ?_))))))))))))
  ·have h:UG (A L Pf) k=true:=h;unfold gF gC at ih;rw[ug h,ug h]at ih;exact ih
  ·have h:UG (A L Pf) k=false:=h;unfold gF gC at ih;rw[uF h,uF h]at ih;exact ih
 ·have e:k=Pi:=by omega
  refine cW (eM K) ?_;rw[e];exact AF rfl
theorem nn3 (hp:xj H (A al G) R (A ao N) n5 (A aZ q) PS (A aV At) Pi Pm/\yx Pb Pw Ps Pr/\Hd Py Pz):aU (Ev (Bn H G R N O n5 q n7 f7 n9 f9 PS At Pi Pf Pm Ph Pb Pw Ps Pr Py Pz)) (f13 H G R N O n5 q n7 f7 n9 f9 PS At Pi Pf Pm Ph Pb Pw Ps Pr Py Pz) (.agg [D (gF H (A al G) R (A ao N) O n5 (A aZ q) n7 (A bj f7) n9 (A bm f9) PS (A aV At) (A L Pf) (A cg Ph) Pb Pw Ps Pr Py Pz Pi),D (gC H (A al G) R (A ao N) O n5 (A aZ q) n7 (A bj f7) n9 (A bm f9) PS (A aV At) (A L Pf) (A cg Ph) Pb Pw Ps Pr Py Pz Pi)]):=Ar λl=>bC λhn=>aH (ais H G R N O n5 q n7 f7 n9 f9 PS At Pi Pf Pm Ph Pb Pw Ps Pr Py Pz hn l hp 0 (Bc _))
def fn2:aD:=bP [.agg [.sl al,.sl ao,tI,.sl aZ,.sl bj,.sl bm,.sl aV,.sl L,.sl cg],.fn 19 [] [.pd gP,.pd aM]] (λ
 |[.agg [.sl H G,.sl R N,.int _ O,.sl n5 q,.sl n7 f7,.sl n9 f9,.sl PS At,.sl Pi Pf,.sl Pm Ph],.fn _ [] [.pd [.int _ Pb,.int _ Pw,.int _ Ps,.int _ Pr],.pd [.int _ Py,.int _ Pz]]]=>xj H G R N n5 q PS At Pi Pm/\yx Pb Pw Ps Pr/\Hd Py Pz|_=>False) λ
 |[.agg [.sl H G,.sl R N,.int _ O,.sl n5 q,.sl n7 f7,.sl n9 f9,.sl PS At,.sl Pi Pf,.sl Pm Ph],.fn _ [] [.pd [.int _ Pb,.int _ Pw,.int _ Ps,.int _ Pr],.pd [.int _ Py,.int _ Pz]]]=>.agg [D (gF H G R N O n5 q n7 f7 n9 f9 PS At Pf Ph Pb Pw Ps Pr Py Pz Pi),D (gC H G R N O n5 q n7 f7 n9 f9 PS At Pf Ph Pb Pw Ps Pr Py Pz Pi)]|_=>.any
theorem jf1:b7 fn2 12:=aT hbs λ_ hp=>kt (i10 ..) (nn3 _ _ _ _ _ _ _ _ _ _ _ _ _ _ _ _ _ _ _ _ _ _ _ hp)
theorem avj {e a b c d:Int} (h:e≠0):eY e a b c d=e:=by unfold eY;rw[show(e==0)=false from by simpa using h];rfl
theorem aor {a b c d:Int} (h:jb a b c d=false):eY 0 a b c d=7:=by unfold eY;rw[h];rfl
theorem aqP {a b c d:Int} (h:jb a b c d=true):eY 0 a b c d=0:=by unfold eY;rw[h];rfl
def Jh:bo:=(12,.con fn2)::KG
theorem FN:ba Tryz.prog AQ AS Jh:=.con jf1 (hbs)
def rb (p dx dy O:Int):Int:=bif p==0 then bif !iw dx dy then 2 else bif decide (O<0) then 4 else 0 else p
theorem RQ {p dx dy O:Int} (h:p≠0):rb p dx dy O=p:=by unfold rb;rw[show(p==0)=false from by simpa using h];rfl
theorem abF {dx dy O:Int} (h:iw dx dy=false):rb 0 dx dy O=2:=by unfold rb;rw[h];rfl
theorem aem {dx dy O:Int} (h:iw dx dy=true) (k:decide (O<0)=true):rb 0 dx dy O=4:=by unfold rb;rw[h,k];rfl
theorem ab1 {dx dy O:Int} (h:iw dx dy=true) (k:decide (O<0)=false):rb 0 dx dy O=0:=by unfold rb;rw[h,k];rfl
def abM:RT Empty:=.obp (aC H (A al G)/\aC R (A ao N)/\aC n5 (A aZ q)/\aC PS (A aV At)) (.obt (.br (ju H (A al G) R (A ao N) O n5 (A aZ q) n7 (A bj f7) n9 (A bm f9) PS (A aV At) Pi (A L Pf) Pm (A cg Ph)!=0) (.ret (V.tup [V.agg Au,D (ju H (A al G) R (A ao N) O n5 (A aZ q) n7 (A bj f7) n9 (A bm f9) PS (A aV At) Pi (A L Pf) Pm (A cg Ph))])) (.cb (.br (!jb Pb Pw Ps Pr) (.ret (V.tup [V.agg Au,D 7])) (.cb (.br (!qe Py Pz) (.ret (V.tup [V.agg Au,D 2])) (.br (decide (O<0)) (.ret (V.tup [V.agg Au,D 4])) (.obp (xj H (A al G) R (A ao N) n5 (A aZ q) PS (A aV At) Pi Pm/\yx Pb Pw Ps Pr/\Hd Py Pz) (.obt (.ret (V.tup [V.agg [D (gF H (A al G) R (A ao N) O n5 (A aZ q) n7 (A bj f7) n9 (A bm f9) PS (A aV At) (A L Pf) (A cg Ph) Pb Pw Ps Pr Py Pz Pi),D (gC H (A al G) R (A ao N) O n5 (A aZ q) n7 (A bj f7) n9 (A bm f9) PS (A aV At) (A L Pf) (A cg Ph) Pb Pw Ps Pr Py Pz Pi)],D 0])))))))))))
theorem tbN:cV cX (aQ JJ Jh u0 hbl [V.agg [V.sl H (A al G),V.sl R (A ao N),D O,V.sl n5 (A aZ q),V.sl n7 (A bj f7),V.sl n9 (A bm f9),V.sl PS (A aV At),V.sl Pi (A L Pf),V.sl Pm (A cg Ph)],V.agg [D Pb,D Pw,D Ps,D Pr],D Py,D Pz]) (abM H G R N O n5 q n7 f7 n9 f9 PS At Pi Pf Pm Ph Pb Pw Ps Pr Py Pz):=bF
theorem ajx (hp:aC H (A al G)/\aC R (A ao N)/\aC n5 (A aZ q)/\aC PS (A aV At)):aU cN (abM H G R N O n5 q n7 f7 n9 f9 PS At Pi Pf Pm Ph Pb Pw Ps Pr Py Pz) (.tup [.agg [D (zJ (rb (eY (ju H (A al G) R (A ao N) O n5 (A aZ q) n7 (A bj f7) n9 (A bm f9) PS (A aV At) Pi (A L Pf) Pm (A cg Ph)) Pb Pw Ps Pr) Py Pz O) (gF H (A al G) R (A ao N) O n5 (A aZ q) n7 (A bj f7) n9 (A bm f9) PS (A aV At) (A L Pf) (A cg Ph) Pb Pw Ps Pr Py Pz Pi)),D (zJ (rb (eY (ju H (A al G) R (A ao N) O n5 (A aZ q) n7 (A bj f7) n9 (A bm f9) PS (A aV At) Pi (A L Pf) Pm (A cg Ph)) Pb Pw Ps Pr) Py Pz O) (gC H (A al G) R (A ao N) O n5 (A aZ q) n7 (A bj f7) n9 (A bm f9) PS (A aV At) (A L Pf) (A cg Ph) Pb Pw Ps Pr Py Pz Pi))],D (rb (eY (ju H (A al G) R (A ao N) O n5 (A aZ q) n7 (A bj f7) n9 (A bm f9) PS (A aV At) Pi (A L Pf) Pm (A cg Ph)) Pb Pw Ps Pr) Py Pz O)]):=by refine aI hp (ac (AP (λh=>AF (rP (by rw[avj (xE h)];exact RQ (xE h)) (xE h))) (λh=>?_)));have h0:(ju H (A al G) R (A ao N) O n5 (A aZ q) n7 (A bj f7) n9 (A bm f9) PS (A aV At) Pi (A L Pf) Pm (A cg Ph))=0:=pU h;have Ua:=abn h0;rw[h0,qlo];refine AM (ac (AP (λM=>AF (rP (by rw[aor (GU M)];exact RQ aO) aO)) (λM=>?_)));rw[aqP (Ck M)];exact AM (ac (AP (λQ=>AF (rP (abF (GU Q)) aO)) (λQ=>AP (λh3=>AF (rP (aem (Ck Q) h3) aO)) (λh3=>aI ⟨⟨⟨Ua.ll,Ua.lu⟩,⟨hp.1,hp.2.1⟩,⟨hp.2.2.1,hp.2.2.2⟩,Ua.cl⟩,aup (Ck M),aoL (Ck Q)⟩ (ac (AF (abw (ab1 (Ck Q) h3))))))))
def ac0:aD:=bP [.agg [.sl al,.sl ao,tI,.sl aZ,.sl bj,.sl bm,.sl aV,.sl L,.sl cg],.agg gP,tI,tI] (λ
 |[.agg [.sl H G,.sl R N,.int _ O,.sl n5 q,.sl n7 f7,.sl n9 f9,.sl PS At,.sl Pi Pf,.sl Pm Ph],.agg [.int _ Pb,.int _ Pw,.int _ Ps,.int _ Pr],.int _ Py,.int _ Pz]=>aC H G/\aC R N/\aC n5 q/\aC PS At|_=>False) λ
 |[.agg [.sl H G,.sl R N,.int _ O,.sl n5 q,.sl n7 f7,.sl n9 f9,.sl PS At,.sl Pi Pf,.sl Pm Ph],.agg [.int _ Pb,.int _ Pw,.int _ Ps,.int _ Pr],.int _ Py,.int _ Pz]=>.tup [.agg [D (zJ (rb (eY (ju H G R N O n5 q n7 f7 n9 f9 PS At Pi Pf Pm Ph) Pb Pw Ps Pr) Py Pz O) (gF H G R N O n5 q n7 f7 n9 f9 PS At Pf Ph Pb Pw Ps Pr Py Pz Pi)),D (zJ (rb (eY (ju H G R N O n5 q n7 f7 n9 f9 PS At Pi Pf Pm Ph) Pb Pw Ps Pr) Py Pz O) (gC H G R N O n5 q n7 f7 n9 f9 PS At Pf Ph Pb Pw Ps Pr Py Pz Pi))],D (rb (eY (ju H G R N O n5 q n7 f7 n9 f9 PS At Pi Pf Pm Ph) Pb Pw Ps Pr) Py Pz O)]|_=>.any
theorem alk:b7 ac0 8:=aT FN λ_ hp=>c7 (tbN ..) (ajx _ _ _ _ _ _ _ _ _ _ _ _ _ _ _ _ _ _ _ _ _ _ _ hp)
def aeI:RT Empty:=.obp (aC H (A al G)/\aC R (A ao N)/\aC n5 (A aZ q)/\aC PS (A aV At)) (.obt (.br (eY (ju H (A al G) R (A ao N) O n5 (A aZ q) n7 (A bj f7) n9 (A bm f9) PS (A aV At) Pi (A L Pf) Pm (A cg Ph)) Pb Pw Ps Pr==0) (.ob (eY (ju H (A al G) R (A ao N) O n5 (A aZ q) n7 (A bj f7) n9 (A bm f9) PS (A aV At) Pi (A L Pf) Pm (A cg Ph)) Pb Pw Ps Pr==0) (.ob (eY (ju H (A al G) R (A ao N) O n5 (A aZ q) n7 (A bj f7) n9 (A bm f9) PS (A aV At) Pi (A L Pf) Pm (A cg Ph)) Pb Pw Ps Pr==0) (.cb (.br (!iw Py Pz) (.ii (.obi (.brf (.brt (.ret (V.tup [V.agg Au,D 2])))))) (.ii (.obi (.br (bif eY (ju H (A al G) R (A ao N) O n5 (A aZ q) n7 (A bj f7) n9 (A bm f9) PS (A aV At) Pi (A L Pf) Pm (A cg Ph)) Pb Pw Ps Pr==0 then decide (O<0) else false) (.brt (.ret (V.tup [V.agg Au,D 4]))) (.br (eY (ju H (A al G) R (A ao N) O n5 (A aZ q) n7 (A bj f7) n9 (A bm f9) PS (A aV At) Pi (A L Pf) Pm (A cg Ph)) Pb Pw Ps Pr !=0) (.ret (V.tup [V.agg Au,D (eY (ju H (A al G) R (A ao N) O n5 (A aZ q) n7 (A bj f7) n9 (A bm f9) PS (A aV At) Pi (A L Pf) Pm (A cg Ph)) Pb Pw Ps Pr)])) (.obp (xj H (A al G) R (A ao N) n5 (A aZ q) PS (A aV At) Pi Pm/\yx Pb Pw Ps Pr/\Hd Py Pz) (.obt (.ret (V.tup [V.agg [D (gF H (A al G) R (A ao N) O n5 (A aZ q) n7 (A bj f7) n9 (A bm f9) PS (A aV At) (A L Pf) (A cg Ph) Pb Pw Ps Pr Py Pz Pi),D (gC H (A al G) R (A ao N) O n5 (A aZ q) n7 (A bj f7) n9 (A bm f9) PS (A aV At) (A L Pf) (A cg Ph) Pb Pw Ps Pr Py Pz Pi)],D 0])))))))))))) (.ii (.obi (.br (bif eY (ju H (A al G) R (A ao N) O n5 (A aZ q) n7 (A bj f7) n9 (A bm f9) PS (A aV At) Pi (A L Pf) Pm (A cg Ph)) Pb Pw Ps Pr==0 then decide (O<0) else false) (.brt (.ret (V.tup [V.agg Au,D 4]))) (.br (eY (ju H (A al G) R (A ao N) O n5 (A aZ q) n7 (A bj f7) n9 (A bm f9) PS (A aV At) Pi (A L Pf) Pm (A cg Ph)) Pb Pw Ps Pr !=0) (.ret (V.tup [V.agg Au,D (eY (ju H (A al G) R (A ao N) O n5 (A aZ q) n7 (A bj f7) n9 (A bm f9) PS (A aV At) Pi (A L Pf) Pm (A cg Ph)) Pb Pw Ps Pr)])) (.obp (xj H (A al G) R (A ao N) n5 (A aZ q) PS (A aV At) Pi Pm/\yx Pb Pw Ps Pr/\Hd Py Pz) (.obt (.ret (V.tup [V.agg [D (gF H (A al G) R (A ao N) O n5 (A aZ q) n7 (A bj f7) n9 (A bm f9) PS (A aV At) (A L Pf) (A cg Ph) Pb Pw Ps Pr Py Pz Pi),D (gC H (A al G) R (A ao N) O n5 (A aZ q) n7 (A bj f7) n9 (A bm f9) PS (A aV At) (A L Pf) (A cg Ph) Pb Pw Ps Pr Py Pz Pi)],D 0]))))))))))
theorem aad:cV cX (aQ JJ Jh u0 anP [V.agg [V.sl H (A al G),V.sl R (A ao N),D O,V.sl n5 (A aZ q),V.sl n7 (A bj f7),V.sl n9 (A bm f9),V.sl PS (A aV At),V.sl Pi (A L Pf),V.sl Pm (A cg Ph)],V.agg [D Pb,D Pw,D Ps,D Pr],D Py,D Pz]) (aeI H G R N O n5 q n7 f7 n9 f9 PS At Pi Pf Pm Ph Pb Pw Ps Pr Py Pz):=bF
theorem am4 (hp:aC H (A al G)/\aC R (A ao N)/\aC n5 (A aZ q)/\aC PS (A aV At)):aU cN (aeI H G R N O n5 q n7 f7 n9 f9 PS At Pi Pf Pm Ph Pb Pw Ps Pr Py Pz) (.tup [.agg [D (zJ (rb (eY (ju H (A al G) R (A ao N) O n5 (A aZ q) n7 (A bj f7) n9 (A bm f9) PS (A aV At) Pi (A L Pf) Pm (A cg Ph)) Pb Pw Ps Pr) Py Pz O) (gF H (A al G) R (A ao N) O n5 (A aZ q) n7 (A bj f7) n9 (A bm f9) PS (A aV At) (A L Pf) (A cg Ph) Pb Pw Ps Pr Py Pz Pi)),D (zJ (rb (eY (ju H (A al G) R (A ao N) O n5 (A aZ q) n7 (A bj f7) n9 (A bm f9) PS (A aV At) Pi (A L Pf) Pm (A cg Ph)) Pb Pw Ps Pr) Py Pz O) (gC H (A al G) R (A ao N) O n5 (A aZ q) n7 (A bj f7) n9 (A bm f9) PS (A aV At) (A L Pf) (A cg Ph) Pb Pw Ps Pr Py Pz Pi))],D (rb (eY (ju H (A al G) R (A ao N) O n5 (A aZ q) n7 (A bj f7) n9 (A bm f9) PS (A aV At) Pi (A L Pf) Pm (A cg Ph)) Pb Pw Ps Pr) Py Pz O)]):=by
 refine aI hp (ac (AP (λh=>?_) (λh=>?_)))
 ·have h0:(eY (ju H (A al G) R (A ao N) O n5 (A aZ q) n7 (A bj f7) n9 (A bm f9) PS (A aV At) Pi (A L Pf) Pm (A cg Ph)) Pb Pw Ps Pr)=0:=DU h;have k:=auK h0;have Ua:=abn k.1;rw[h0];exact aF rfl (aF rfl (AM (ac (AP (λQ=>AE (AE (AE (gQ (dX (AF (rP (abF (GU Q)) aO))))))) (λQ=>AE (AE (AE (AP (λh3=>dX (AF (rP (aem (Ck Q) h3) aO))) (λh3=>AP (λh4=>absurd h4 aO) (λ_=>aI ⟨⟨⟨Ua.ll,Ua.lu⟩,⟨hp.1,hp.2.1⟩,⟨hp.2.2.1,hp.2.2.2⟩,Ua.cl⟩,aup k.2,aoL (Ck Q)⟩ (ac (AF (abw (ab1 (Ck Q) h3))))))))))))))
 ·exact AE (AE (AE (AP (λh3=>by rw[h]at h3;cases h3) (λ_=>AP (λh4=>AF (rP (RQ (xE h4)) (xE h4))) (λh4=>absurd (pU h4) (Nv h))))))
def acx:aD:=bP [.agg [.sl al,.sl ao,tI,.sl aZ,.sl bj,.sl bm,.sl aV,.sl L,.sl cg],.agg gP,tI,tI] (λ
 |[.agg [.sl H G,.sl R N,.int _ O,.sl n5 q,.sl n7 f7,.sl n9 f9,.sl PS At,.sl Pi Pf,.sl Pm Ph],.agg [.int _ Pb,.int _ Pw,.int _ Ps,.int _ Pr],.int _ Py,.int _ Pz]=>aC H G/\aC R N/\aC n5 q/\aC PS At|_=>False) λ
 |[.agg [.sl H G,.sl R N,.int _ O,.sl n5 q,.sl n7 f7,.sl n9 f9,.sl PS At,.sl Pi Pf,.sl Pm Ph],.agg [.int _ Pb,.int _ Pw,.int _ Ps,.int _ Pr],.int _ Py,.int _ Pz]=>.tup [.agg [D (zJ (rb (eY (ju H G R N O n5 q n7 f7 n9 f9 PS At Pi Pf Pm Ph) Pb Pw Ps Pr) Py Pz O) (gF H G R N O n5 q n7 f7 n9 f9 PS At Pf Ph Pb Pw Ps Pr Py Pz Pi)),D (zJ (rb (eY (ju H G R N O n5 q n7 f7 n9 f9 PS At Pi Pf Pm Ph) Pb Pw Ps Pr) Py Pz O) (gC H G R N O n5 q n7 f7 n9 f9 PS At Pf Ph Pb Pw Ps Pr Py Pz Pi))],D (rb (eY (ju H G R N O n5 q n7 f7 n9 f9 PS At Pi Pf Pm Ph) Pb Pw Ps Pr) Py Pz O)]|_=>.any
theorem afR:b7 acx 9:=aT FN λ_ hp=>c7 (aad ..) (am4 _ _ _ _ _ _ _ _ _ _ _ _ _ _ _ _ _ _ _ _ _ _ _ hp)
def awH (ts:List Ty) (raw:List V) (r:V):aD:=bP ts (λds=>ds=lQ ts (ap ts raw)) λ_=>r
theorem aae {P:Program} {AQ:List TypeId} {AS:List jc} {ct:bo} {f:FuncId} {fn:Func} {sf:aJ} {un:l7} {ts:List Ty} {raw:List V} {r:V} (hT:ba P AQ AS ct) (hE:∀ t∈AQ,dL P t) (hI:mD P AQ AS) (hf:P.funcs[f]? = some fn)
 (hn : (fn.name == "runtime.NumGoroutine") = false) (hc : eS P AQ AS fn = some sf) (hd : gp sf.ntmps sf.body = true) (ho : gS ts = true)
 (h:rM r (aQ JJ ct un sf (lQ ts (ap ts raw)))=aQ JJ ct un sf (lQ ts (ap ts raw))):(vP (gO [(ap ts raw,r)])).Ok P f :=
 BY (C:=awH ts raw r) (G3 (J:=JJ) (un:=un) hT hE hI hf hn hc hd ho λw0 ds hp=>by rw[hp];exact zG h) _ (Wt (Ke rfl rfl) VO)
theorem R65 {ts:List Ty} {pre:List V->Prop} {preB:List V->Bool} {r:List V->V} (h:∀ ds,preB ds=true->pre ds) {ds:List V} {d p r'} (hc:sj ts preB r ds=some (d,p,r')):∃ PX,bP ts pre r ds=some (d,PX,r')/\PX:=by
 unfold sj at hc;cases hb:preB (lQ ts ds) with
 |false=>rw[hb]at hc;cases hc
 |true=>rw[hb]at hc;simp only[cond_true,Ak,Prod.mk.injEq]at hc;obtain⟨rfl,rfl,rfl⟩:=hc;exact⟨_,rfl,h _ hb⟩
theorem i22 {P:Program} {f:FuncId} {ts:List Ty} {pre:List V->Prop} {preB:List V->Bool} {r:List V->V} (h:∀ds,preB ds=true->pre ds) (hO:(vZ (bP ts pre r)).Ok P f):(vZ (sj ts preB r)).Ok P f:=by refine⟨λB m lh w args vs PR hrel hargs ⟨ds,d,p,r',X,M,hX,Q,h3,h5,h6⟩=>?_,λ_ _ _ _ _ hk ⟨ds,d,p,r,X,M,Q,h3,h4,h5,h6⟩=>⟨ds,d,p,r,X,M,Q,h3,h4,h5,λx new hx=>hk _ _ (h6 x new hx)⟩,λ_ _ _ _ ⟨_,_,_,_,_,_,_,_,_,⟨x,new,hx⟩,h6⟩=>h6 x new hx⟩;obtain⟨PX,e,hq⟩:=R65 h Q;exact hO.sound B m lh w args vs PR hrel hargs ⟨ds,d,PX,r',X,M,hX,e,⟨h3.1,hq⟩,h5,h6⟩
def HE:List V->Bool
 |[.agg [.str _,.sl n1 _,.sl n3 _,.sl _ _,.int _ _,.int _ _],.int _ _]=>Nat.ble n1 1000&&Nat.ble n3 1000|_=>false
theorem R54 (ds:List V) (h:HE ds=true):aaL ds:=by
 unfold HE at h;split at h
 ·simp only[Ae]at h;exact⟨Bf h.1,Bf h.2⟩
 ·cases h
def Hq:aD:=sj B6 HE Q3
theorem ic13:(vZ Hq).Ok Tryz.prog 65:=i22 R54 hf'
theorem hy0:∀ds d p r,Hq ds=some (d,p,r)->d.1=d.2->p->∀w0 lh args,bK w0 lh Nu.nil ds args->∃x new,vr w0 (lh++new) Nu.nil r x:=λds d p r h M _=>by obtain⟨PX,e,hq⟩:=R65 R54 h;exact awp ds d PX r e M hq
def eZ (QG B:aD):aD:=JI (λds=>(QG ds).isSome) QG B
theorem bL {P:Program} {f:FuncId} {QG B:aD} (hA:(vP QG).Ok P f) (hB:(vP B).Ok P f):(vP (eZ QG B)).Ok P f:=HD _ _ _ hA hB
theorem dH {ct:bo} {f:FuncId} {fn:Func} {sf:aJ} {ts:List Ty} {raw:List V} {r:V} (hT:ba Tryz.prog AQ AS ct) (hf:Tryz.prog.funcs[f]? = some fn) (hk:JE fn sf ts=(false,some sf,true,true)) (h:rM r (aQ JJ ct uB sf (lQ ts (ap ts raw)))=aQ JJ ct uB sf (lQ ts (ap ts raw))):(vP (gO [(ap ts raw,r)])).Ok Tryz.prog f:=aae hT hE hI hf (fw hk).1 (fw hk).2.1 (fw hk).2.2.1 (fw hk).2.2.2 h
def fu1:bo:=Jh
theorem ny5:ba Tryz.prog AQ AS fu1:=FN
def aod:V:=.sl 2 λ|0=>[D 0]|_=>[D 100]
def aqA:V:=.sl 2 λ|0=>[D 100]|_=>[D 300]
def aoS:V:=.sl 2 λ|0=>[D 200]|_=>[D 600]
def ab8:V:=.sl 2 λ|0=>[D 700]|_=>[D 700]
def Qf:V:=.str ⟨#[97,115,112,104,97,108,116]⟩
def TH:V:=.sl 2 λ|0=>[D (-1000)]|_=>[D 1000]
def AR:V:=.sl 2 λ|0=>[D (-5000)]|_=>[D 5000]
def LM:V:=.sl 2 λ|0=>[D (-8000000)]|_=>[D 8000000]
def avi:V:=.sl 1 λ_=>Ir
def Dp:V:=.sl 2 λ|0=>[D (-40000000)]|_=>[D 40000000]
def Hl:V:=.sl 3 λ|0=>[D (-1000)]|1=>[D 0]|_=>[D 2000]
def zq:V:=.sl 3 λ|0=>[D (-8000000)]|1=>[D 0]|_=>[D 16000000]
def BL:V:=.agg [D (-4000),D (-4000),D 0,D 0]
def BA:V:=.agg [D (-4000),D 0,D (-4000),D 0]
def Bj:V:=.agg [D (-4000),D 4000,D 0,D 8000]
def Cu:V:=.agg [D (-4000),D 0,D 4000,D 8000]
def GM:V:=.agg [.str ⟨#[99]⟩,D 0,D 0,D 80,D 0,D 1]
def hdr:V:=.sl 1 λ_=>[.str ⟨#[99]⟩,D 0,D 0,D 80,D 0,D 1]
def Ga:V:=.sl 2 λ|0=>[ab8]|_=>[ab8]
def ajZ:V:=.sl 3 λ|0=>Au|1=>[D 10000,D 0]|_=>[D 10000,D 10000]
def Hj:V:=.sl 3 λ|0=>[aqA]|1=>[aoS]|_=>[aod]
def hc':V:=.sl 1 λ_=>[.str ⟨#[104,105,103,104]⟩,D 0,ajZ,D 4000]
def xd:V:=.sl 1 λ_=>[.str ⟨#[104,101,97,100]⟩,D 0,D 1,D 8000,D 60000,D 500,D 50,D 2,D 4,D 3,D 5,D 100000,D 200,D 0]
def G8:V:=.agg [hc',.sl 0 λ_=>[],.sl 0 λ_=>[],hdr]
def dwH:V:=.pd [Qf,AR,AR,Ga,D 0,D 0,Dp,Dp,D 8000]
def hf0:V:=.agg [Qf,AR,AR,Ga,D 0,D 0,Dp,Dp,D 8000]
def JU:V:=.pd [.str ⟨#[119,105,100,101]⟩,Hl,TH,Hj,D 50,D 5,zq,LM,D 8000]
def oM:V:=.agg [.str ⟨#[119,105,100,101]⟩,Hl,TH,Hj,D 50,D 5,zq,LM,D 8000]
def xS:V:=.sl 2 λ|0=>[.str ⟨#[119,105,100,101]⟩,Hl,TH,Hj,D 50,D 5]|_=>[Qf,AR,AR,Ga,D 0,D 0]
def rW:V:=.agg [xS,xd,D 1,hc',.sl 0 λ_=>[],.sl 0 λ_=>[],hdr,.sl 1 λ_=>[D 0],avi,D 0,.str ⟨#[99]⟩,D 0,D 0,D 80,D 0,D 1]
def an9:List Ty:=[.agg ao,.agg cg]
def apO:List Ty:=[.agg [.sl al,.sl ao,tI,.sl aZ,.sl L,.sl L,.sl aV,.sl L,.sl cg,tI,.str,tI,tI,tI,tI,tI]]
def Tx:List Ty:=[.agg aM,tI,tI,tI,tI]
def ny:List Ty:=[.agg aM,.sl aM]
def AA:List Ty:=[.sl L,tI]
def vz:List Ty:=[tI,.pd [.str,.sl L,.sl L,.sl [.sl L],tI,tI,.sl L,.sl L,tI],.pd L,.pd L]
def Qz:List Ty:=[.agg [.sl aZ,.sl L,.sl L,.sl aV],tI,.agg gP]
def NL:List Ty:=[.agg aV,.agg gP]
def TQ:List Ty:=[.agg [.sl al,.sl ao,tI,.sl aZ,.sl L,.sl L,.sl aV,.sl L,.sl cg,tI,.str,tI,tI,tI,tI,tI],.agg gP,tI,tI]
def yT:List Ty:=[.agg [.str,.sl L,.sl L,.sl [.sl L],tI,tI,.sl L,.sl L,tI],tI,tI]
def CC:List Ty:=[.agg [.str,.sl L,.sl L,.sl [.sl L],tI,tI,.sl L,.sl L,tI],.agg gP]
def ajB:List Ty:=[.agg [.sl al,.sl ao],tI,.agg gP,tI]
def Ht:List Ty:=[.agg [.sl al,.sl ao],tI,.agg cg,.agg gP,tI]
def FL:List Ty:=[.agg [.sl al,.sl ao,tI,.sl aZ,.sl L,.sl L,.sl aV,.sl L,.sl cg,tI,.str,tI,tI,tI,tI,tI],.agg gP,tI]
def ctK:bo:=[(23,.con azL),(49,.con yaU),(50,.con as8),(144,.con Lb),(82,.con On),(181,.con M4),(152,.con SA),(96,.con fe5),(97,.con hge),(29,.con hap),(31,.con f26),(70,.con fp7),(69,.con fp4),(180,.con evM),(65,.conZ Hq hy0),(98,.inl ar5 uB),(141,.inl asM uB),(99,.inl atk uB),(52,.inl Z7 uB),(187,.inl adm uB),(243,.inl S3 uB),(92,.inl Ja uB),(5,.inl anj uB),(8,.inl hbl uB),(10,.inl hgr uB),(11,.inl fy6 uB),(12,.inl F8 uB),(13,.inl agA uB),(14,.inl anh uB),(17,.inl ajo uB),(18,.inl h13 uB),(19,.inl eqB uB),(20,.inl fs4 uB),(44,.inl fc3 uB),(24,.inl azy uB),(25,.inl hdi uB),(93,.inl hcp uB),(94,.inl hab uB),(64,.inl c66 uB),(28,.inl ah7 uB),(30,.inl fz6 uB),(32,.inl ayn uB),(43,.inl al3 uB),(53,.inl gr4 uB),(73,.inl hbi uB),(72,.inl ba2 uB),(67,.inl hcM uB),(57,.inl alC uB),(122,.inl hcs uB),(126,.inl fe1 uB),(127,.inl f12 uB),(63,.inl hey uB),(68,.inl GT uB),(71,.inl bor uB),(177,.inl ba1 uB),(216,.inl fw9 uB),(227,.inl fe3 uB),(228,.inl fb1 uB)]
theorem asb:ba Tryz.prog AQ AS ctK:=.con iu0 (.con aak (.con aue (.con atD (.con hfl (.con hW' (.con hbm (.con aao (.con ih2 (.con nc6 (.con np6 (.con iy8 (.con okP (.con m73 (.conZ ic13 (iz Tryz.func98 bD (iz Tryz.func141 bD (iz Tryz.func99 bD (iz Tryz.func52 bD (iz Tryz.func187 bD (iz Tryz.func243 bD (iz Tryz.func92 bD (iz Tryz.func5 bD (iz Tryz.func8 bD (iz Tryz.func10 bD (iz Tryz.func11 bD (iz Tryz.func12 bD (iz Tryz.func13 bD (iz Tryz.func14 bD (iz Tryz.func17 bD (iz Tryz.func18 bD (iz Tryz.func19 bD (iz Tryz.func20 bD (iz Tryz.func44 bD (iz Tryz.func24 bD (iz Tryz.func25 bD (iz Tryz.func93 bD (iz Tryz.func94 bD (iz Tryz.func64 bD (iz Tryz.func28 bD (iz Tryz.func30 bD (iz Tryz.func32 bD (iz Tryz.func43 bD (iz Tryz.func53 bD (iz Tryz.func73 bD (iz Tryz.func72 bD (iz Tryz.func67 bD (iz Tryz.func57 bD (iz Tryz.func122 bD (iz Tryz.func126 bD (iz Tryz.func127 bD (iz Tryz.func63 bD (iz Tryz.func68 bD (iz Tryz.func71 bD (iz Tryz.func177 bD (iz Tryz.func216 bD (iz Tryz.func227 bD (iz Tryz.func228 bD (.nil))))))))))))))))))))))))))))))))))))))))))))))))))))))))))
def abL:aD:=gO [(ap an9 [.agg [.str ⟨#[104,101,97,100]⟩,D 0,D 1,D 8000,D 60000,D 500,D 50,D 2,D 4,D 3,D 5,D 100000,D 200,D 0],.agg Ir],.agg [D 8000,D 8000])]
theorem apH:(vP abL).Ok Tryz.prog 95:=dH (sf:=hdy) asb Tryz.func95 bD bD
def axG:bo:=(95,.con abL)::ctK
theorem aAw:ba Tryz.prog AQ AS axG:=.con apH asb
def adL:aD:=gO [(ap apO [rW],D 8000)]
theorem apN:(vP adL).Ok Tryz.prog 26:=dH (sf:=yaT) aAw Tryz.func26 bD bD
def avo:bo:=(26,.con adL)::axG
theorem sV:ba Tryz.prog AQ AS avo:=.con apN aAw
def al6:aD:=gO [(ap Tx [.agg [D 0,D 1],D (-4000),D 4000,D 0,D 8000],Bj)]
theorem sl2:(vP al6).Ok Tryz.prog 46:=dH (sf:=C3) sV Tryz.func46 bD bD
abbrev Er:=[D 0,D 0,D 0,D 0]
def avM:aD:=gO [(ap Tx [.agg [D 0,D 1],D 0,D 0,D 0,D 0],.agg Er)]
theorem vwW:(vP avM).Ok Tryz.prog 46:=dH (sf:=C3) sV Tryz.func46 bD bD
def anQ:aD:=gO [(ap Tx [.agg [D 0,D 1],D (-4000),D (-4000),D 0,D 0],BL)]
theorem yaG:(vP anQ).Ok Tryz.prog 46:=dH (sf:=C3) sV Tryz.func46 bD bD
def aeG:aD:=eZ al6 (eZ avM (anQ))
theorem aus:(vP aeG).Ok Tryz.prog 46:=bL sl2 (bL vwW (yaG))
def avs:bo:=(46,.con aeG)::avo
theorem fe:ba Tryz.prog AQ AS avs:=.con aus sV
abbrev EG:=[D 300,D 300]
abbrev ER:=[D 300,D 475]
def atC:aD:=gO [(ap ny [.agg EG,.sl 3 λ|0=>[D 450,D 450]|1=>[D 312,D 313]|_=>[D 475,D 475]],.agg ER)]
theorem iy9:(vP atC).Ok Tryz.prog 124:=dH (sf:=ja) fe Tryz.func124 bD bD
def avz:aD:=gO [(ap ny [.agg ER,.sl 1 λ_=>EG],.agg ER)]
theorem m66:(vP avz).Ok Tryz.prog 124:=dH (sf:=ja) fe Tryz.func124 bD bD
def arT:aD:=gO [(ap ny [.agg ER,.sl 1 λ_=>[D 450,D 450]],.agg ER)]
theorem m68:(vP arT).Ok Tryz.prog 124:=dH (sf:=ja) fe Tryz.func124 bD bD
def air:aD:=gO [(ap ny [.agg ER,.sl 1 λ_=>[D 312,D 313]],.agg ER)]
theorem iu5:(vP air).Ok Tryz.prog 124:=dH (sf:=ja) fe Tryz.func124 bD bD
def atT:aD:=gO [(ap ny [.agg ER,.sl 1 λ_=>[D 475,D 475]],.agg ER)]
theorem smL:(vP atT).Ok Tryz.prog 124:=dH (sf:=ja) fe Tryz.func124 bD bD
abbrev Ea:=[D 400,D 400]
def anW:aD:=gO [(ap ny [.agg ER,.sl 1 λ_=>Ea],.agg ER)]
theorem oeE:(vP anW).Ok Tryz.prog 124:=dH (sf:=ja) fe Tryz.func124 bD bD
def axD:aD:=gO [(ap ny [.agg ER,.sl 1 λ_=>[D 600,D 600]],.agg [D 300,D 600])]
theorem yaD:(vP axD).Ok Tryz.prog 124:=dH (sf:=ja) fe Tryz.func124 bD bD
def avv:aD:=gO [(ap ny [.agg Ea,.sl 3 λ|0=>Ea|1=>Ea|_=>Ea],.agg Ea)]
theorem iz2:(vP avv).Ok Tryz.prog 124:=dH (sf:=ja) fe Tryz.func124 bD bD
def ahL:aD:=gO [(ap ny [.agg Ea,.sl 1 λ_=>Ea],.agg Ea)]
theorem nz5:(vP ahL).Ok Tryz.prog 124:=dH (sf:=ja) fe Tryz.func124 bD bD
abbrev EI:=[D 700,D 700]
def yaH:aD:=gO [(ap ny [.agg EI,.sl 3 λ|0=>EI|1=>EI|_=>EI],.agg EI)]
theorem jcm:(vP yaH).Ok Tryz.prog 124:=dH (sf:=ja) fe Tryz.func124 bD bD
def yaC:aD:=gO [(ap ny [.agg EI,.sl 1 λ_=>EI],.agg EI)]
theorem i24:(vP yaC).Ok Tryz.prog 124:=dH (sf:=ja) fe Tryz.func124 bD bD
def ads:aD:=gO [(ap ny [.agg EG,.sl 3 λ|0=>EG|1=>EG|_=>EG],.agg EG)]
theorem i09:(vP ads).Ok Tryz.prog 124:=dH (sf:=ja) fe Tryz.func124 bD bD
def acM:aD:=gO [(ap ny [.agg EG,.sl 1 λ_=>EG],.agg EG)]
theorem htN:(vP acM).Ok Tryz.prog 124:=dH (sf:=ja) fe Tryz.func124 bD bD
def aa2:aD:=eZ atC (eZ avz (eZ arT (eZ air (eZ atT (eZ anW (eZ axD (eZ avv (eZ ahL (eZ yaH (eZ yaC (eZ ads (acM))))))))))))
theorem aqV:(vP aa2).Ok Tryz.prog 124:=bL iy9 (bL m66 (bL m68 (bL iu5 (bL smL (bL oeE (bL yaD (bL iz2 (bL nz5 (bL jcm (bL i24 (bL i09 (htN))))))))))))
def an1:bo:=(124,.con aa2)::avs
theorem lH:ba Tryz.prog AQ AS an1:=.con aqV fe
def aw6:aD:=gO [(ap AA [zq,D (-4000000)],D 0)]
theorem obs:(vP aw6).Ok Tryz.prog 178:=dH (sf:=r4) lH Tryz.func178 bD bD
def aiO:aD:=gO [(ap AA [LM,D 0],D 0)]
theorem nd1:(vP aiO).Ok Tryz.prog 178:=dH (sf:=r4) lH Tryz.func178 bD bD
def avu:aD:=gO [(ap AA [LM,D 8000000],D 0)]
theorem x13:(vP avu).Ok Tryz.prog 178:=dH (sf:=r4) lH Tryz.func178 bD bD
def aqH:aD:=gO [(ap AA [zq,D 4000000],D 1)]
theorem iw4:(vP aqH).Ok Tryz.prog 178:=dH (sf:=r4) lH Tryz.func178 bD bD
def alT:aD:=gO [(ap AA [zq,D 0],D 1)]
theorem iy2:(vP alT).Ok Tryz.prog 178:=dH (sf:=r4) lH Tryz.func178 bD bD
def anV:aD:=gO [(ap AA [Dp,D 0],D 0)]
theorem id5:(vP anV).Ok Tryz.prog 178:=dH (sf:=r4) lH Tryz.func178 bD bD
def acP:aD:=eZ aw6 (eZ aiO (eZ avu (eZ aqH (eZ alT (anV)))))
theorem auM:(vP acP).Ok Tryz.prog 178:=bL obs (bL nd1 (bL x13 (bL iw4 (bL iy2 (id5)))))
def anC:bo:=(178,.con acP)::an1
theorem iZ:ba Tryz.prog AQ AS anC:=.con auM lH
def ai1:aD:=gO [(ap vz [D 0,JU,.pd [D 0],.pd [D 0]],.agg [D 200,D 200])]
theorem x23:(vP ai1).Ok Tryz.prog 179:=dH (sf:=ou) iZ Tryz.func179 bD bD
def avD:aD:=gO [(ap vz [D 1,JU,.pd [D 0],.pd [D 0]],.agg Ea)]
theorem nn4:(vP avD).Ok Tryz.prog 179:=dH (sf:=ou) iZ Tryz.func179 bD bD
def alS:aD:=gO [(ap vz [D 0,JU,.pd [D 0],.pd [D 8000000]],.agg EG)]
theorem np5:(vP alS).Ok Tryz.prog 179:=dH (sf:=ou) iZ Tryz.func179 bD bD
def agF:aD:=gO [(ap vz [D 1,JU,.pd [D 0],.pd [D 8000000]],.agg [D 600,D 600])]
theorem yaN:(vP agF).Ok Tryz.prog 179:=dH (sf:=ou) iZ Tryz.func179 bD bD
def avJ:aD:=gO [(ap vz [D 2,JU,.pd [D 0],.pd [D 0]],.agg [D 50,D 50])]
theorem nc2:(vP avJ).Ok Tryz.prog 179:=dH (sf:=ou) iZ Tryz.func179 bD bD
def aiz:aD:=gO [(ap vz [D 2,JU,.pd [D 0],.pd [D 8000000]],.agg [D 100,D 100])]
theorem nz4:(vP aiz).Ok Tryz.prog 179:=dH (sf:=ou) iZ Tryz.func179 bD bD
def axk:aD:=gO [(ap vz [D 0,dwH,.pd [D 0],.pd [D 0]],.agg EI)]
theorem nb1:(vP axk).Ok Tryz.prog 179:=dH (sf:=ou) iZ Tryz.func179 bD bD
def ag2:aD:=gO [(ap vz [D 1,dwH,.pd [D 0],.pd [D 0]],.agg EI)]
theorem ih1:(vP ag2).Ok Tryz.prog 179:=dH (sf:=ou) iZ Tryz.func179 bD bD
def acg:aD:=eZ ai1 (eZ avD (eZ alS (eZ agF (eZ avJ (eZ aiz (eZ axk (ag2)))))))
theorem arB:(vP acg).Ok Tryz.prog 179:=bL x23 (bL nn4 (bL np5 (bL yaN (bL nc2 (bL nz4 (bL nb1 (ih1)))))))
def agr:bo:=(179,.con acg)::anC
theorem s9:ba Tryz.prog AQ AS agr:=.con arB iZ
def acz:aD:=gO [(ap Qz [G8,D 0,Cu],.tup Au)]
theorem apP:(vP acz).Ok Tryz.prog 58:=dH (sf:=UO) s9 Tryz.func58 bD bD
def abO:aD:=gO [(ap Qz [G8,D 0,.agg Er],.tup Au)]
theorem arv:(vP abO).Ok Tryz.prog 58:=dH (sf:=UO) s9 Tryz.func58 bD bD
def aen:aD:=gO [(ap Qz [G8,D 0,BA],.tup Au)]
theorem asB:(vP aen).Ok Tryz.prog 58:=dH (sf:=UO) s9 Tryz.func58 bD bD
def K17:aD:=eZ acz (eZ abO (aen))
theorem fx13:(vP K17).Ok Tryz.prog 58:=bL apP (bL arv (asB))
def ace:bo:=(58,.con K17)::agr
theorem LX:ba Tryz.prog AQ AS ace:=.con fx13 s9
def aoN:aD:=gO [(ap NL [GM,Cu],Bj)]
theorem nn7:(vP aoN).Ok Tryz.prog 56:=dH (sf:=C4) LX Tryz.func56 bD bD
def avx:aD:=gO [(ap NL [GM,.agg Er],.agg Er)]
theorem ih7:(vP avx).Ok Tryz.prog 56:=dH (sf:=C4) LX Tryz.func56 bD bD
def ahb:aD:=gO [(ap NL [GM,BA],BL)]
theorem io9:(vP ahb).Ok Tryz.prog 56:=dH (sf:=C4) LX Tryz.func56 bD bD
def aep:aD:=eZ aoN (eZ avx (ahb))
theorem aof:(vP aep).Ok Tryz.prog 56:=bL nn7 (bL ih7 (io9))
def ahV:bo:=(56,.con aep)::ace
theorem sU:ba Tryz.prog AQ AS ahV:=.con aof LX
def an0:aD:=gO [(ap TQ [rW,Cu,D 11,D 75],.agg [D 11,D 75])]
theorem jct:(vP an0).Ok Tryz.prog 33:=dH (sf:=B2) sU Tryz.func33 bD bD
def ah5:aD:=gO [(ap TQ [rW,.agg Er,D 3500,D 3500],.agg [D 3500,D 3500])]
theorem jf8:(vP ah5).Ok Tryz.prog 33:=dH (sf:=B2) sU Tryz.func33 bD bD
def avG:aD:=gO [(ap TQ [rW,BA,D 26,D 27],.agg [D 26,D 27])]
theorem its:(vP avG).Ok Tryz.prog 33:=dH (sf:=B2) sU Tryz.func33 bD bD
def acu:aD:=eZ an0 (eZ ah5 (avG))
theorem art:(vP acu).Ok Tryz.prog 33:=bL jct (bL jf8 (its))
def ayN:bo:=(33,.con acu)::ahV
theorem kg:ba Tryz.prog AQ AS ayN:=.con art sU
def ank:aD:=gO [(ap yT [oM,D (-4000000),D 0],.agg EG)]
theorem ie0:(vP ank).Ok Tryz.prog 125:=dH (sf:=p9) kg Tryz.func125 bD bD
def axt:aD:=gO [(ap yT [oM,D (-4000000),D 8000000],.agg [D 450,D 450])]
theorem ic11:(vP axt).Ok Tryz.prog 125:=dH (sf:=p9) kg Tryz.func125 bD bD
def awt:aD:=gO [(ap yT [oM,D 4000000,D 0],.agg [D 312,D 313])]
theorem nm2:(vP awt).Ok Tryz.prog 125:=dH (sf:=p9) kg Tryz.func125 bD bD
def anS:aD:=gO [(ap yT [oM,D 4000000,D 8000000],.agg [D 475,D 475])]
theorem yam:(vP anS).Ok Tryz.prog 125:=dH (sf:=p9) kg Tryz.func125 bD bD
def aig:aD:=gO [(ap yT [oM,D 0,D 0],.agg Ea)]
theorem im6:(vP aig).Ok Tryz.prog 125:=dH (sf:=p9) kg Tryz.func125 bD bD
def agR:aD:=gO [(ap yT [oM,D 0,D 8000000],.agg [D 600,D 600])]
theorem sl1:(vP agR).Ok Tryz.prog 125:=dH (sf:=p9) kg Tryz.func125 bD bD
def ajw:aD:=gO [(ap yT [hf0,D 0,D 0],.agg EI)]
theorem rdY:(vP ajw).Ok Tryz.prog 125:=dH (sf:=p9) kg Tryz.func125 bD bD
def aeE:aD:=eZ ank (eZ axt (eZ awt (eZ anS (eZ aig (eZ agR (ajw))))))
theorem aoO:(vP aeE).Ok Tryz.prog 125:=bL ie0 (bL ic11 (bL nm2 (bL yam (bL im6 (bL sl1 (rdY))))))
def asy:bo:=(125,.con aeE)::ayN
theorem pg:ba Tryz.prog AQ AS asy:=.con aoO kg
def anT:aD:=gO [(ap CC [oM,Bj],.agg [D 300,D 600])]
theorem ng':(vP anT).Ok Tryz.prog 66:=dH (sf:=xO) pg Tryz.func66 bD bD
def axJ:aD:=gO [(ap CC [oM,.agg Er],.agg Ea)]
theorem aaa:(vP axJ).Ok Tryz.prog 66:=dH (sf:=xO) pg Tryz.func66 bD bD
def alh:aD:=gO [(ap CC [hf0,.agg Er],.agg EI)]
theorem rdC:(vP alh).Ok Tryz.prog 66:=dH (sf:=xO) pg Tryz.func66 bD bD
def agf:aD:=gO [(ap CC [oM,BL],.agg EG)]
theorem ih5:(vP agf).Ok Tryz.prog 66:=dH (sf:=xO) pg Tryz.func66 bD bD
def aef:aD:=eZ anT (eZ axJ (eZ alh (agf)))
theorem aqR:(vP aef).Ok Tryz.prog 66:=bL ng' (bL aaa (bL rdC (ih5)))
def akZ:bo:=(66,.con aef)::asy
theorem adP:ba Tryz.prog AQ AS akZ:=.con aqR pg
def abu:aD:=gO [(ap ajB [.agg [xS,xd],D 1,.agg Er,D 8000],.tup [.agg EI,D 0])]
theorem au5:(vP abu).Ok Tryz.prog 45:=dH (sf:=hca) adP Tryz.func45 bD bD
def amT:bo:=(45,.con abu)::akZ
theorem tk:ba Tryz.prog AQ AS amT:=.con au5 adP
def ahX:aD:=gO [(ap Ht [.agg [xS,xd],D 0,.agg Ir,Bj,D 8000],.tup [.agg [D 2400,D 4800],D 0])]
theorem x19:(vP ahX).Ok Tryz.prog 55:=dH (sf:=B5) tk Tryz.func55 bD bD
def an3:aD:=gO [(ap Ht [.agg [xS,xd],D 0,.agg Ir,.agg Er,D 8000],.tup [.agg [D 3200,D 3200],D 0])]
theorem m62:(vP an3).Ok Tryz.prog 55:=dH (sf:=B5) tk Tryz.func55 bD bD
def amf:aD:=gO [(ap Ht [.agg [xS,xd],D 0,.agg Ir,BL,D 8000],.tup [.agg [D 2400,D 2400],D 0])]
theorem nh2:(vP amf).Ok Tryz.prog 55:=dH (sf:=B5) tk Tryz.func55 bD bD
def aed:aD:=eZ ahX (eZ an3 (amf))
theorem aqD:(vP aed).Ok Tryz.prog 55:=bL x19 (bL m62 (nh2))
def avq:bo:=(55,.con aed)::amT
theorem tN:ba Tryz.prog AQ AS avq:=.con aqD tk
def amI:aD:=gO [(ap FL [rW,Cu,D 8000],.agg [D 2400,D 4800])]
theorem mmV:(vP amI).Ok Tryz.prog 27:=dH (sf:=Bh) tN Tryz.func27 bD bD
def as9:aD:=gO [(ap FL [rW,.agg Er,D 8000],.agg [D 3200,D 3200])]
theorem if4:(vP as9).Ok Tryz.prog 27:=dH (sf:=Bh) tN Tryz.func27 bD bD
def awe:aD:=gO [(ap FL [rW,BA,D 8000],.agg [D 2400,D 2400])]
theorem iw7:(vP awe).Ok Tryz.prog 27:=dH (sf:=Bh) tN Tryz.func27 bD bD
def adI:aD:=eZ amI (eZ as9 (awe))
theorem asp:(vP adI).Ok Tryz.prog 27:=bL mmV (bL if4 (iw7))
def im1:bo:=(27,.con adI)::avq
theorem hvx:ba Tryz.prog AQ AS im1:=.con asp tN
def aeq:aD:=bP [] (λ_=>True) λ_=>.bool true
theorem ahk:(vP aeq).Ok Tryz.prog 7:=G3 (J:=JJ) (un:=uB) (sf:=akk) hvx hE hI Tryz.func7 bD bD bD rfl (λw0 ds hp=>zG bD)
def abk:bo:=(7,.con aeq)::(8,.con ac0)::(9,.con acx)::fu1
theorem alN:ba Tryz.prog AQ AS abk:=.con ahk (.con alk (.con afR (ny5)))
def QL:RT Empty:=.obt (.obt (.obp (aC H (A al G)/\aC R (A ao N)/\aC n5 (A aZ q)/\aC PS (A aV At)) (.obt (.obt (.obt (.obp (aC H (A al G)/\aC R (A ao N)/\aC n5 (A aZ q)/\aC PS (A aV At)) (.obt (.ii (.obi (.br (bif zJ (rb (eY (ju H (A al G) R (A ao N) O n5 (A aZ q) n7 (A bj f7) n9 (A bm f9) PS (A aV At) Pi (A L Pf) Pm (A cg Ph)) Pb Pw Ps Pr) Py Pz O) (gF H (A al G) R (A ao N) O n5 (A aZ q) n7 (A bj f7) n9 (A bm f9) PS (A aV At) (A L Pf) (A cg Ph) Pb Pw Ps Pr Py Pz Pi)==zJ (rb (eY (ju H (A al G) R (A ao N) O n5 (A aZ q) n7 (A bj f7) n9 (A bm f9) PS (A aV At) Pi (A L Pf) Pm (A cg Ph)) Pb Pw Ps Pr) Py Pz O) (gF H (A al G) R (A ao N) O n5 (A aZ q) n7 (A bj f7) n9 (A bm f9) PS (A aV At) (A L Pf) (A cg Ph) Pb Pw Ps Pr Py Pz Pi)&&(zJ (rb (eY (ju H (A al G) R (A ao N) O n5 (A aZ q) n7 (A bj f7) n9 (A bm f9) PS (A aV At) Pi (A L Pf) Pm (A cg Ph)) Pb Pw Ps Pr) Py Pz O) (gC H (A al G) R (A ao N) O n5 (A aZ q) n7 (A bj f7) n9 (A bm f9) PS (A aV At) (A L Pf) (A cg Ph) Pb Pw Ps Pr Py Pz Pi)==zJ (rb (eY (ju H (A al G) R (A ao N) O n5 (A aZ q) n7 (A bj f7) n9 (A bm f9) PS (A aV At) Pi (A L Pf) Pm (A cg Ph)) Pb Pw Ps Pr) Py Pz O) (gC H (A al G) R (A ao N) O n5 (A aZ q) n7 (A bj f7) n9 (A bm f9) PS (A aV At) (A L Pf) (A cg Ph) Pb Pw Ps Pr Py Pz Pi)&&true) then rb (eY (ju H (A al G) R (A ao N) O n5 (A aZ q) n7 (A bj f7) n9 (A bm f9) PS (A aV At) Pi (A L Pf) Pm (A cg Ph)) Pb Pw Ps Pr) Py Pz O==rb (eY (ju H (A al G) R (A ao N) O n5 (A aZ q) n7 (A bj f7) n9 (A bm f9) PS (A aV At) Pi (A L Pf) Pm (A cg Ph)) Pb Pw Ps Pr) Py Pz O else false) (.cb (.ret (V.bool true))) (.ret (V.kb false))))))))))))
theorem srf:cV cX (aQ JJ abk u0 afo [V.agg [V.sl H (A al G),V.sl R (A ao N),D O,V.sl n5 (A aZ q),V.sl n7 (A bj f7),V.sl n9 (A bm f9),V.sl PS (A aV At),V.sl Pi (A L Pf),V.sl Pm (A cg Ph)],V.agg [D Pb,D Pw,D Ps,D Pr],V.agg [D Py,D Pz]]) (QL H G R N O n5 q n7 f7 n9 f9 PS At Pi Pf Pm Ph Pb Pw Ps Pr Py Pz):=bF
def tu:Bool:=bif bif zJ (rb (eY (ju H (A al G) R (A ao N) O n5 (A aZ q) n7 (A bj f7) n9 (A bm f9) PS (A aV At) Pi (A L Pf) Pm (A cg Ph)) Pb Pw Ps Pr) Py Pz O) (gF H (A al G) R (A ao N) O n5 (A aZ q) n7 (A bj f7) n9 (A bm f9) PS (A aV At) (A L Pf) (A cg Ph) Pb Pw Ps Pr Py Pz Pi)==zJ (rb (eY (ju H (A al G) R (A ao N) O n5 (A aZ q) n7 (A bj f7) n9 (A bm f9) PS (A aV At) Pi (A L Pf) Pm (A cg Ph)) Pb Pw Ps Pr) Py Pz O) (gF H (A al G) R (A ao N) O n5 (A aZ q) n7 (A bj f7) n9 (A bm f9) PS (A aV At) (A L Pf) (A cg Ph) Pb Pw Ps Pr Py Pz Pi)&&(zJ (rb (eY (ju H (A al G) R (A ao N) O n5 (A aZ q) n7 (A bj f7) n9 (A bm f9) PS (A aV At) Pi (A L Pf) Pm (A cg Ph)) Pb Pw Ps Pr) Py Pz O) (gC H (A al G) R (A ao N) O n5 (A aZ q) n7 (A bj f7) n9 (A bm f9) PS (A aV At) (A L Pf) (A cg Ph) Pb Pw Ps Pr Py Pz Pi)==zJ (rb (eY (ju H (A al G) R (A ao N) O n5 (A aZ q) n7 (A bj f7) n9 (A bm f9) PS (A aV At) Pi (A L Pf) Pm (A cg Ph)) Pb Pw Ps Pr) Py Pz O) (gC H (A al G) R (A ao N) O n5 (A aZ q) n7 (A bj f7) n9 (A bm f9) PS (A aV At) (A L Pf) (A cg Ph) Pb Pw Ps Pr Py Pz Pi)&&true) then rb (eY (ju H (A al G) R (A ao N) O n5 (A aZ q) n7 (A bj f7) n9 (A bm f9) PS (A aV At) Pi (A L Pf) Pm (A cg Ph)) Pb Pw Ps Pr) Py Pz O==rb (eY (ju H (A al G) R (A ao N) O n5 (A aZ q) n7 (A bj f7) n9 (A bm f9) PS (A aV At) Pi (A L Pf) Pm (A cg Ph)) Pb Pw Ps Pr) Py Pz O else false then true else false
def KE:V:=.bool (tu H G R N O n5 q n7 f7 n9 f9 PS At Pi Pf Pm Ph Pb Pw Ps Pr Py Pz)
theorem ajO (hp:aC H G/\aC R N/\aC n5 q/\aC PS At):aU cN (QL H G R N O n5 q n7 f7 n9 f9 PS At Pi Pf Pm Ph Pb Pw Ps Pr Py Pz) (KE H G R N O n5 q n7 f7 n9 f9 PS At Pi Pf Pm Ph Pb Pw Ps Pr Py Pz):=ac (ac (aI (by first|assumption|(exact hp)) (ac (ac (ac (aI (by first|assumption|(exact hp)) (ac (AE (AE (AE (AP (λh0=>AM (ac (AF (by unfold KE tu;try rw[h0];rfl)))) (λh0=>AF (by unfold KE tu;try rw[h0];rfl)))))))))))))
theorem nn1:tu H G R N O n5 q n7 f7 n9 f9 PS At Pi Pf Pm Ph Pb Pw Ps Pr Py Pz=true:=by unfold tu;simp only[BEq.rfl,bne_self_eq_false,cond_true,cond_false,JA,Fs,Jd]
theorem np9 (hp:aC H G/\aC R N/\aC n5 q/\aC PS At):aU cN (QL H G R N O n5 q n7 f7 n9 f9 PS At Pi Pf Pm Ph Pb Pw Ps Pr Py Pz) (.bool true):=by have h:=ajO H G R N O n5 q n7 f7 n9 f9 PS At Pi Pf Pm Ph Pb Pw Ps Pr Py Pz hp;unfold KE at h;rw[nn1 H G R N O n5 q n7 f7 n9 f9 PS At Pi Pf Pm Ph Pb Pw Ps Pr Py Pz]at h;exact h
def tys1004:List Ty:=[.agg [.sl al,.sl ao,tI,.sl aZ,.sl bj,.sl bm,.sl aV,.sl L,.sl cg],.agg gP,.agg aM]
theorem ok1004:(vP (lawC tys1004)).Ok Tryz.prog 4:=Ot alN Tryz.func4 bD λds hp=>c7 (srf ..) (np9 _ _ _ _ _ _ _ _ _ _ _ _ _ _ _ _ _ _ _ _ _ _ _ (by have h:iN [.agg [.sl al,.sl ao,tI,.sl aZ,.sl bj,.sl bm,.sl aV,.sl L,.sl cg],.agg gP,.agg aM] _:=hp;exact⟨λi hi=>(h.1.1 i hi).1,λi hi=>(h.1.2.1 i hi).1,λi hi=>(h.1.2.2.2.1 i hi).1,λi hi=>(h.1.2.2.2.2.2.2.1 i hi).1⟩))
end
end Go.Dx
