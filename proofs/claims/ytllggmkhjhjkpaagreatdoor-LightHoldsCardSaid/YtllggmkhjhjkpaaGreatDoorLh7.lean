/- Part 7 of a proof. No conditions. -/
import Derived.Test.YtllggmkhjhjkpaaGreatDoorLh6
set_option maxRecDepth 100000
set_option linter.unusedVariables false
set_option linter.unusedSimpArgs false
namespace Go.Dx
open Go.IntKind (i64 u64 u8)
open Go.Sx Go.Proofs
variable (R S Z x3 O x5 x6 x7:Int) (b8:Bool) (x9 Ql Qn Qp:Int)
noncomputable section
def jr:bm:=(185,.con aaY)::(125,.con Q7)::(155,.inl ajv u0)::(170,.inl aog u0)::(190,.inl amt u0)::(172,.inl ak8 u0)::(173,.inl akm u0)::(174,.inl amW u0)::(184,.inl aj4 fza8)::zK
theorem fo8:aV Tryz.prog BN D7 jr:=.con acD (.con arp (iB Tryz.func155 bw (iB Tryz.func170 bw (iB Tryz.func190 bw (iB Tryz.func172 bw (iB Tryz.func173 bw (iB Tryz.func174 bw (iB Tryz.func184 bw (GN)))))))))
def ES:l8:=λk=>bif Nat.beq k 0 then 5 else 0
inductive jI where|L0 (_:Int) (_:bk)|L1 (_ _:Int) (_:bk)|L2 (_:Int) (_:bk) (_:Int) (_:bk)|L3 (_:Int) (_ _:Nat) (_ _ _:Int) (_:Nat) (_ _:Int) (_:bk) (_:Int) (_:bk)|L4 (_:Int) (_:bk) (_:Nat) (_:bk) (_:Int) (_:bk)|L5 (_ _:Int) (_:Nat) (_:Bool) (_:Nat) (_:bk)|L7 (_:Int) (_:bk) (_:Nat) (_ _:Int) (_:Nat) (_:bk) (_:Int) (_:bk)|L12 (_ _:Int) (_:Nat) (_:bk) (_:Nat) (_:bk) (_:Int) (_ _:Nat) (_ _ _:Int) (_:Nat) (_ _:Int) (_:bk)|L13 (_ _:Int) (_:bk) (_ _:Nat) (_:bk) (_:Int) (_:bk)|L14 (_ _:Int) (_:Nat) (_:bk) (_:Nat) (_ _:Int) (_:Nat) (_:bk) (_:Int) (_ _:Nat) (_ _ _:Int) (_:Nat) (_ _:Int) (_:bk)|L15 (_ _ _:Int) (_:Nat) (_:bk) (_ _:Nat) (_:bk) (_:Int) (_ _:Nat) (_ _ _:Int) (_:Nat) (_ _:Int) (_:bk)|L18 (_:Int) (_:bk) (_ _:Nat) (_:bk) (_ _:Int) (_:bk) (_:bk) (_:Int) (_:bk)|L20 (_:Int) (_:bk) (_ _:Nat) (_:bk) (_ _ _ _:Int) (_:bk) (_:Nat) (_:bk) (_:Int) (_:bk)|L22 (_ _:Int) (_:bk) (_:Nat) (_ _:Int) (_:bk) (_ _:Int) (_:bk) (_ _:Nat) (_:bk) (_:Int) (_:bk)|L23 (_ _:Int) (_:bk) (_:Nat) (_ _:Int) (_:Nat) (_:bk) (_ _:Int) (_:bk) (_ _:Nat) (_:bk) (_:Int) (_:bk)|L24 (_:Int) (_:Nat) (_:Int) (_:bk) (_ _:Nat) (_:bk) (_ _ _:Int) (_:Nat) (_:bk) (_:bk) (_:Int) (_ _:Nat) (_ _ _:Int) (_:Nat) (_ _:Int) (_:bk)|L25 (_:Int) (_:Nat) (_:Int) (_:bk) (_ _:Nat) (_:bk) (_ _ _ _ _:Int) (_:Nat) (_:bk) (_:Nat) (_:bk) (_:Int) (_ _:Nat) (_ _ _:Int) (_:Nat) (_ _:Int) (_:bk)|L26 (_ _:Int) (_:Nat) (_:Int) (_:bk) (_:Nat) (_ _:Int) (_:bk) (_ _ _:Int) (_:Nat) (_:bk) (_ _:Nat) (_:bk) (_:Int) (_ _:Nat) (_ _ _:Int) (_:Nat) (_ _:Int) (_:bk)|L27 (_ _:Int) (_:Nat) (_:Int) (_:bk) (_:Nat) (_ _:Int) (_:Nat) (_:bk) (_ _ _:Int) (_:Nat) (_:bk) (_ _:Nat) (_:bk) (_:Int) (_ _:Nat) (_ _ _:Int) (_:Nat) (_ _:Int) (_:bk)
def oI (l:List A7):List A7:=A7.cells [D R,D S,D Z,D x3,D O,D x5,D x6,D x7,V.bool b8] 198::A7.cells [D x9,D Ql,D Qn,D Qp] 37::A7.cells [D x9,D Ql] 113::A7.cells [D (b9 R Z x9 x3),D (ci S Z Ql x3),D (b9 R Z x9 O),D (ci S Z Ql O)] 113::A7.hid::A7.cells [D Qn,D Ql] 113::A7.cells [D (b9 R Z Qn x3),D (ci S Z Ql x3),D (b9 R Z Qn O),D (ci S Z Ql O)] 113::A7.hid::A7.cells [D Qn,D Qp] 113::A7.cells [D (b9 R Z Qn x3),D (ci S Z Qp x3),D (b9 R Z Qn O),D (ci S Z Qp O)] 113::A7.hid::A7.cells [D x9,D Qp] 113::A7.cells [D (b9 R Z x9 x3),D (ci S Z Qp x3),D (b9 R Z x9 O),D (ci S Z Qp O)] 113::l
def lI:jI->bZ×List A7×Option Ex
 |.L0 Qg TD=>([(8,D Qg),(0,V.gs 13 8),(1,D 0),(2,D (↑8:Int)),(3,V.fn 171 [] [])],oI R S Z x3 O x5 x6 x7 b8 x9 Ql Qn Qp [A7.gl 2 8 (A aK TD) 113],none)|.L1 RS Yp TJ=>([(9,D RS),(8,D Yp),(0,V.gs 13 8),(1,D 0),(2,D (↑8:Int)),(3,V.fn 171 [] [])],oI R S Z x3 O x5 x6 x7 b8 x9 Ql Qn Qp [A7.gl 2 8 (A aK TJ) 113],none)|.L2 RN TN ..=>([(3,D RN),(8,V.kb false),(2,V.ns),(0,V.gs 13 8)],oI R S Z x3 O x5 x6 x7 b8 x9 Ql Qn Qp [A7.gl 2 8 (A aK TN) 113],none)|.L3 Rz TM Ub XF Yq Ys Zc Yu SO TQ ..=>([(5,D Rz),(4,V.go 13 TM Ub),(28,V.go 13 TM Ub),(27,D XF),(26,V.gs 13 8),(25,V.kb true),(24,V.agg [D Yq,D Ys]),(23,V.pe 13 Zc 0),(22,D Yu),(21,D XF),(20,V.gs 13 8),(10,D XF),(3,D SO),(8,V.kb false),(2,V.ns),(0,V.gs 13 8)],oI R S Z x3 O x5 x6 x7 b8 x9 Ql Qn Qp [A7.gl 2 8 (A aK TQ) 113],none)|.L4 Rj WI Sw XJ ..=>([(10,D Rj),(9,D (↑8:Int)),(8,V.gs 13 8),(3,D 0),(0,V.gs 13 8),(1,V.pl 14 0)],oI R S Z x3 O x5 x6 x7 b8 x9 Ql Qn Qp [A7.gl 2 8 (A aK WI) 113,A7.cells [V.gs 15 Sw] 203,A7.gl 2 Sw (A aK XJ) 113],none)|.L5 RY Yv Sc XI Vm UG=>([(40,D RY),(39,D Yv),(38,V.gs 0 Sc),(8,V.bool XI),(5,V.gs 0 Sc),(16,D (I (I (I (I (0+1)+1)+1)+1))),(15,V.agg [D x9,D Ql,D Qn,D Ql,D Qn,D Qp,D x9,D Qp]),(2,V.pl 1 0)],[A7.gl 2 Vm (A aK UG) 113,A7.cells [D R,D S,D Z,D x3,D O,D x5,D x6,D x7,V.bool b8] 198],none)|.L7 W6 WJ Rw UC Ux Vp Uj ..=>([(5,V.pl 15 0),(10,D W6),(9,D (↑8:Int)),(8,V.gs 13 8),(3,D 0),(0,V.gs 13 8),(1,V.pl 14 0)],oI R S Z x3 O x5 x6 x7 b8 x9 Ql Qn Qp [A7.gl 2 8 (A aK WJ) 113,A7.cells [V.gs 16 Rw] 203,A7.cells [D UC,D Ux] 113,A7.gl 2 Vp (A aK Uj) 113],none)|.L12 W8 fg Xt WK V4 XK ..=>([(10,D W8),(9,D fg),(8,V.gs 13 Xt),(3,D 0),(0,V.gs 13 Xt),(1,V.pl 14 0)],oI R S Z x3 O x5 x6 x7 b8 x9 Ql Qn Qp [A7.gl 2 8 (A aK WK) 113,A7.cells [V.gs 15 V4] 203,A7.gl 2 V4 (A aK XK) 113],none)|.L13 Ti Tj U0 Zf Xu Wq ..=>([(3,D Ti),(2,D Tj),(5,D (↑8:Int)),(4,V.gs 13 8),(0,V.gs 13 8)],oI R S Z x3 O x5 x6 x7 b8 x9 Ql Qn Qp [A7.gl 2 8 (A aK U0) 113,A7.cells [V.gs 15 Zf] 203,A7.gl 2 Xu (A aK Wq) 113],none)|.L14 Yx Yy Xv WL S2 Wi Wl Vq Ul ..=>([(5,V.pl 15 0),(10,D Yx),(9,D Yy),(8,V.gs 13 Xv),(3,D 0),(0,V.gs 13 Xv),(1,V.pl 14 0)],oI R S Z x3 O x5 x6 x7 b8 x9 Ql Qn Qp [A7.gl 2 8 (A aK WL) 113,A7.cells [V.gs 16 S2] 203,A7.cells [D Wi,D Wl] 113,A7.gl 2 Vq (A aK Ul) 113],none)|.L15 Tn Tp hG Uc U2 Zk Xw Wr ..=>([(3,D Tn),(2,D Tp),(5,D hG),(4,V.gs 13 Uc),(0,V.gs 13 Uc)],oI R S Z x3 O x5 x6 x7 b8 x9 Ql Qn Qp [A7.gl 2 8 (A aK U2) 113,A7.cells [V.gs 15 Zk] 203,A7.gl 2 Xw (A aK Wr) 113],none)|.L18 xq XL Xx Xz ca ..=>([(10,D 0),(9,D (↑8:Int)),(8,V.gs 13 8),(3,D xq),(0,V.gs 13 8),(1,V.pl 14 0)],oI R S Z x3 O x5 x6 x7 b8 x9 Ql Qn Qp [A7.gl 2 8 (A aK XL) 113,A7.cells [V.gs 15 Xx] 203,A7.gl 2 Xz (A aK ca) 113],none)|.L20 Uy WM S3 UO Um Vb Vd ..=>([(5,V.pl 16 0),(10,D 0),(9,D (↑8:Int)),(8,V.gs 13 8),(3,D Uy),(0,V.gs 13 8),(1,V.pl 14 0)],oI R S Z x3 O x5 x6 x7 b8 x9 Ql Qn Qp [A7.gl 2 8 (A aK WM) 113,A7.cells [V.gs 15 S3] 203,A7.gl 2 UO (A aK Um) 113,A7.cells [D Vb,D Vd] 113],none)|.L22 W9 yF XM UP nz22 nza2 XO ..=>([(10,D W9),(5,V.pl 16 0),(9,D (↑8:Int)),(8,V.gs 13 8),(3,D yF),(0,V.gs 13 8),(1,V.pl 14 0)],oI R S Z x3 O x5 x6 x7 b8 x9 Ql Qn Qp [A7.gl 2 8 (A aK XM) 113,A7.cells [V.gs 17 UP] 203,A7.hid,A7.cells [D nz22,D nza2] 113,A7.gl 2 UP (A aK XO) 113],none)|.L23 ZB H1 WN S4 Ve Vf Vr Un ..=>([(5,V.pl 16 0),(10,D ZB),(9,D (↑8:Int)),(8,V.gs 13 8),(3,D H1),(0,V.gs 13 8),(1,V.pl 14 0)],oI R S Z x3 O x5 x6 x7 b8 x9 Ql Qn Qp [A7.gl 2 8 (A aK WN) 113,A7.cells [V.gs 17 S4] 203,A7.hid,A7.cells [D Ve,D Vf] 113,A7.gl 2 Vr (A aK Un) 113],none)|.L24 hk Y2 yp XP V5 Wo XR ..=>([(10,D 0),(9,D hk),(8,V.gs 13 Y2),(3,D yp),(0,V.gs 13 Y2),(1,V.pl 14 0)],oI R S Z x3 O x5 x6 x7 b8 x9 Ql Qn Qp [A7.gl 2 8 (A aK XP) 113,A7.cells [V.gs 15 V5] 203,A7.gl 2 Wo (A aK XR) 113],none)|.L25 ZF Y4 Uz WO S7 UQ Uo Vg Vh ..=>([(5,V.pl 16 0),(10,D 0),(9,D ZF),(8,V.gs 13 Y4),(3,D Uz),(0,V.gs 13 Y4),(1,V.pl 14 0)],oI R S Z x3 O x5 x6 x7 b8 x9 Ql Qn Qp [A7.gl 2 8 (A aK WO) 113,A7.cells [V.gs 15 S7] 203,A7.gl 2 UQ (A aK Uo) 113,A7.cells [D Vg,D Vh] 113],none)|.L26 WA hv Y5 zR XT US iza6 iza7 XU ..=>([(10,D WA),(5,V.pl 16 0),(9,D hv),(8,V.gs 13 Y5),(3,D zR),(0,V.gs 13 Y5),(1,V.pl 14 0)],oI R S Z x3 O x5 x6 x7 b8 x9 Ql Qn Qp [A7.gl 2 8 (A aK XT) 113,A7.cells [V.gs 17 US] 203,A7.hid,A7.cells [D iza6,D iza7] 113,A7.gl 2 US (A aK XU) 113],none)|.L27 ZP ZQ Y6 V0 WQ S8 Vi Vj Vs Up ..=>([(5,V.pl 16 0),(10,D ZP),(9,D ZQ),(8,V.gs 13 Y6),(3,D V0),(0,V.gs 13 Y6),(1,V.pl 14 0)],oI R S Z x3 O x5 x6 x7 b8 x9 Ql Qn Qp [A7.gl 2 8 (A aK WQ) 113,A7.cells [V.gs 17 S8] 203,A7.hid,A7.cells [D Vi,D Vj] 113,A7.gl 2 Vs (A aK Up) 113],none)
def art:jI->JJ
 |.L0 ..=>(0,[])|.L1 ..=>(1,[])|.L2 _ _ Tf ab=>(2,[Cx.i Tf,Cx.f ab])|.L3 _ _ _ _ _ _ _ _ _ _ f0 ah=>(3,[Cx.i f0,Cx.f ah])|.L4 _ _ _ _ W5 a₂=>(4,[Cx.i W5,Cx.f a₂])|.L5 ..=>(5,[])|.L7 _ _ _ _ _ _ _ W7 Y8=>(7,[Cx.i W7,Cx.f Y8])|.L12 _ _ _ _ _ _ g7 iu j0 g9 fl fm i6 fx XH bK=>(12,[Cx.i g7,Cx.n iu,Cx.n j0,Cx.i g9,Cx.i fl,Cx.i fm,Cx.n i6,Cx.i fx,Cx.i XH,Cx.f bK])|.L13 _ _ _ _ _ _ gt bn=>(13,[Cx.i gt,Cx.f bn])|.L14 _ _ _ _ _ _ _ _ _ Z7 Zh Zi Yz Z2 Z3 Zj Z5 Z6 Y9=>(14,[Cx.i Z7,Cx.n Zh,Cx.n Zi,Cx.i Yz,Cx.i Z2,Cx.i Z3,Cx.n Zj,Cx.i Z5,Cx.i Z6,Cx.f Y9])|.L15 _ _ _ _ _ _ _ _ hZ k9 jf gu gv h1 jg h2 Xo c5=>(15,[Cx.i hZ,Cx.n k9,Cx.n jf,Cx.i gu,Cx.i gv,Cx.i h1,Cx.n jg,Cx.i h2,Cx.i Xo,Cx.f c5])|.L18 _ _ Xx Xz _ xv y8 nB nH yB n2=>(18,[Cx.i xv,Cx.i y8,Cx.f nB,Cx.n Xx,Cx.n Xz,Cx.f nH,Cx.i yB,Cx.f n2])|.L20 _ _ _ UO _ _ _ Z9 ZA YD Zl YB Z8 YC=>(20,[Cx.i Z9,Cx.i ZA,Cx.f YD,Cx.n Zl,Cx.n UO,Cx.f YB,Cx.i Z8,Cx.f YC])|.L22 _ _ _ _ _ _ _ yZ yb oC zd zg nq yY o0=>(18,[Cx.i yZ,Cx.i yb,Cx.f oC,Cx.n zd,Cx.n zg,Cx.f nq,Cx.i yY,Cx.f o0])|.L23 _ _ _ _ _ _ _ _ ZD ZE YE Zn Zp YF ZC YG=>(20,[Cx.i ZD,Cx.i ZE,Cx.f YE,Cx.n Zn,Cx.n Zp,Cx.f YF,Cx.i ZC,Cx.f YG])|.L24 _ _ _ _ V5 Wo _ z8 zA zC zi oD pc yc zo zp ye ym yo zq yv z7 pr=>(24,[Cx.i z8,Cx.i zA,Cx.i zC,Cx.n zi,Cx.f oD,Cx.n V5,Cx.n Wo,Cx.f pc,Cx.i yc,Cx.n zo,Cx.n zp,Cx.i ye,Cx.i ym,Cx.i yo,Cx.n zq,Cx.i yv,Cx.i z7,Cx.f pr])|.L25 _ _ _ _ _ UQ _ _ _ ZO ZG ZH Zq YI Zr YJ ZI Zs Zt ZJ ZK ZL Zu ZM ZN YK=>(25,[Cx.i ZO,Cx.i ZG,Cx.i ZH,Cx.n Zq,Cx.f YI,Cx.n Zr,Cx.n UQ,Cx.f YJ,Cx.i ZI,Cx.n Zs,Cx.n Zt,Cx.i ZJ,Cx.i ZK,Cx.i ZL,Cx.n Zu,Cx.i ZM,Cx.i ZN,Cx.f YK])|.L26 _ _ _ _ _ _ _ _ _ zS zD zE zr qD zt zu qG zF zv zx zI zJ zL zy zM zP qI=>(24,[Cx.i zS,Cx.i zD,Cx.i zE,Cx.n zr,Cx.f qD,Cx.n zt,Cx.n zu,Cx.f qG,Cx.i zF,Cx.n zv,Cx.n zx,Cx.i zI,Cx.i zJ,Cx.i zL,Cx.n zy,Cx.i zM,Cx.i zP,Cx.f qI])|.L27 _ _ _ _ _ _ _ _ _ _ ZR ZS ZT Zv YL Zw Zz YM ZU a7 a8 ZV ZW ZY aa ZZ Za YN=>(25,[Cx.i ZR,Cx.i ZS,Cx.i ZT,Cx.n Zv,Cx.f YL,Cx.n Zw,Cx.n Zz,Cx.f YM,Cx.i ZU,Cx.n a7,Cx.n a8,Cx.i ZV,Cx.i ZW,Cx.i ZY,Cx.n aa,Cx.i ZZ,Cx.i Za,Cx.f YN])
def aku:BO (cX JJ):=ba JJ jr ES apk [V.agg [D R,D S,D Z,D x3,D O,D x5,D x6,D x7,V.bool b8],V.agg [D x9,D Ql,D Qn,D Qp]]
def BB (cx:List Cx):Lp JJ:=iZ (ik (aku R S Z x3 O x5 x6 x7 b8 x9 Ql Qn Qp) [false,true,true,true,true,false,true])
def agt (cx:List Cx):Lp JJ:=iZ (ik (vE jr ES (0,[]) (BB R S Z x3 O x5 x6 x7 b8 x9 Ql Qn Qp []) (lI R S Z x3 O x5 x6 x7 b8 x9 Ql Qn Qp (.L0 (0:Int) (λ_=>[])))) [true])
def EW (cx:List Cx):Lp JJ:=iZ (ik (vE jr ES (0,[]) (BB R S Z x3 O x5 x6 x7 b8 x9 Ql Qn Qp []) (lI R S Z x3 O x5 x6 x7 b8 x9 Ql Qn Qp (.L0 (c8 cx 0) (lF cx 1)))) [false,false])
def GO (cx:List Cx):Lp JJ:=iZ (ik (vE jr ES (2,[.i (c8 cx 0),.f (lF cx 1)]) (EW R S Z x3 O x5 x6 x7 b8 x9 Ql Qn Qp [.i (c8 cx 0),.f (lF cx 1)]) (lI R S Z x3 O x5 x6 x7 b8 x9 Ql Qn Qp (.L2 (0:Int) (λ_=>[]) (c8 cx 0) (lF cx 1)))) IN)
def GB (cx:List Cx):Lp JJ:=iZ (ik (vE jr ES (2,[.i (0:Int),.f (λ_=>[])]) (EW R S Z x3 O x5 x6 x7 b8 x9 Ql Qn Qp [.i (0:Int),.f (λ_=>[])]) (lI R S Z x3 O x5 x6 x7 b8 x9 Ql Qn Qp (.L2 (c8 cx 0) (lF cx 1) (0:Int) (λ_=>[])))) [false,false])
def adZ (cx:List Cx):Lp JJ:=iZ (ik (vE jr ES (3,[.i (0:Int),.f (λ_=>[])]) (GO R S Z x3 O x5 x6 x7 b8 x9 Ql Qn Qp [.i (0:Int),.f (λ_=>[])]) (lI R S Z x3 O x5 x6 x7 b8 x9 Ql Qn Qp (.L3 (0:Int) 0 0 (0:Int) (0:Int) (0:Int) 0 (0:Int) (0:Int) (λ_=>[]) (0:Int) (λ_=>[])))) [false,true])
section
variable (cx:List Cx)
include cx
def ahW:Lp JJ:=iZ (ik (vE jr ES (4,[.i (c8 cx 0),.f (lF cx 1)]) (GB R S Z x3 O x5 x6 x7 b8 x9 Ql Qn Qp [.i (c8 cx 0),.f (lF cx 1)]) (lI R S Z x3 O x5 x6 x7 b8 x9 Ql Qn Qp (.L4 (0:Int) (λ_=>[]) 0 (λ_=>[]) (c8 cx 0) (lF cx 1)))) [true])
def AW:Lp JJ:=iZ (ik (vE jr ES (3,[.i (0:Int),.f (λ_=>[])]) (GO R S Z x3 O x5 x6 x7 b8 x9 Ql Qn Qp [.i (0:Int),.f (λ_=>[])]) (lI R S Z x3 O x5 x6 x7 b8 x9 Ql Qn Qp (.L3 (c8 cx 0) (ge cx 1) (ge cx 2) (c8 cx 3) (c8 cx 4) (c8 cx 5) (ge cx 6) (c8 cx 7) (c8 cx 8) (lF cx 9) (0:Int) (λ_=>[])))) [false,false])
def C55:Lp JJ:=iZ (ik (vE jr ES (4,[.i (c8 cx 0),.f (lF cx 1)]) (GB R S Z x3 O x5 x6 x7 b8 x9 Ql Qn Qp [.i (c8 cx 0),.f (lF cx 1)]) (lI R S Z x3 O x5 x6 x7 b8 x9 Ql Qn Qp (.L4 (0:Int) (λ_=>[]) 0 (λ_=>[]) (c8 cx 0) (lF cx 1)))) [false])
def np6:Lp JJ:=iZ (ik (vE jr ES (12,[.i (c8 cx 0),.n (ge cx 1),.n (ge cx 2),.i (c8 cx 3),.i (c8 cx 4),.i (c8 cx 5),.n (ge cx 6),.i (c8 cx 7),.i (c8 cx 8),.f (lF cx 9)]) (AW R S Z x3 O x5 x6 x7 b8 x9 Ql Qn Qp [.i (c8 cx 0),.n (ge cx 1),.n (ge cx 2),.i (c8 cx 3),.i (c8 cx 4),.i (c8 cx 5),.n (ge cx 6),.i (c8 cx 7),.i (c8 cx 8),.f (lF cx 9)]) (lI R S Z x3 O x5 x6 x7 b8 x9 Ql Qn Qp (.L12 (0:Int) (0:Int) 0 (λ_=>[]) 0 (λ_=>[]) (c8 cx 0) (ge cx 1) (ge cx 2) (c8 cx 3) (c8 cx 4) (c8 cx 5) (ge cx 6) (c8 cx 7) (c8 cx 8) (lF cx 9)))) [true])
def adK:Lp JJ:=iZ (ik (vE jr ES (12,[.i (c8 cx 0),.n (ge cx 1),.n (ge cx 2),.i (c8 cx 3),.i (c8 cx 4),.i (c8 cx 5),.n (ge cx 6),.i (c8 cx 7),.i (c8 cx 8),.f (lF cx 9)]) (AW R S Z x3 O x5 x6 x7 b8 x9 Ql Qn Qp [.i (c8 cx 0),.n (ge cx 1),.n (ge cx 2),.i (c8 cx 3),.i (c8 cx 4),.i (c8 cx 5),.n (ge cx 6),.i (c8 cx 7),.i (c8 cx 8),.f (lF cx 9)]) (lI R S Z x3 O x5 x6 x7 b8 x9 Ql Qn Qp (.L12 (0:Int) (0:Int) 0 (λ_=>[]) 0 (λ_=>[]) (c8 cx 0) (ge cx 1) (ge cx 2) (c8 cx 3) (c8 cx 4) (c8 cx 5) (ge cx 6) (c8 cx 7) (c8 cx 8) (lF cx 9)))) [false])
def C99:Lp JJ:=iZ (ik (vE jr ES (13,[.i (c8 cx 6),.f (lF cx 7)]) (C55 R S Z x3 O x5 x6 x7 b8 x9 Ql Qn Qp [.i (c8 cx 6),.f (lF cx 7)]) (lI R S Z x3 O x5 x6 x7 b8 x9 Ql Qn Qp (.L13 (c8 cx 0) (c8 cx 1) (lF cx 2) (ge cx 3) (ge cx 4) (lF cx 5) (c8 cx 6) (lF cx 7)))) [false])
def inU:Lp JJ:=iZ (ik (vE jr ES (18,[.i (c8 cx 0),.i (c8 cx 1),.f (lF cx 2),.n (ge cx 3),.n (ge cx 4),.f (lF cx 5),.i (c8 cx 6),.f (lF cx 7)]) (C99 R S Z x3 O x5 x6 x7 b8 x9 Ql Qn Qp [.i (c8 cx 0),.i (c8 cx 1),.f (lF cx 2),.n (ge cx 3),.n (ge cx 4),.f (lF cx 5),.i (c8 cx 6),.f (lF cx 7)]) (lI R S Z x3 O x5 x6 x7 b8 x9 Ql Qn Qp (.L18 (0:Int) (λ_=>[]) (ge cx 3) (ge cx 4) (λ_=>[]) (c8 cx 0) (c8 cx 1) (lF cx 2) (lF cx 5) (c8 cx 6) (lF cx 7)))) [true])
def Ret:Lp JJ:=iZ (ik (vE jr ES (15,[.i (c8 cx 8),.n (ge cx 9),.n (ge cx 10),.i (c8 cx 11),.i (c8 cx 12),.i (c8 cx 13),.n (ge cx 14),.i (c8 cx 15),.i (c8 cx 16),.f (lF cx 17)]) (adK R S Z x3 O x5 x6 x7 b8 x9 Ql Qn Qp [.i (c8 cx 8),.n (ge cx 9),.n (ge cx 10),.i (c8 cx 11),.i (c8 cx 12),.i (c8 cx 13),.n (ge cx 14),.i (c8 cx 15),.i (c8 cx 16),.f (lF cx 17)]) (lI R S Z x3 O x5 x6 x7 b8 x9 Ql Qn Qp (.L15 (c8 cx 0) (c8 cx 1) (c8 cx 2) (ge cx 3) (lF cx 4) (ge cx 5) (ge cx 6) (lF cx 7) (c8 cx 8) (ge cx 9) (ge cx 10) (c8 cx 11) (c8 cx 12) (c8 cx 13) (ge cx 14) (c8 cx 15) (c8 cx 16) (lF cx 17)))) [false])
def mmV:Lp JJ:=iZ (ik (vE jr ES (24,[.i (c8 cx 0),.i (c8 cx 1),.i (c8 cx 2),.n (ge cx 3),.f (lF cx 4),.n (ge cx 5),.n (ge cx 6),.f (lF cx 7),.i (c8 cx 8),.n (ge cx 9),.n (ge cx 10),.i (c8 cx 11),.i (c8 cx 12),.i (c8 cx 13),.n (ge cx 14),.i (c8 cx 15),.i (c8 cx 16),.f (lF cx 17)]) (Ret R S Z x3 O x5 x6 x7 b8 x9 Ql Qn Qp [.i (c8 cx 0),.i (c8 cx 1),.i (c8 cx 2),.n (ge cx 3),.f (lF cx 4),.n (ge cx 5),.n (ge cx 6),.f (lF cx 7),.i (c8 cx 8),.n (ge cx 9),.n (ge cx 10),.i (c8 cx 11),.i (c8 cx 12),.i (c8 cx 13),.n (ge cx 14),.i (c8 cx 15),.i (c8 cx 16),.f (lF cx 17)]) (lI R S Z x3 O x5 x6 x7 b8 x9 Ql Qn Qp (.L24 (0:Int) 0 (0:Int) (λ_=>[]) (ge cx 5) (ge cx 6) (λ_=>[]) (c8 cx 0) (c8 cx 1) (c8 cx 2) (ge cx 3) (lF cx 4) (lF cx 7) (c8 cx 8) (ge cx 9) (ge cx 10) (c8 cx 11) (c8 cx 12) (c8 cx 13) (ge cx 14) (c8 cx 15) (c8 cx 16) (lF cx 17)))) [true])
end
def apN:JJ->Lp JJ
 |(0,cx)=>BB R S Z x3 O x5 x6 x7 b8 x9 Ql Qn Qp cx|(1,cx)=>agt R S Z x3 O x5 x6 x7 b8 x9 Ql Qn Qp cx|(2,cx)=>EW R S Z x3 O x5 x6 x7 b8 x9 Ql Qn Qp cx|(3,cx)=>GO R S Z x3 O x5 x6 x7 b8 x9 Ql Qn Qp cx|(4,cx)=>GB R S Z x3 O x5 x6 x7 b8 x9 Ql Qn Qp cx|(5,cx)=>adZ R S Z x3 O x5 x6 x7 b8 x9 Ql Qn Qp cx|(7,cx)=>ahW R S Z x3 O x5 x6 x7 b8 x9 Ql Qn Qp cx|(12,cx)=>AW R S Z x3 O x5 x6 x7 b8 x9 Ql Qn Qp cx|(13,cx)=>C55 R S Z x3 O x5 x6 x7 b8 x9 Ql Qn Qp cx|(14,cx)=>np6 R S Z x3 O x5 x6 x7 b8 x9 Ql Qn Qp cx|(15,cx)=>adK R S Z x3 O x5 x6 x7 b8 x9 Ql Qn Qp cx|(18,cx)=>C99 R S Z x3 O x5 x6 x7 b8 x9 Ql Qn Qp cx|(20,cx)=>inU R S Z x3 O x5 x6 x7 b8 x9 Ql Qn Qp cx|(24,cx)=>Ret R S Z x3 O x5 x6 x7 b8 x9 Ql Qn Qp cx|(25,cx)=>mmV R S Z x3 O x5 x6 x7 b8 x9 Ql Qn Qp cx|(_,cx)=>BB R S Z x3 O x5 x6 x7 b8 x9 Ql Qn Qp cx
def D57:LD JJ jI:=⟨art,apN R S Z x3 O x5 x6 x7 b8 x9 Ql Qn Qp,lI R S Z x3 O x5 x6 x7 b8 x9 Ql Qn Qp⟩
abbrev Ig:=[some (some 18)]
def fw (R S Z x3 O x5 x6 x7:Int) (b8:Bool) (x9 Ql Qn Qp:Int):jI->RT jI
 |.L0 Qg TD=>.br (decide (Qg<(↑8:Int))) (.enter (iR 0 14 []) (jI.L1 Qg Qg (A aK TD)) [⟨13,aK,8,A aK TD,aF rfl _ _⟩]) (.brf (.enter (iR 0 14 []) (jI.L2 1 (A aK TD) Qg TD) [⟨13,aK,8,A aK TD,aF rfl _ _⟩]))|.L1 RS Yp TJ=>.ii (.obj (decide (0<RS)) (decide (0<=RS/\RS<(↑8:Int)/\8<=8)) (.obi (.obj (decide (0<RS)) (decide (RS.toNat<8)) (.ii (.obi (.obj (decide (0<RS)) (decide (0<=I (RS-1)/\I (RS-1)<(↑8:Int)/\8<=8)) (.obi (.obj (decide (0<RS)) (decide ((I (RS-1)).toNat<8)) (.br (decide (0<RS)) (.ob (decide (0<RS)) (.ob (decide (0<RS)) (.ob (decide (0<RS)) (.cb (.br (decide (ra (aE (TJ RS.toNat)) (bM (TJ RS.toNat)) (aE (TJ (I (RS-1)).toNat)) (bM (TJ (I (RS-1)).toNat))<0)) (.ob (decide (0<=I (RS-1)/\I (RS-1)<(↑8:Int)/\8<=8)) (.ob (decide ((I (RS-1)).toNat<8)) (.ob (decide (0<=RS/\RS<(↑8:Int)/\8<=8)) (.ob (decide (RS.toNat<8)) (.ob (decide (0<=RS/\RS<(↑8:Int)/\8<=8)) (.ob (decide (RS.toNat<8)) (.ob (decide (0<=I (RS-1)/\I (RS-1)<(↑8:Int)/\8<=8)) (.ob (decide ((I (RS-1)).toNat<8)) (.next (iR 0 14 []) (jI.L1 (I (RS-1)) Yp (λi'=>bif i'.beq (I (RS-1)).toNat then [D (aE (TJ RS.toNat)),D (bM (TJ RS.toNat))] else bif i'.beq RS.toNat then [D (aE (TJ (I (RS-1)).toNat)),D (bM (TJ (I (RS-1)).toNat))] else A aK TJ i')) [⟨13,aK,8,λi'=>bif i'.beq (I (RS-1)).toNat then [D (aE (TJ RS.toNat)),D (bM (TJ RS.toNat))] else bif i'.beq RS.toNat then [D (aE (TJ (I (RS-1)).toNat)),D (bM (TJ (I (RS-1)).toNat))] else A aK TJ i',oc rfl (oc rfl (aF rfl _ _) rfl) rfl⟩]))))))))) (.next (iR 0 14 []) (jI.L0 (I (Yp+1)) (A aK TJ)) [⟨13,aK,8,A aK TJ,aF rfl _ _⟩])))))) (.next (iR 0 14 []) (jI.L0 (I (Yp+1)) (A aK TJ)) [⟨13,aK,8,A aK TJ,aF rfl _ _⟩]))))))))))|.L2 RN TN Tf ab=>.br (decide (RN<(↑8:Int))) (.ob (decide (0<=RN/\RN<(↑8:Int)/\8<=8)) (.ob (decide (RN.toNat<8)) (.ob (decide (0<=I (RN-1)/\I (RN-1)<(↑8:Int)/\8<=8)) (.ob (decide ((I (RN-1)).toNat<8)) (.br (aE (TN RN.toNat)==aE (TN (I (RN-1)).toNat)&&(bM (TN RN.toNat)==bM (TN (I (RN-1)).toNat)&&true)) (.ob (decide (0<=RN/\RN<=(↑8:Int))) (.enter (iR 0 14 []) (jI.L3 1 (RN.toNat) (8-RN.toNat) RN (aE (TN (I (RN-1)).toNat)) (bM (TN (I (RN-1)).toNat)) ((I (RN-1)).toNat) (I (RN-1)) RN (A aK TN) Tf ab) [⟨13,aK,8,A aK TN,aF rfl _ _⟩])) (.next (iR 0 14 []) (jI.L2 (I (RN+1)) (A aK TN) Tf ab) [⟨13,aK,8,A aK TN,aF rfl _ _⟩])))))) (.brf (.enter (iR 0 15 [some none]) (jI.L4 0 (A aK TN) 0 (λi=>[]) RN TN) [⟨13,aK,8,A aK TN,aF rfl _ _⟩]))|.L3 Rz TM Ub XF Yq Ys Zc Yu SO TQ f0 ah=>.br (decide (Rz<(↑Ub:Int))) (.ob (decide (0<=Rz/\Rz<(↑Ub:Int)/\TM+Ub<=8)) (.ob (decide (TM+Rz.toNat<8)) (.ob (decide (0<=I (Rz-1)/\I (Rz-1)<(↑Ub:Int)/\TM+Ub<=8)) (.ob (decide (TM+(I (Rz-1)).toNat<8)) (.br (!(aE (TQ (TM+Rz.toNat))==aE (TQ (TM+(I (Rz-1)).toNat))&&(bM (TQ (TM+Rz.toNat))==bM (TQ (TM+(I (Rz-1)).toNat))&&true))) (.ob (decide (0<=Rz/\Rz<(↑Ub:Int)/\TM+Ub<=8)) (.ob (decide (TM+Rz.toNat<8)) (.ob (decide (0<=SO/\SO<(↑8:Int)/\8<=8)) (.ob (decide (SO.toNat<8)) (.next (iR 0 14 []) (jI.L3 (I (Rz+1)) TM Ub XF Yq Ys Zc Yu (I (SO+1)) (λi'=>bif i'.beq SO.toNat then [D (aE (TQ (TM+Rz.toNat))),D (bM (TQ (TM+Rz.toNat)))] else A aK TQ i') f0 ah) [⟨13,aK,8,λi'=>bif i'.beq SO.toNat then [D (aE (TQ (TM+Rz.toNat))),D (bM (TQ (TM+Rz.toNat)))] else A aK TQ i',oc rfl (aF rfl _ _) rfl⟩]))))) (.next (iR 0 14 []) (jI.L3 (I (Rz+1)) TM Ub XF Yq Ys Zc Yu SO (A aK TQ) f0 ah) [⟨13,aK,8,A aK TQ,aF rfl _ _⟩])))))) (.ob (decide (0<=SO/\SO<=(↑8:Int))) (.ob (decide (0<8-SO.toNat/\SO.toNat+(8-SO.toNat)<=8)) (.ob (decide (0<=SO/\SO<=(↑8:Int))) (.br (decide ((↑SO.toNat:Int)<3)) (.enter [some (some 13),some (some 0)] (jI.L5 0 ((↑SO.toNat:Int)) (SO.toNat) (decide (2<(↑SO.toNat:Int))) 8 (λi=>bif SO.toNat.ble i&&i.succ.ble (SO.toNat+(8-SO.toNat)) then G7 else A aK TQ i)) [⟨0,aK,8,λi=>bif SO.toNat.ble i&&i.succ.ble (SO.toNat+(8-SO.toNat)) then G7 else A aK TQ i,abU rfl (aF rfl _ _) rfl⟩]) (.enter (iR 0 15 [some none]) (jI.L12 0 ((↑SO.toNat:Int)) (SO.toNat) (λi=>bif SO.toNat.ble i&&i.succ.ble (SO.toNat+(8-SO.toNat)) then G7 else A aK TQ i) 0 (λi=>[]) Rz TM Ub XF Yq Ys Zc Yu SO TQ) [⟨13,aK,8,λi=>bif SO.toNat.ble i&&i.succ.ble (SO.toNat+(8-SO.toNat)) then G7 else A aK TQ i,abU rfl (aF rfl _ _) rfl⟩])))))|.L4 Rj WI Sw XJ W5 a₂=>.br (decide (Rj<(↑8:Int))) (.ob (decide (0<=Rj/\Rj<(↑8:Int)/\8<=8)) (.ob (decide (Rj.toNat<8)) (.enter (iR 0 15 [some (some 16),some (some 15)]) (jI.L7 Rj (A aK WI) Sw (aE (WI Rj.toNat)) (bM (WI Rj.toNat)) Sw (A aK XJ) W5 a₂) [⟨13,aK,8,A aK WI,aF rfl _ _⟩,⟨16,aK,Sw,A aK XJ,aF rfl _ _⟩]))) (.ob (decide (0<=I ((↑Sw:Int)-1)/\I ((↑Sw:Int)-1)<=(↑Sw:Int))) (.enter (iR 0 16 []) (jI.L13 (I ((↑8:Int)-1)) 0 (A aK WI) ((I ((↑Sw:Int)-1)).toNat) Sw (A aK XJ) W5 a₂) [⟨13,aK,8,A aK WI,aF rfl _ _⟩,⟨15,aK,Sw,A aK XJ,aF rfl _ _⟩]))|.L5 RY Yv Sc XI Vm UG=>.br (decide (RY<Yv)) (.ob (decide (0<=RY/\RY<(↑Sc:Int)/\Sc<=Vm)) (.ob (decide (RY.toNat<Vm)) (.ob (decide ((↑Sc:Int)≠0)) (.ob (decide (0<=(I (RY+1)).tmod (↑Sc:Int)/\(I (RY+1)).tmod (↑Sc:Int)<(↑Sc:Int)/\Sc<=Vm)) (.ob (decide (((I (RY+1)).tmod (↑Sc:Int)).toNat<Vm)) (.cb (.br (kk (aE (UG RY.toNat)) (bM (UG RY.toNat)) (aE (UG ((I (RY+1)).tmod (↑Sc:Int)).toNat)) (bM (UG ((I (RY+1)).tmod (↑Sc:Int)).toNat)) x5 x6 x7) (.ret (V.kb true)) (.obi (.br (XI) (.ob (XI) (.ob (XI) (.cb (.next IC (jI.L5 (I (RY+1)) Yv Sc (decide (0<kC (aE (UG RY.toNat)) (bM (UG RY.toNat)) (aE (UG ((I (RY+1)).tmod (↑Sc:Int)).toNat)) (bM (UG ((I (RY+1)).tmod (↑Sc:Int)).toNat)) x5 x6)) Vm (A aK UG)) [⟨0,aK,Vm,A aK UG,aF rfl _ _⟩])))) (.next IC (jI.L5 (I (RY+1)) Yv Sc (false) Vm (A aK UG)) [⟨0,aK,Vm,A aK UG,aF rfl _ _⟩])))))))))) (.ret (V.bool XI))|.L7 W6 WJ Rw UC Ux Vp Uj W7 Y8=>.iv (.obj (decide (I (0+1)<(↑Rw:Int))) (decide (0<=I ((↑Rw:Int)-2)/\I ((↑Rw:Int)-2)<(↑Rw:Int)/\Rw<=Vp)) (.obi (.obj (decide (I (0+1)<(↑Rw:Int))) (decide ((I ((↑Rw:Int)-2)).toNat<Vp)) (.iv (.obj (decide (I (0+1)<(↑Rw:Int))) (decide (0<=I ((↑Rw:Int)-1)/\I ((↑Rw:Int)-1)<(↑Rw:Int)/\Rw<=Vp)) (.obi (.obj (decide (I (0+1)<(↑Rw:Int))) (decide ((I ((↑Rw:Int)-1)).toNat<Vp)) (.ii (.br (decide (I (0+1)<(↑Rw:Int))) (.ob (decide (I (0+1)<(↑Rw:Int))) (.ob (decide (I (0+1)<(↑Rw:Int))) (.cb (.br (decide (kC (aE (Uj (I ((↑Rw:Int)-2)).toNat)) (bM (Uj (I ((↑Rw:Int)-2)).toNat)) (aE (Uj (I ((↑Rw:Int)-1)).toNat)) (bM (Uj (I ((↑Rw:Int)-1)).toNat)) UC Ux<=0)) (.ob (decide (0<=I ((↑Rw:Int)-1)/\I ((↑Rw:Int)-1)<=(↑Rw:Int))) (.next (iR 0 17 []) (jI.L7 W6 (A aK WJ) ((I ((↑Rw:Int)-1)).toNat) UC Ux Vp (A aK Uj) W7 Y8) [⟨13,aK,8,A aK WJ,aF rfl _ _⟩,⟨16,aK,Vp,A aK Uj,aF rfl _ _⟩])) (.obt (.ob (decide (Rw<=Vp/\(Rw+1)*16<=140737488355328)&&!Nat.beq 16 0) (.next (iR 0 15 Ig) (jI.L4 (I (W6+1)) (A aK WJ) (Rw+1) (bH Rw (A aK Uj) λx=>[D UC,D Ux]) W7 Y8) [⟨13,aK,8,A aK WJ,aF rfl _ _⟩,⟨15,aK,Rw+1,bH Rw (A aK Uj) λx=>[D UC,D Ux],gO (aF rfl _ _) (fH rfl _ rfl)⟩]))))))) (.obt (.ob (decide (Rw<=Vp/\(Rw+1)*16<=140737488355328)&&!Nat.beq 16 0) (.next (iR 0 15 Ig) (jI.L4 (I (W6+1)) (A aK WJ) (Rw+1) (bH Rw (A aK Uj) λx=>[D UC,D Ux]) W7 Y8) [⟨13,aK,8,A aK WJ,aF rfl _ _⟩,⟨15,aK,Rw+1,bH Rw (A aK Uj) λx=>[D UC,D Ux],gO (aF rfl _ _) (fH rfl _ rfl)⟩]))))))))))))|.L12 W8 fg Xt WK V4 XK g7 iu j0 g9 fl fm i6 fx XH bK=>.br (decide (W8<fg)) (.ob (decide (0<=W8/\W8<(↑Xt:Int)/\Xt<=8)) (.ob (decide (W8.toNat<8)) (.enter (iR 0 15 [some (some 16),some (some 15)]) (jI.L14 W8 fg Xt (A aK WK) V4 (aE (WK W8.toNat)) (bM (WK W8.toNat)) V4 (A aK XK) g7 iu j0 g9 fl fm i6 fx XH bK) [⟨13,aK,8,A aK WK,aF rfl _ _⟩,⟨16,aK,V4,A aK XK,aF rfl _ _⟩]))) (.ob (decide (0<=I ((↑V4:Int)-1)/\I ((↑V4:Int)-1)<=(↑V4:Int))) (.enter (iR 0 16 []) (jI.L15 (I ((↑XH.toNat:Int)-1)) 0 ((↑XH.toNat:Int)) (XH.toNat) (A aK WK) ((I ((↑V4:Int)-1)).toNat) V4 (A aK XK) g7 iu j0 g9 fl fm i6 fx XH bK) [⟨13,aK,8,A aK WK,aF rfl _ _⟩,⟨15,aK,V4,A aK XK,aF rfl _ _⟩]))|.L13 Ti Tj U0 Zf Xu Wq gt bn=>.br (decide (Tj<Ti)) (.ob (decide (0<=Ti/\Ti<(↑8:Int)/\8<=8)) (.ob (decide (Ti.toNat<8)) (.ob (decide (0<=Tj/\Tj<(↑8:Int)/\8<=8)) (.ob (decide (Tj.toNat<8)) (.ob (decide (0<=Tj/\Tj<(↑8:Int)/\8<=8)) (.ob (decide (Tj.toNat<8)) (.ob (decide (0<=Ti/\Ti<(↑8:Int)/\8<=8)) (.ob (decide (Ti.toNat<8)) (.next (iR 0 16 []) (jI.L13 (I (Ti-1)) (I (Tj+1)) (λi'=>bif i'.beq Ti.toNat then [D (aE (U0 Tj.toNat)),D (bM (U0 Tj.toNat))] else bif i'.beq Tj.toNat then [D (aE (U0 Ti.toNat)),D (bM (U0 Ti.toNat))] else A aK U0 i') Zf Xu (A aK Wq) gt bn) [⟨13,aK,8,λi'=>bif i'.beq Ti.toNat then [D (aE (U0 Tj.toNat)),D (bM (U0 Tj.toNat))] else bif i'.beq Tj.toNat then [D (aE (U0 Ti.toNat)),D (bM (U0 Ti.toNat))] else A aK U0 i',oc rfl (oc rfl (aF rfl _ _) rfl) rfl⟩,⟨15,aK,Xu,A aK Wq,aF rfl _ _⟩]))))))))) (.enter (iR 0 16 []) (jI.L18 ((↑Zf:Int)) (A aK U0) Zf Xu (A aK Wq) Ti Tj U0 Wq gt bn) [⟨13,aK,8,A aK U0,aF rfl _ _⟩,⟨15,aK,Xu,A aK Wq,aF rfl _ _⟩])|.L14 Yx Yy Xv WL S2 Wi Wl Vq Ul Z7 Zh Zi Yz Z2 Z3 Zj Z5 Z6 Y9=>.iv (.obj (decide (I (0+1)<(↑S2:Int))) (decide (0<=I ((↑S2:Int)-2)/\I ((↑S2:Int)-2)<(↑S2:Int)/\S2<=Vq)) (.obi (.obj (decide (I (0+1)<(↑S2:Int))) (decide ((I ((↑S2:Int)-2)).toNat<Vq)) (.iv (.obj (decide (I (0+1)<(↑S2:Int))) (decide (0<=I ((↑S2:Int)-1)/\I ((↑S2:Int)-1)<(↑S2:Int)/\S2<=Vq)) (.obi (.obj (decide (I (0+1)<(↑S2:Int))) (decide ((I ((↑S2:Int)-1)).toNat<Vq)) (.ii (.br (decide (I (0+1)<(↑S2:Int))) (.ob (decide (I (0+1)<(↑S2:Int))) (.ob (decide (I (0+1)<(↑S2:Int))) (.cb (.br (decide (kC (aE (Ul (I ((↑S2:Int)-2)).toNat)) (bM (Ul (I ((↑S2:Int)-2)).toNat)) (aE (Ul (I ((↑S2:Int)-1)).toNat)) (bM (Ul (I ((↑S2:Int)-1)).toNat)) Wi Wl<=0)) (.ob (decide (0<=I ((↑S2:Int)-1)/\I ((↑S2:Int)-1)<=(↑S2:Int))) (.next (iR 0 17 []) (jI.L14 Yx Yy Xv (A aK WL) ((I ((↑S2:Int)-1)).toNat) Wi Wl Vq (A aK Ul) Z7 Zh Zi Yz Z2 Z3 Zj Z5 Z6 Y9) [⟨13,aK,8,A aK WL,aF rfl _ _⟩,⟨16,aK,Vq,A aK Ul,aF rfl _ _⟩])) (.obt (.ob (decide (S2<=Vq/\(S2+1)*16<=140737488355328)&&!Nat.beq 16 0) (.next (iR 0 15 Ig) (jI.L12 (I (Yx+1)) Yy Xv (A aK WL) (S2+1) (bH S2 (A aK Ul) λx=>[D Wi,D Wl]) Z7 Zh Zi Yz Z2 Z3 Zj Z5 Z6 Y9) [⟨13,aK,8,A aK WL,aF rfl _ _⟩,⟨15,aK,S2+1,bH S2 (A aK Ul) λx=>[D Wi,D Wl],gO (aF rfl _ _) (fH rfl _ rfl)⟩]))))))) (.obt (.ob (decide (S2<=Vq/\(S2+1)*16<=140737488355328)&&!Nat.beq 16 0) (.next (iR 0 15 Ig) (jI.L12 (I (Yx+1)) Yy Xv (A aK WL) (S2+1) (bH S2 (A aK Ul) λx=>[D Wi,D Wl]) Z7 Zh Zi Yz Z2 Z3 Zj Z5 Z6 Y9) [⟨13,aK,8,A aK WL,aF rfl _ _⟩,⟨15,aK,S2+1,bH S2 (A aK Ul) λx=>[D Wi,D Wl],gO (aF rfl _ _) (fH rfl _ rfl)⟩]))))))))))))|.L15 Tn Tp hG Uc U2 Zk Xw Wr hZ k9 jf gu gv h1 jg h2 Xo c5=>.br (decide (Tp<Tn)) (.ob (decide (0<=Tn/\Tn<(↑Uc:Int)/\Uc<=8)) (.ob (decide (Tn.toNat<8)) (.ob (decide (0<=Tp/\Tp<(↑Uc:Int)/\Uc<=8)) (.ob (decide (Tp.toNat<8)) (.ob (decide (0<=Tp/\Tp<(↑Uc:Int)/\Uc<=8)) (.ob (decide (Tp.toNat<8)) (.ob (decide (0<=Tn/\Tn<(↑Uc:Int)/\Uc<=8)) (.ob (decide (Tn.toNat<8)) (.next (iR 0 16 []) (jI.L15 (I (Tn-1)) (I (Tp+1)) hG Uc (λi'=>bif i'.beq Tn.toNat then [D (aE (U2 Tp.toNat)),D (bM (U2 Tp.toNat))] else bif i'.beq Tp.toNat then [D (aE (U2 Tn.toNat)),D (bM (U2 Tn.toNat))] else A aK U2 i') Zk Xw (A aK Wr) hZ k9 jf gu gv h1 jg h2 Xo c5) [⟨13,aK,8,λi'=>bif i'.beq Tn.toNat then [D (aE (U2 Tp.toNat)),D (bM (U2 Tp.toNat))] else bif i'.beq Tp.toNat then [D (aE (U2 Tn.toNat)),D (bM (U2 Tn.toNat))] else A aK U2 i',oc rfl (oc rfl (aF rfl _ _) rfl) rfl⟩,⟨15,aK,Xw,A aK Wr,aF rfl _ _⟩]))))))))) (.enter (iR 0 16 []) (jI.L24 ((↑Xo.toNat:Int)) (Xo.toNat) ((↑Zk:Int)) (A aK U2) Zk Xw (A aK Wr) Tn Tp hG Uc U2 Wr hZ k9 jf gu gv h1 jg h2 Xo c5) [⟨13,aK,8,A aK U2,aF rfl _ _⟩,⟨15,aK,Xw,A aK Wr,aF rfl _ _⟩])|.L18 xq XL Xx Xz ca xv y8 nB nH yB n2=>.brt (.obt (.obt (.enter (iR 0 17 []) (jI.L20 xq (A aK XL) Xx Xz (A aK ca) (aE (XL 0)) (bM (XL 0)) xv y8 nB Xx nH yB n2) [⟨13,aK,8,A aK XL,aF rfl _ _⟩,⟨15,aK,Xz,A aK ca,aF rfl _ _⟩])))|.L20 Uy WM S3 UO Um Vb Vd Z9 ZA YD Zl YB Z8 YC=>.iv (.obj (decide (I (Uy+1)<(↑S3:Int))) (decide (0<=I ((↑S3:Int)-2)/\I ((↑S3:Int)-2)<(↑S3:Int)/\S3<=UO)) (.obi (.obj (decide (I (Uy+1)<(↑S3:Int))) (decide ((I ((↑S3:Int)-2)).toNat<UO)) (.iv (.obj (decide (I (Uy+1)<(↑S3:Int))) (decide (0<=I ((↑S3:Int)-1)/\I ((↑S3:Int)-1)<(↑S3:Int)/\S3<=UO)) (.obi (.obj (decide (I (Uy+1)<(↑S3:Int))) (decide ((I ((↑S3:Int)-1)).toNat<UO)) (.ii (.br (decide (I (Uy+1)<(↑S3:Int))) (.ob (decide (I (Uy+1)<(↑S3:Int))) (.ob (decide (I (Uy+1)<(↑S3:Int))) (.cb (.br (decide (kC (aE (Um (I ((↑S3:Int)-2)).toNat)) (bM (Um (I ((↑S3:Int)-2)).toNat)) (aE (Um (I ((↑S3:Int)-1)).toNat)) (bM (Um (I ((↑S3:Int)-1)).toNat)) Vb Vd<=0)) (.ob (decide (0<=I ((↑S3:Int)-1)/\I ((↑S3:Int)-1)<=(↑S3:Int))) (.next (iR 0 17 []) (jI.L20 Uy (A aK WM) ((I ((↑S3:Int)-1)).toNat) UO (A aK Um) Vb Vd Z9 ZA YD Zl YB Z8 YC) [⟨13,aK,8,A aK WM,aF rfl _ _⟩,⟨15,aK,UO,A aK Um,aF rfl _ _⟩])) (.obt (.ob (decide (S3<=UO/\(S3+1)*16<=140737488355328)&&!Nat.beq 16 0) (.next (iR 0 17 Ig) (jI.L22 (I (0+1)) Uy (A aK WM) (S3+1) Vb Vd (bH S3 (A aK Um) λx=>[D Vb,D Vd]) Z9 ZA YD Zl UO YB Z8 YC) [⟨13,aK,8,A aK WM,aF rfl _ _⟩,⟨17,aK,S3+1,bH S3 (A aK Um) λx=>[D Vb,D Vd],gO (aF rfl _ _) (fH rfl _ rfl)⟩]))))))) (.obt (.ob (decide (S3<=UO/\(S3+1)*16<=140737488355328)&&!Nat.beq 16 0) (.next (iR 0 17 Ig) (jI.L22 (I (0+1)) Uy (A aK WM) (S3+1) Vb Vd (bH S3 (A aK Um) λx=>[D Vb,D Vd]) Z9 ZA YD Zl UO YB Z8 YC) [⟨13,aK,8,A aK WM,aF rfl _ _⟩,⟨17,aK,S3+1,bH S3 (A aK Um) λx=>[D Vb,D Vd],gO (aF rfl _ _) (fH rfl _ rfl)⟩]))))))))))))|.L22 W9 yF XM UP _ _ XO yZ yb oC zd zg nq yY o0=>.br (decide (W9<(↑8:Int))) (.ob (decide (0<=W9/\W9<(↑8:Int)/\8<=8)) (.ob (decide (W9.toNat<8)) (.enter (iR 0 16 [some (some 18),some (some 17)]) (jI.L23 W9 yF (A aK XM) UP (aE (XM W9.toNat)) (bM (XM W9.toNat)) UP (A aK XO) yZ yb oC zd zg nq yY o0) [⟨13,aK,8,A aK XM,aF rfl _ _⟩,⟨17,aK,UP,A aK XO,aF rfl _ _⟩]))) (.ob (decide (0<=I ((↑UP:Int)-1)/\I ((↑UP:Int)-1)<=(↑UP:Int))) (.enter [some (some 17),some (some 0)] (jI.L5 0 ((↑(I ((↑UP:Int)-1)).toNat:Int)) ((I ((↑UP:Int)-1)).toNat) (decide (2<(↑(I ((↑UP:Int)-1)).toNat:Int))) UP (A aK XO)) [⟨0,aK,UP,A aK XO,aF rfl _ _⟩]))|.L23 ZB H1 WN S4 Ve Vf Vr Un ZD ZE YE Zn Zp YF ZC YG=>.iv (.obj (decide (I (H1+1)<(↑S4:Int))) (decide (0<=I ((↑S4:Int)-2)/\I ((↑S4:Int)-2)<(↑S4:Int)/\S4<=Vr)) (.obi (.obj (decide (I (H1+1)<(↑S4:Int))) (decide ((I ((↑S4:Int)-2)).toNat<Vr)) (.iv (.obj (decide (I (H1+1)<(↑S4:Int))) (decide (0<=I ((↑S4:Int)-1)/\I ((↑S4:Int)-1)<(↑S4:Int)/\S4<=Vr)) (.obi (.obj (decide (I (H1+1)<(↑S4:Int))) (decide ((I ((↑S4:Int)-1)).toNat<Vr)) (.ii (.br (decide (I (H1+1)<(↑S4:Int))) (.ob (decide (I (H1+1)<(↑S4:Int))) (.ob (decide (I (H1+1)<(↑S4:Int))) (.cb (.br (decide (kC (aE (Un (I ((↑S4:Int)-2)).toNat)) (bM (Un (I ((↑S4:Int)-2)).toNat)) (aE (Un (I ((↑S4:Int)-1)).toNat)) (bM (Un (I ((↑S4:Int)-1)).toNat)) Ve Vf<=0)) (.ob (decide (0<=I ((↑S4:Int)-1)/\I ((↑S4:Int)-1)<=(↑S4:Int))) (.next (iR 0 18 []) (jI.L23 ZB H1 (A aK WN) ((I ((↑S4:Int)-1)).toNat) Ve Vf Vr (A aK Un) ZD ZE YE Zn Zp YF ZC YG) [⟨13,aK,8,A aK WN,aF rfl _ _⟩,⟨17,aK,Vr,A aK Un,aF rfl _ _⟩])) (.obt (.ob (decide (S4<=Vr/\(S4+1)*16<=140737488355328)&&!Nat.beq 16 0) (.next (iR 0 17 [some (some 19)]) (jI.L22 (I (ZB+1)) H1 (A aK WN) (S4+1) Ve Vf (bH S4 (A aK Un) λx=>[D Ve,D Vf]) ZD ZE YE Zn Zp YF ZC YG) [⟨13,aK,8,A aK WN,aF rfl _ _⟩,⟨17,aK,S4+1,bH S4 (A aK Un) λx=>[D Ve,D Vf],gO (aF rfl _ _) (fH rfl _ rfl)⟩]))))))) (.obt (.ob (decide (S4<=Vr/\(S4+1)*16<=140737488355328)&&!Nat.beq 16 0) (.next (iR 0 17 [some (some 19)]) (jI.L22 (I (ZB+1)) H1 (A aK WN) (S4+1) Ve Vf (bH S4 (A aK Un) λx=>[D Ve,D Vf]) ZD ZE YE Zn Zp YF ZC YG) [⟨13,aK,8,A aK WN,aF rfl _ _⟩,⟨17,aK,S4+1,bH S4 (A aK Un) λx=>[D Ve,D Vf],gO (aF rfl _ _) (fH rfl _ rfl)⟩]))))))))))))|.L24 hk Y2 yp XP V5 Wo XR z8 zA zC zi oD pc yc zo zp ye ym yo zq yv z7 pr=>.br (decide (0<hk)) (.ob (decide ((0:Int)<=0/\0<(↑Y2:Int)/\Y2<=8)) (.obt (.enter (iR 0 17 []) (jI.L25 hk Y2 yp (A aK XP) V5 Wo (A aK XR) (aE (XP 0)) (bM (XP 0)) z8 zA zC zi oD V5 pc yc zo zp ye ym yo zq yv z7 pr) [⟨13,aK,8,A aK XP,aF rfl _ _⟩,⟨15,aK,Wo,A aK XR,aF rfl _ _⟩]))) (.ob (decide (0<=I ((↑V5:Int)-1)/\I ((↑V5:Int)-1)<=(↑V5:Int))) (.enter [some (some 15),some (some 0)] (jI.L5 0 ((↑(I ((↑V5:Int)-1)).toNat:Int)) ((I ((↑V5:Int)-1)).toNat) (decide (2<(↑(I ((↑V5:Int)-1)).toNat:Int))) Wo (A aK XR)) [⟨0,aK,Wo,A aK XR,aF rfl _ _⟩]))|.L25 ZF Y4 Uz WO S7 UQ Uo Vg Vh ZO ZG ZH Zq YI Zr YJ ZI Zs Zt ZJ ZK ZL Zu ZM ZN YK=>.iv (.obj (decide (I (Uz+1)<(↑S7:Int))) (decide (0<=I ((↑S7:Int)-2)/\I ((↑S7:Int)-2)<(↑S7:Int)/\S7<=UQ)) (.obi (.obj (decide (I (Uz+1)<(↑S7:Int))) (decide ((I ((↑S7:Int)-2)).toNat<UQ)) (.iv (.obj (decide (I (Uz+1)<(↑S7:Int))) (decide (0<=I ((↑S7:Int)-1)/\I ((↑S7:Int)-1)<(↑S7:Int)/\S7<=UQ)) (.obi (.obj (decide (I (Uz+1)<(↑S7:Int))) (decide ((I ((↑S7:Int)-1)).toNat<UQ)) (.ii (.br (decide (I (Uz+1)<(↑S7:Int))) (.ob (decide (I (Uz+1)<(↑S7:Int))) (.ob (decide (I (Uz+1)<(↑S7:Int))) (.cb (.br (decide (kC (aE (Uo (I ((↑S7:Int)-2)).toNat)) (bM (Uo (I ((↑S7:Int)-2)).toNat)) (aE (Uo (I ((↑S7:Int)-1)).toNat)) (bM (Uo (I ((↑S7:Int)-1)).toNat)) Vg Vh<=0)) (.ob (decide (0<=I ((↑S7:Int)-1)/\I ((↑S7:Int)-1)<=(↑S7:Int))) (.next (iR 0 17 []) (jI.L25 ZF Y4 Uz (A aK WO) ((I ((↑S7:Int)-1)).toNat) UQ (A aK Uo) Vg Vh ZO ZG ZH Zq YI Zr YJ ZI Zs Zt ZJ ZK ZL Zu ZM ZN YK) [⟨13,aK,8,A aK WO,aF rfl _ _⟩,⟨15,aK,UQ,A aK Uo,aF rfl _ _⟩])) (.obt (.ob (decide (S7<=UQ/\(S7+1)*16<=140737488355328)&&!Nat.beq 16 0) (.next (iR 0 17 Ig) (jI.L26 (I (0+1)) ZF Y4 Uz (A aK WO) (S7+1) Vg Vh (bH S7 (A aK Uo) λx=>[D Vg,D Vh]) ZO ZG ZH Zq YI Zr UQ YJ ZI Zs Zt ZJ ZK ZL Zu ZM ZN YK) [⟨13,aK,8,A aK WO,aF rfl _ _⟩,⟨17,aK,S7+1,bH S7 (A aK Uo) λx=>[D Vg,D Vh],gO (aF rfl _ _) (fH rfl _ rfl)⟩]))))))) (.obt (.ob (decide (S7<=UQ/\(S7+1)*16<=140737488355328)&&!Nat.beq 16 0) (.next (iR 0 17 Ig) (jI.L26 (I (0+1)) ZF Y4 Uz (A aK WO) (S7+1) Vg Vh (bH S7 (A aK Uo) λx=>[D Vg,D Vh]) ZO ZG ZH Zq YI Zr UQ YJ ZI Zs Zt ZJ ZK ZL Zu ZM ZN YK) [⟨13,aK,8,A aK WO,aF rfl _ _⟩,⟨17,aK,S7+1,bH S7 (A aK Uo) λx=>[D Vg,D Vh],gO (aF rfl _ _) (fH rfl _ rfl)⟩]))))))))))))|.L26 WA hv Y5 zR XT US _ _ XU zS zD zE zr qD zt zu qG zF zv zx zI zJ zL zy zM zP qI=>.br (decide (WA<hv)) (.ob (decide (0<=WA/\WA<(↑Y5:Int)/\Y5<=8)) (.ob (decide (WA.toNat<8)) (.enter (iR 0 16 [some (some 18),some (some 17)]) (jI.L27 (WA) (hv) (Y5) (zR) (A aK XT) (US) (aE (XT WA.toNat)) (bM (XT WA.toNat)) (US) (A aK XU) (zS) (zD) (zE) (zr) (qD) (zt) (zu) (qG) (zF) (zv) (zx) (zI) (zJ) (zL) (zy) (zM) (zP) (qI)) [⟨13,aK,8,A aK XT,aF rfl _ _⟩,⟨17,aK,US,A aK XU,aF rfl _ _⟩]))) (.ob (decide (0<=I ((↑US:Int)-1)/\I ((↑US:Int)-1)<=(↑US:Int))) (.enter [some (some 17),some (some 0)] (jI.L5 0 ((↑(I ((↑US:Int)-1)).toNat:Int)) ((I ((↑US:Int)-1)).toNat) (decide (2<(↑(I ((↑US:Int)-1)).toNat:Int))) (US) (A aK XU)) [⟨0,aK,US,A aK XU,aF rfl _ _⟩]))|.L27 ZP ZQ Y6 V0 WQ S8 Vi Vj Vs Up ZR ZS ZT Zv YL Zw Zz YM ZU a7 a8 ZV ZW ZY aa ZZ Za YN=>.iv (.obj (decide (I (V0+1)<(↑S8:Int))) (decide (0<=I ((↑S8:Int)-2)/\I ((↑S8:Int)-2)<(↑S8:Int)/\S8<=Vs)) (.obi (.obj (decide (I (V0+1)<(↑S8:Int))) (decide ((I ((↑S8:Int)-2)).toNat<Vs)) (.iv (.obj (decide (I (V0+1)<(↑S8:Int))) (decide (0<=I ((↑S8:Int)-1)/\I ((↑S8:Int)-1)<(↑S8:Int)/\S8<=Vs)) (.obi (.obj (decide (I (V0+1)<(↑S8:Int))) (decide ((I ((↑S8:Int)-1)).toNat<Vs)) (.ii (.br (decide (I (V0+1)<(↑S8:Int))) (.ob (decide (I (V0+1)<(↑S8:Int))) (.ob (decide (I (V0+1)<(↑S8:Int))) (.cb (.br (decide (kC (aE (Up (I ((↑S8:Int)-2)).toNat)) (bM (Up (I ((↑S8:Int)-2)).toNat)) (aE (Up (I ((↑S8:Int)-1)).toNat)) (bM (Up (I ((↑S8:Int)-1)).toNat)) Vi Vj<=0)) (.ob (decide (0<=I ((↑S8:Int)-1)/\I ((↑S8:Int)-1)<=(↑S8:Int))) (.next (iR 0 18 []) (jI.L27 (ZP) (ZQ) (Y6) (V0) (A aK WQ) ((I ((↑S8:Int)-1)).toNat) (Vi) (Vj) (Vs) (A aK Up) (ZR) (ZS) (ZT) (Zv) (YL) (Zw) (Zz) (YM) (ZU) (a7) (a8) (ZV) (ZW) (ZY) (aa) (ZZ) (Za) (YN)) [⟨13,aK,8,A aK WQ,aF rfl _ _⟩,⟨17,aK,Vs,A aK Up,aF rfl _ _⟩])) (.obt (.ob (decide (S8<=Vs/\(S8+1)*16<=140737488355328)&&!Nat.beq 16 0) (.next (iR 0 17 [some (some 19)]) (jI.L26 (I (ZP+1)) (ZQ) (Y6) (V0) (A aK WQ) (S8+1) (Vi) (Vj) (bH S8 (A aK Up) λx=>[D Vi,D Vj]) (ZR) (ZS) (ZT) (Zv) (YL) (Zw) (Zz) (YM) (ZU) (a7) (a8) (ZV) (ZW) (ZY) (aa) (ZZ) (Za) (YN)) [⟨13,aK,8,A aK WQ,aF rfl _ _⟩,⟨17,aK,S8+1,bH S8 (A aK Up) λx=>[D Vi,D Vj],gO (aF rfl _ _) (fH rfl _ rfl)⟩]))))))) (.obt (.ob (decide (S8<=Vs/\(S8+1)*16<=140737488355328)&&!Nat.beq 16 0) (.next (iR 0 17 [some (some 19)]) (jI.L26 (I (ZP+1)) (ZQ) (Y6) (V0) (A aK WQ) (S8+1) (Vi) (Vj) (bH S8 (A aK Up) λx=>[D Vi,D Vj]) (ZR) (ZS) (ZT) (Zv) (YL) (Zw) (Zz) (YM) (ZU) (a7) (a8) (ZV) (ZW) (ZY) (aa) (ZZ) (Za) (YN)) [⟨13,aK,8,A aK WQ,aF rfl _ _⟩,⟨17,aK,S8+1,bH S8 (A aK Up) λx=>[D Vi,D Vj],gO (aF rfl _ _) (fH rfl _ rfl)⟩]))))))))))))
def m57:RT jI:=dm (x5,x6,x7) (.br (b8) (.ret (V.kb false)) (.cb (.brt (.obt (.cb (.cb (.obt (.obt (.brt (.obt (.cb (.cb (.obt (.obt (.brt (.obt (.cb (.cb (.obt (.obt (.brt (.obt (.cb (.cb (.obt (.obt (.brf (.cb (.brt (.enter (iR 0 14 []) (jI.L0 (I (0+1)) (bH 6 (bH 4 (bH 2 (λi=>List.take 2 (List.drop (i*2) [D (b9 R Z x9 x3),D (ci S Z Ql x3),D (b9 R Z x9 O),D (ci S Z Ql O)])) λi=>List.take 2 (List.drop (i*2) [D (b9 R Z Qn x3),D (ci S Z Ql x3),D (b9 R Z Qn O),D (ci S Z Ql O)])) λi=>List.take 2 (List.drop (i*2) [D (b9 R Z Qn x3),D (ci S Z Qp x3),D (b9 R Z Qn O),D (ci S Z Qp O)])) λi=>List.take 2 (List.drop (i*2) [D (b9 R Z x9 x3),D (ci S Z Qp x3),D (b9 R Z x9 O),D (ci S Z Qp O)]))) [⟨13,aK,8,bH 6 (bH 4 (bH 2 (λi=>List.take 2 (List.drop (i*2) [D (b9 R Z x9 x3),D (ci S Z Ql x3),D (b9 R Z x9 O),D (ci S Z Ql O)])) λi=>List.take 2 (List.drop (i*2) [D (b9 R Z Qn x3),D (ci S Z Ql x3),D (b9 R Z Qn O),D (ci S Z Ql O)])) λi=>List.take 2 (List.drop (i*2) [D (b9 R Z Qn x3),D (ci S Z Qp x3),D (b9 R Z Qn O),D (ci S Z Qp O)])) λi=>List.take 2 (List.drop (i*2) [D (b9 R Z x9 x3),D (ci S Z Qp x3),D (b9 R Z x9 O),D (ci S Z Qp O)]),f11 rfl rfl⟩]))))))))))))))))))))))))))))))
theorem akp:ig jr ES (D57 R S Z x3 O x5 x6 x7 b8 x9 Ql Qn Qp) (aku R S Z x3 O x5 x6 x7 b8 x9 Ql Qn Qp) (m57 R S Z x3 O x5 x6 x7 b8 x9 Ql Qn Qp) (fw R S Z x3 O x5 x6 x7 b8 x9 Ql Qn Qp):=⟨cG,λs=>by cases s<;>exact cG⟩
attribute [local irreducible] kk kC ra
def IM:List P2:=[(b9 R Z x9 x3,ci S Z Ql x3),(b9 R Z x9 O,ci S Z Ql O),(b9 R Z Qn x3,ci S Z Ql x3),(b9 R Z Qn O,ci S Z Ql O),(b9 R Z Qn x3,ci S Z Qp x3),(b9 R Z Qn O,ci S Z Qp O),(b9 R Z x9 x3,ci S Z Qp x3),(b9 R Z x9 O,ci S Z Qp O)]
def OR:Bool:=!b8&&JL (IM R S Z x3 O x9 Ql Qn Qp) (x5,x6) x7
def Nc:Prop:=(-100000<=R/\R<=100000)/\(-100000<=S/\S<=100000)/\(0<=Z/\Z<=200)/\(0<=x3/\x3<=200)/\(0<=O/\O<=200)/\sm x5/\sm x6/\(0<=x7/\x7<=1073741824)/\(-100000<=x9/\x9<=100000)/\(-100000<=Ql/\Ql<=100000)/\(-100000<=Qn/\Qn<=100000)/\(-100000<=Qp/\Qp<=100000)
theorem Tq {l h n x:Int} (hl:-100000<=l/\l<=100000) (hh:0<=h/\h<=200) (hn:0<=n/\n<=200) (hx:-100000<=x/\x<=100000):b9 l h x n=h*l+n*(x-l)/\ci l h x n=h*l+n*(x-l)/\sm (h*l+n*(x-l)):=by have k1:=sU (x:=h) (y:=l) (R0:=200) (B:=100000) E E E E;have k2:=sU (x:=n) (y:=x-l) (R0:=200) (B:=200000) E E E E;unfold b9 ci bL bJ;rw[D5 (x:=x-l) E E,D5 (x:=h*l) E E,D5 (x:=n*(x-l)) E E,D5 (x:=h*l+n*(x-l)) E E];exact⟨rfl,rfl,by unfold sm;omega⟩
theorem jf6 {R S Z x3 O x5 x6 x7 x9 Ql Qn Qp:Int} (h:Nc R S Z x3 O x5 x6 x7 x9 Ql Qn Qp):∀ At∈IM R S Z x3 O x9 Ql Qn Qp,pI At:=by
 obtain⟨h0,M,N,h3,h4,h5,h6,h7,h9,Vt,Vu,V7⟩:=h;have k:∀a b n:Int,(-100000<=a/\a<=100000)->(-100000<=b/\b<=100000)->(0<=n/\n<=200)->pI (b9 R Z a n,ci S Z b n):=λa b n ha hb hn=>by have e1:=Tq h0 N hn ha;have e2:=Tq M N hn hb;exact⟨by show sm (b9 R Z a n);rw[e1.1];exact e1.2.2,by show sm (ci S Z b n);rw[e2.2.1];exact e2.2.2⟩
 intro At hq;simp only[IM,HD,IP,or_false]at hq;rcases hq with rfl|rfl|rfl|rfl|rfl|rfl|rfl|rfl
 ·exact k _ _ _ h9 Vt h3
 ·exact k _ _ _ h9 Vt h4
 ·exact k _ _ _ Vu Vt h3
 ·exact k _ _ _ Vu Vt h4
 ·exact k _ _ _ Vu V7 h3
 ·exact k _ _ _ Vu V7 h4
 ·exact k _ _ _ h9 V7 h3
 ·exact k _ _ _ h9 V7 h4
theorem ann (hm:pI (x5,x6)) (h7:0<=x7) (h8:x7<=1073741824) {n cap:Nat} {fo:(Nat->List V)} (hc:n<=cap) (hC:cap<=100) (M:1<=n) (hs:∀ k,k<n->pI (pq fo k)) :
 Ev (fw R S Z x3 O x5 x6 x7 b8 x9 Ql Qn Qp) (.L5 0 (n:Int) n (decide (2<(n:Int))) cap fo) (.bool (Iv (Er n fo) (x5,x6) x7)):=by
 have key:∀ i,i<=n->∀ (b:Bool) (g:(Nat->List V)),(∀ k,pq g k=pq fo k)->(b=true↔2<n/\∀ k,k<i->0<dC (pq fo k) (pq fo ((k+1) % n)) (x5,x6))->(∀ k,k<i->JV (pq fo k) (pq fo ((k+1) % n)) (x5,x6) x7=false)->Ev (fw R S Z x3 O x5 x6 x7 b8 x9 Ql Qn Qp) (.L5 (i:Int) (n:Int) n b cap g) (.bool (Iv (Er n fo) (x5,x6) x7)):=by
  refine gE λi hi ih b g hg hb hN=>?_;by_cases Qw:i<n
  ·have hmod:(i+1) % n<n:=Ip _ E
   have e:(I ((i:Int)+1)).tmod (n:Int)=(((i+1) % n:Nat):Int):=by rw[FA E];exact(Int.ofNat_tmod _ _).symm
   have n1:kk (pq g i).1 (pq g i).2 (pq g ((i+1) % n)).1 (pq g ((i+1) % n)).2 x5 x6 x7=JV (pq fo i) (pq fo ((i+1) % n)) (x5,x6) x7:=by rw[hg,hg];exact fx15 (a:=pq fo i) (b:=pq fo ((i+1) % n)) (p:=(x5,x6)) (hs i Qw) (hs _ hmod) hm h7 h8
   have T:kC (pq g i).1 (pq g i).2 (pq g ((i+1) % n)).1 (pq g ((i+1) % n)).2 x5 x6=dC (pq fo i) (pq fo ((i+1) % n)) (x5,x6):=by rw[hg,hg];exact Ww (a:=pq fo i) (b:=pq fo ((i+1) % n)) (p:=(x5,x6)) (hs i Qw) (hs _ hmod) hm
   refine Ev.of rfl (c9 (BH E) (aL (BH E) (aL (BH E) (aL (BH E) (aL (BH (by rw[e];omega)) (aL (BH (by rw[e];omega)) (aC (ak ?_))))))));have hstep:∀ b',(b'=true↔b=true/\0<dC (pq fo i) (pq fo ((i+1) % n)) (x5,x6))->JV (pq fo i) (pq fo ((i+1) % n)) (x5,x6) x7=false->Ev (fw R S Z x3 O x5 x6 x7 b8 x9 Ql Qn Qp) (.L5 (I ((i:Int)+1)) (n:Int) n b' cap (A En g)) (.bool (Iv (Er n fo) (x5,x6) x7)):=λb' RQ hn=>by
    rw[FA E];refine ih Qw b' _ (λk=>hg k) ?_ ?_
    ·rw [RQ,hb]
     constructor
     ·rintro⟨⟨q1,q2⟩,q3⟩
      refine⟨q1,λk W=>?_⟩;by_cases ek:k=i
      ·rw[ek];exact q3
      ·exact q2 k E
     ·rintro⟨q1,q2⟩;exact⟨⟨q1,λk W=>q2 k E⟩,q2 i E⟩
    ·intro k W
     by_cases ek:k=i
     ·rw[ek];exact hn
     ·exact hN k E
   have e':((I ((i:Int)+1)).tmod (n:Int)).toNat=(i+1) % n:=by rw[e];rfl
   refine E2 (λhx=>aA ?_) (λhx=>BK (E2 (λSH=>aL SH (aL SH (aC (ak (bb ?_))))) (λSH=>bb ?_)))
   ·rw[e']at hx;have hx:JV (pq fo i) (pq fo ((i+1) % n)) (x5,x6) x7=true:=n1.symm.trans hx;rw[QG (.inl ⟨i,by rw[dH];exact Qw,by rw[dH,iz Qw,iz hmod];exact hx⟩)];rfl
   ·rw[e']at hx ⊢;refine hstep _ ?_ (n1.symm.trans hx);rw[GV];have n2':kC (aE (g (i:Int).toNat)) (bM (g (i:Int).toNat)) (aE (g ((i+1) % n))) (bM (g ((i+1) % n))) x5 x6=_:=T;rw[n2'];exact⟨λAt=>⟨SH,At⟩,λAt=>At.2⟩
   ·rw[e']at hx;refine hstep _ ?_ (n1.symm.trans hx);rw[SH];exact⟨(λAt=>by cases At),λAt=>At.1⟩
  ·have yaw:i=n:=by omega
   subst yaw;refine Ev.of rfl (d5 (eZ E) (aA ?_));have:b=Iv (Er i fo) (x5,x6) x7:=by
    cases RQ:b with
    |true=>have:=hb.1 RQ;refine(QG (.inr ⟨by rw[dH];exact this.1,λk W=>?_⟩)).symm;rw[dH]at W ⊢;rw[iz W,iz (Ip _ E)];exact this.2 k W
    |false=>
      refine(akB ?_).symm;rintro (⟨k,W,h⟩|⟨q1,q2⟩)
      ·rw[dH]at W h;rw[iz W,iz (Ip _ E),hN k W]at h;cases h
      ·rw[dH]at q1 q2;have:=hb.2 ⟨q1,λk W=>by have:=q2 k W;rwa [iz W,iz (Ip _ E)]at this⟩;rw[RQ]at this;cases this
   rw[this]
 exact key 0 (GG _) _ fo (λ_=>rfl) ⟨λh=>⟨by have:=Fv h;omega,λk W=>by omega⟩,λh=>BH E⟩ (λk W=>by omega)
theorem ajJ {r:V} {AT:P2->Prop} (hD:∀ At,AT At->pI At) (N:∀ f j g,Kn 8 f->mI 8 AT f->Ev (fw R S Z x3 O x5 x6 x7 b8 x9 Ql Qn Qp) (.L2 1 f j g) r) {f:(Nat->List V)} (hf:mI 8 AT f):Ev (fw R S Z x3 O x5 x6 x7 b8 x9 Ql Qn Qp) (.L0 1 f) r:=by
 refine ya (Qo:=8) (AT:=AT) (P0:=λi f=>Ev (fw R S Z x3 O x5 x6 x7 b8 x9 Ql Qn Qp) (.L0 (i:Int) f) r) (P1:=λj i f=>Ev (fw R S Z x3 O x5 x6 x7 b8 x9 Ql Qn Qp) (.L1 (j:Int) (i:Int) f) r) ?_ ?_ ?_ ?_ 7 1 f rfl (Em _) (λa b M N=>by omega) hf
 ·intro i f M N h;exact Ev.of rfl (c9 (BH E) (aS h))
 ·intro f hs hm;exact Ev.of rfl (d5 (eZ E) (r8 (aS (N _ _ _ hs hm))))
 ·intro j i f h0 Sl hi hm Qw h
  have e:=y7 h0 E;have hC:decide (0<(j:Int))=true:=BH E;have hlt':=(ani (hD _ ((hm _).2 ⟨j,E,rfl⟩)) (hD _ ((hm _).2 ⟨j-1,E,rfl⟩))).2 Qw
  refine Ev.of rfl (BK (BK (fQ (λ_=>BH (by first|omega|(rw[e];omega))) (BK (fQ (λ_=>BH (by first|omega|(rw[e];omega))) (BK (BK (BK (fQ (λ_=>BH (by first|omega|(rw[e];omega))) (BK (fQ (λ_=>BH (by first|omega|(rw[e];omega))) (c9 hC (aL hC (aL hC (aL hC (aC (ak (c9 ?_
   (aL (BH (by first|omega|(rw[e];omega))) (aL (BH (by first|omega|(rw[e];omega))) (aL (BH (by first|omega|(rw[e];omega))) (aL (BH (by first|omega|(rw[e];omega))) (aL (BH (by first|omega|(rw[e];omega))) (aL (BH (by first|omega|(rw[e];omega))) (aL (BH (by first|omega|(rw[e];omega))) (aL (BH (by first|omega|(rw[e];omega))) (bb ?_)))))))))))))))))))))))))))
  ·rw[e];exact hlt'
  ·rw[e];exact h
 ·intro j i f Sl hi hm hn h
  have h':Ev (fw R S Z x3 O x5 x6 x7 b8 x9 Ql Qn Qp) (.L0 (I ((i:Int)+1)) (A En f)) r:=by rw[FA E];exact h
  by_cases h0:0<j
  ·have e:=y7 h0 E;have hC:decide (0<(j:Int))=true:=BH E;have hlt':=λhh=>hn h0 ((ani (hD _ ((hm _).2 ⟨j,E,rfl⟩)) (hD _ ((hm _).2 ⟨j-1,E,rfl⟩))).1 hh);refine Ev.of rfl (BK (BK (fQ (λ_=>BH (by first|omega|(rw[e];omega))) (BK (fQ (λ_=>BH (by first|omega|(rw[e];omega))) (BK (BK (BK (fQ (λ_=>BH (by first|omega|(rw[e];omega))) (BK (fQ (λ_=>BH (by first|omega|(rw[e];omega))) (c9 hC (aL hC (aL hC (aL hC (aC (ak (d5 ?_ (bb h')))))))))))))))))));rw[e];exact Bool.eq_false_iff.2 hlt'
  ·have hC:decide (0<(j:Int))=false:=eZ E
   have hx:∀{b:Bool},decide (0<(j:Int))=true->b=true:=λhh=>by rw[hC]at hh;cases hh
   exact Ev.of rfl (BK (BK (fQ hx (BK (fQ hx (BK (BK (BK (fQ hx (BK (fQ hx (d5 hC (bb h')))))))))))))
theorem ak1 {r:V} {AT:P2->Prop} (h4:∀ f j g,JN 8 f->mI 8 AT f->Ev (fw R S Z x3 O x5 x6 x7 b8 x9 Ql Qn Qp) (.L4 0 f 0 (λ_=>[]) j g) r) (h5:∀ m f,1<=m->m<3->JN m f->mI m AT f->Ev (fw R S Z x3 O x5 x6 x7 b8 x9 Ql Qn Qp) (.L5 0 (m:Int) m (decide (2<(m:Int))) 8 f) r)
 (V7:∀m f i n1 T i1 i2 i3 n3 i4 g,3<=m->m<8->JN m f->mI m AT f->Ev (fw R S Z x3 O x5 x6 x7 b8 x9 Ql Qn Qp) (.L12 0 (m:Int) m f 0 (λ_=>[]) i n1 T i1 i2 i3 n3 i4 (m:Int) g) r) {f:(Nat->List V)} (j:Int) (g:(Nat->List V)) (hs:Kn 8 f) (hf:mI 8 AT f):Ev (fw R S Z x3 O x5 x6 x7 b8 x9 Ql Qn Qp) (.L2 1 f j g) r:=by
 refine DF (Qo:=8) (AT:=AT) (P2':=λi f=>∀j g,Ev (fw R S Z x3 O x5 x6 x7 b8 x9 Ql Qn Qp) (.L2 (i:Int) f j g) r) (P3:=λk off m f=>∀i1 i2 i3 n i4 i5 g,Ev (fw R S Z x3 O x5 x6 x7 b8 x9 Ql Qn Qp) (.L3 (k:Int) off (8-off) i1 i2 i3 n i4 (m:Int) f i5 g) r) ?_ ?_ ?_ ?_ ?_ ?_ 7 1 f rfl (Em _) hs (λa b M N=>by omega) hf j g
 ·intro f hs hm j g;exact Ev.of rfl (d5 (eZ E) (r8 (aS (h4 _ _ _ hs hm))))
 ·intro i f M h8 SQ h j g
  have e:=y7 (show 0<i by omega) E;refine Ev.of rfl (c9 (BH E) (aL (BH (by first|omega|(rw[e];omega))) (aL (BH (by first|omega|(rw[e];omega))) (aL (BH (by first|omega|(rw[e];omega))) (aL (BH (by first|omega|(rw[e];omega))) (d5 ?_ (bb ?_)))))))
  ·rw[e];exact(Mj _ _ _ _).trans (eZ SQ)
  ·rw[FA E];exact h j g
 ·intro i f M h8 he h j g;have e:=y7 (show 0<i by omega) E;refine Ev.of rfl (c9 (BH E) (aL (BH (by first|omega|(rw[e];omega))) (aL (BH (by first|omega|(rw[e];omega))) (aL (BH (by first|omega|(rw[e];omega))) (aL (BH (by first|omega|(rw[e];omega))) (c9 ?_ (aL (BH E) (aS (h _ _ _ _ _ _ _)))))))));rw[e];exact(Mj _ _ _ _).trans (BH he)
 ·intro k off m f M hN hm iz24 SQ h i1 i2 i3 n i4 i5 g
  have e:=y7 (show 0<k by omega) E;refine Ev.of rfl (c9 (BH E) (aL (BH (by first|omega|(rw[e];omega))) (aL (BH (by first|omega|(rw[e];omega))) (aL (BH (by first|omega|(rw[e];omega))) (aL (BH (by first|omega|(rw[e];omega))) (c9 ?_ (aL (BH (by first|omega|(rw[e];omega))) (aL (BH (by first|omega|(rw[e];omega))) (aL (BH (by first|omega|(rw[e];omega))) (aL (BH (by first|omega|(rw[e];omega))) (bb ?_)))))))))))
  ·rw[e];exact fy12 ((Mj _ _ _ _).trans (eZ SQ))
  ·rw[FA (j:=k) E,FA (j:=m) E];exact h _ _ _ _ _ _ _
 ·intro k off m f M hN hm iz24 he h i1 i2 i3 n i4 i5 g
  have e:=y7 (show 0<k by omega) E;refine Ev.of rfl (c9 (BH E) (aL (BH (by first|omega|(rw[e];omega))) (aL (BH (by first|omega|(rw[e];omega))) (aL (BH (by first|omega|(rw[e];omega))) (aL (BH (by first|omega|(rw[e];omega))) (d5 ?_ (bb ?_)))))))
  ·rw[e];exact fy11 ((Mj _ _ _ _).trans (BH he))
  ·rw[FA (j:=k) E];exact h _ _ _ _ _ _ _
 ·intro off m f hoff u5 iz23 hs hm i1 i2 i3 n i4 i5 g
  refine Ev.of rfl (d5 (eZ E) (aL (BH E) (aL (BH E) (aL (BH E) (E2 (λhh=>aS ?_) (λhh=>aS ?_))))))
  ·have:=Fv hh;exact h5 m _ u5 E (hs.cong λk W=>A3 W) (hm.cong λk W=>A3 W)
  ·have:=H3 hh;exact V7 m _ _ _ _ _ _ _ _ _ _ E iz23 (hs.cong λk W=>A3 W) (hm.cong λk W=>A3 W)
theorem C2 {c:List P2} {i:Nat} (h:i<c.length):jG c i∈c:=by have:=je h;exact Jq this
theorem It {fo:bk} {p:P2} {n:Nat} {s:Int} (w1:I ((n:Int)-1)=((n-1:Nat):Int)) (w2:I ((n:Int)-2)=((n-2:Nat):Int)) (e:kC (pq fo (n-2)).1 (pq fo (n-2)).2 (pq fo (n-1)).1 (pq fo (n-1)).2 p.1 p.2=s) :
 decide (kC (aE (fo (I ((n:Int)-2)).toNat)) (bM (fo (I ((n:Int)-2)).toNat)) (aE (fo (I ((n:Int)-1)).toNat)) (bM (fo (I ((n:Int)-1)).toNat)) p.1 p.2<=0)=decide (s<=0):=by
 rw[w1,w2,← e];rfl
theorem ap3 {r:V} {c:List P2} {bl:Nat} {base:List P2} {f:(Nat->List V)} (hf:Er 8 f=c) (T9:∀ At∈c,pI At) (hb:∀ At∈base,pI At) (TE:base.length=bl) (ih10:bl<=8)
 (h5:∀n fo cap,n<=cap->cap<=100->Er n fo=base++(bG [] c).tail.reverse->n=base.length+(bG [] c).tail.length->Ev (fw R S Z x3 O x5 x6 x7 b8 x9 Ql Qn Qp) (.L5 0 (n:Int) n (decide (2<(n:Int))) cap fo) r)
 {cap:Nat} {fo:(Nat->List V)} (hc:bl<=cap) (WZ:cap<=50) (XW:Er bl fo=base) (i5:Int) (nz17:Int) (f7:(Nat->List V)) (f8:(Nat->List V)) (i9:Int) (V6:(Nat->List V)):Ev (fw R S Z x3 O x5 x6 x7 b8 x9 Ql Qn Qp) (.L18 (bl:Int) f bl cap fo i5 nz17 f7 f8 i9 V6) r:=by
 have SE:c.length=8:=by rw[← hf,dH]
 have ew:=FA (j:=bl) E;have e0:I (0+1)=((1:Nat):Int):=by rw[D5 E E];rfl
 have at':∀(g:(Nat->List V)),(∀k,k<8->pq g k=pq f k)->∀i,i<8->jG c i=pq g i:=λg hg i hi=>by rw[hg i hi,← hf];exact iz hi
 have key:=ni (base:=base) (c:=c) (RO:=bl+8) E
  (PO:=λi n fo=>∀(g:(Nat->List V)) (ix:Int) (iy:Int) (i7:Int) (i8:Int) (f9:(Nat->List V)) (TA:Nat) (q:Nat) (SG:(Nat->List V)) (VU:Int) (UD:(Nat->List V)),(∀k,k<8->pq g k=pq f k)->Ev (fw R S Z x3 O x5 x6 x7 b8 x9 Ql Qn Qp) (.L22 (i:Int) (bl:Int) g n ix iy fo i7 i8 f9 TA q SG VU UD) r)
  (PI:=λi n cap fo=>∀(g:(Nat->List V)) (i7:Int) (i8:Int) (f9:(Nat->List V)) (TA:Nat) (q:Nat) (SG:(Nat->List V)) (VU:Int) (UD:(Nat->List V)),(∀k,k<8->pq g k=pq f k)->Ev (fw R S Z x3 O x5 x6 x7 b8 x9 Ql Qn Qp) (.L23 (i:Int) (bl:Int) g n (jG c i).1 (jG c i).2 cap fo i7 i8 f9 TA q SG VU UD) r) ?_ ?_ ?_ ?_
 ·-- the first round
  obtain⟨p,l,ec⟩:∃ p l,c=p::l:=by
   cases c with
   |nil=>simp at SE|cons p l=>exact⟨p,l,rfl⟩
  have hp:pq f 0=p:=by have:=at' f (λ_ _=>rfl) 0 E;rw[← this,ec];rfl
  subst hp;have k1:=key l [pq f 0] [pq f 0] (bl+1) (bH bl (A En fo) λ_=>Gf (pq f 0)) (by rw[ec];rfl) (by rw[ec];rfl) (by rw[xH,XW];rfl) (Em _) (λAt hq=>by rw[ec];simp at hq;simp[hq]);have T0:∀ (i7:Int) (i8:Int) (f9:(Nat->List V)) (TA:Nat) (Y:(Nat->List V)) (i12:Int) (Qd:(Nat->List V)),Ev (fw R S Z x3 O x5 x6 x7 b8 x9 Ql Qn Qp) (.L20 (bl:Int) (A En f) bl cap (A En fo) (pq f 0).1 (pq f 0).2 i7 i8 f9 TA Y i12 Qd) r:=by
   intro i7 i8 f9 TA Y i12 Qd;have hC:decide (I ((bl:Int)+1)<(bl:Int))=false:=eZ (by rw[ew];omega);have hx:∀{P:Prop},decide (I ((bl:Int)+1)<(bl:Int))=true->P:=λhh=>by rw[hC]at hh;cases hh
   refine Ev.of rfl (iV hx hx hx λ_=>ak (aL (mL hc E) (bb ?_)));rw[e0];exact k1 (A En f) _ _ _ _ _ _ _ _ _ _ (λk W=>rfl)
  exact Ev.of rfl (kr (ak (ak (aS (T0 _ _ _ _ _ _ _)))))
 ·intro i n fo hi hn h g ix iy i7 i8 f9 TA q SG VU UD hg;rw[SE]at hi;have e:=at' g hg i hi;have h':=h;rw[e]at h';exact Ev.of rfl (c9 (BH E) (aL (BH E) (aL (BH E) (aS (h' (A En g) _ _ _ _ _ _ _ _ (λk W=>hg k W))))))
 ·intro i n cap fo hi M N WT Ri hs h g i7 i8 f9 TA q SG VU UD hg
  have SL:bl+1<n:=by rw[← TE];exact M
  have w1:=y7 (j:=n) E E;have w2:=Iw (j:=n) E E;have sm:∀k,k<n->pI (pq fo k):=λk W=>(Ri k W).elim (hb _) (T9 _);have e3:=Ww (sm (n-2) E) (sm (n-1) E) (T9 (jG c i) (C2 hi));have hC:decide (I ((bl:Int)+1)<(n:Int))=true:=BH (by rw[ew];omega);have hS:=It (fo:=fo) (p:=jG c i) w1 w2 e3;refine Ev.of rfl (iV (λ_=>⟨BH (by rw[w2];omega),BH (by rw[w2];omega),BH (by rw[w1];omega),BH (by rw[w1];omega)⟩) (λ_ _=>aL (BH (by rw[w1];omega)) (bb ?_)) (λ_ hf=>by rw[hS,BH hs]at hf;cases hf) (λhf=>by rw[hC]at hf;cases hf));rw[w1];exact h (A En g) _ _ _ _ _ _ _ _ (λk W=>hg k W)
 ·intro i n cap fo hi M Ri hs N WT h g i7 i8 f9 TA q SG VU UD hg
  have nx:∀(_:Unit),Ev (fw R S Z x3 O x5 x6 x7 b8 x9 Ql Qn Qp) (.L22 (I ((i:Int)+1)) (bl:Int) (A En g) (n+1) (jG c i).1 (jG c i).2 (bH n (A En fo) λ_=>Gf (jG c i)) i7 i8 f9 TA q SG VU UD) r:=λ_=>by rw[FA (j:=i) E];exact h (A En g) _ _ _ _ _ _ _ _ _ _ (λk W=>hg k W)
  by_cases SL:bl+1<n
  ·have w1:=y7 (j:=n) E E;have w2:=Iw (j:=n) E E;have sm:∀k,k<n->pI (pq fo k):=λk W=>(Ri k W).elim (hb _) (T9 _);have e3:=Ww (sm (n-2) E) (sm (n-1) E) (T9 (jG c i) (C2 hi));have hC:decide (I ((bl:Int)+1)<(n:Int))=true:=BH (by rw[ew];omega);have hS:=It (fo:=fo) (p:=jG c i) w1 w2 e3;have SS:=hs (by first|exact SL|(rw[TE];exact SL));exact Ev.of rfl (iV (λ_=>⟨BH (by rw[w2];omega),BH (by rw[w2];omega),BH (by rw[w1];omega),BH (by rw[w1];omega)⟩) (λ_ hf=>by rw[hS,eZ E]at hf;cases hf) (λ_ _=>ak (aL (mL N E) (bb (nx ())))) (λhf=>by rw[hC]at hf;cases hf))
  ·have hC:decide (I ((bl:Int)+1)<(n:Int))=false:=eZ (by rw[ew];omega)
   have hx:∀{P:Prop},decide (I ((bl:Int)+1)<(n:Int))=true->P:=λhh=>by rw[hC]at hh;cases hh
   exact Ev.of rfl (iV hx hx hx λ_=>ak (aL (mL N E) (bb (nx ()))))
 ·intro n fo X4 g ix iy i7 i8 f9 TA q SG VU UD hg;rw[SE];obtain⟨q1,q2,q3,q4⟩:=rP X4 (mW (.inr (by intro h;rw[h]at SE;simp at SE)));have w1:=y7 (j:=n) q1 (by have:=iF (l:=c) (st:=[]);simp only[Hs]at this;omega);have hl:=iF (l:=c) (st:=[]);simp only[Hs]at hl;have:=h5 (n-1) (A En fo) n E E q2 (by rw[Jw];omega);refine Ev.of rfl (d5 (eZ E) (aL (BH (by rw[w1];omega)) (aS ?_)));rw[w1];exact this
theorem aqT {r:V} {f:(Nat->List V)} (hS:JN 8 f) (T9:∀ At∈Er 8 f,pI At)
 (h5:∀n fo cap,n<=cap->cap<=100->Er n fo=ji (Er 8 f)->n=(ji (Er 8 f)).length->Ev (fw R S Z x3 O x5 x6 x7 b8 x9 Ql Qn Qp) (.L5 0 (n:Int) n (decide (2<(n:Int))) cap fo) r) (ia:Int) (fz:(Nat->List V)):Ev (fw R S Z x3 O x5 x6 x7 b8 x9 Ql Qn Qp) (.L4 0 f 0 (λ_=>[]) ia fz) r:=by
 generalize hc:Er 8 f=c at *
 have SE:c.length=8:=by rw[← hc,dH]
 have e0:I (0+1)=((1:Nat):Int):=by rw[D5 E E];rfl
 have at':∀(g:(Nat->List V)),(∀k,k<8->pq g k=pq f k)->∀i,i<8->jG c i=pq g i:=λg hg i hi=>by rw[hg i hi,← hc];exact iz hi
 have tn:=iF (l:=c) (st:=[]);simp only[Hs]at tn
 have key:=ni (base:=[]) (c:=c) (RO:=8) (by simp;omega)
  (PO:=λi n fo=>∀(g:(Nat->List V)) (ia:Int) (fz:(Nat->List V)),(∀k,k<8->pq g k=pq f k)->Ev (fw R S Z x3 O x5 x6 x7 b8 x9 Ql Qn Qp) (.L4 (i:Int) g n fo ia fz) r)
  (PI:=λi n cap fo=>∀(g:(Nat->List V)) (ia:Int) (fz:(Nat->List V)),(∀k,k<8->pq g k=pq f k)->Ev (fw R S Z x3 O x5 x6 x7 b8 x9 Ql Qn Qp) (.L7 (i:Int) g n (jG c i).1 (jG c i).2 cap fo ia fz) r) ?_ ?_ ?_ ?_
 ·exact key c [] [] 0 (λ_=>[]) rfl rfl rfl (Em _) (λAt hq=>by cases hq) f ia fz (λ_ _=>rfl)
 ·intro i n fo hi hn h g ia fz hg;rw[SE]at hi;have e:=at' g hg i hi;have h':=h;rw[e]at h';exact Ev.of rfl (c9 (BH E) (aL (BH E) (aL (BH E) (aS (h' (A En g) _ _ (λk W=>hg k W))))))
 ·intro i n cap fo hi M N WT Ri hs h g ia fz hg
  have SL:0+1<n:=by simpa using M
  have w1:=y7 (j:=n) E E;have w2:=Iw (j:=n) E E;have sm:∀k,k<n->pI (pq fo k):=λk W=>(Ri k W).elim (λh=>by cases h) (T9 _);have e3:=Ww (sm (n-2) E) (sm (n-1) E) (T9 (jG c i) (C2 hi));have hC:decide (I (0+1)<(n:Int))=true:=BH (by rw[e0];omega);have hS:=It (fo:=fo) (p:=jG c i) w1 w2 e3;refine Ev.of rfl (iV (λ_=>⟨BH (by rw[w2];omega),BH (by rw[w2];omega),BH (by rw[w1];omega),BH (by rw[w1];omega)⟩) (λ_ _=>aL (BH (by rw[w1];omega)) (bb ?_)) (λ_ hf=>by rw[hS,BH hs]at hf;cases hf) (λhf=>by rw[hC]at hf;cases hf));rw[w1];exact h (A En g) _ _ (λk W=>hg k W)
 ·intro i n cap fo hi M Ri hs N WT h g ia fz hg
  have nx:∀(_:Unit),Ev (fw R S Z x3 O x5 x6 x7 b8 x9 Ql Qn Qp) (.L4 (I ((i:Int)+1)) (A En g) (n+1) (bH n (A En fo) λ_=>Gf (jG c i)) ia fz) r:=λ_=>by rw[FA (j:=i) E];exact h (A En g) _ _ (λk W=>hg k W)
  by_cases SL:0+1<n
  ·have w1:=y7 (j:=n) E E;have w2:=Iw (j:=n) E E;have sm:∀k,k<n->pI (pq fo k):=λk W=>(Ri k W).elim (λh=>by cases h) (T9 _);have e3:=Ww (sm (n-2) E) (sm (n-1) E) (T9 (jG c i) (C2 hi));have hC:decide (I (0+1)<(n:Int))=true:=BH (by rw[e0];omega);have hS:=It (fo:=fo) (p:=jG c i) w1 w2 e3;have SS:=hs (by simpa using SL);exact Ev.of rfl (iV (λ_=>⟨BH (by rw[w2];omega),BH (by rw[w2];omega),BH (by rw[w1];omega),BH (by rw[w1];omega)⟩) (λ_ hf=>by rw[hS,eZ E]at hf;cases hf) (λ_ _=>ak (aL (mL N E) (bb (nx ())))) (λhf=>by rw[hC]at hf;cases hf))
  ·have hC:decide (I (0+1)<(n:Int))=false:=eZ (by rw[e0];omega)
   have hx:∀{P:Prop},decide (I (0+1)<(n:Int))=true->P:=λhh=>by rw[hC]at hh;cases hh
   exact Ev.of rfl (iV hx hx hx λ_=>ak (aL (mL N E) (bb (nx ()))))
 ·intro n fo X4 g ia fz hg
  rw[SE];obtain⟨q1,q2,q3,q4⟩:=rP X4 (mW (.inr (by intro h;rw[h]at SE;simp at SE)));simp only[Hs,Gh,List.nil_append]at q2 q3;have w1:=y7 (j:=n) q1 E;have wN:I ((8:Int)-1)=((8-1:Nat):Int):=by rw[D5 E E];rfl
  refine Ev.of rfl (d5 (eZ E) (aL (BH (by rw[w1];omega)) (aS ?_)));rw[w1,wN];have rev:=CH (Qo:=8) (g:=pq f) (P:=λi j Q=>∀(U1:(Nat->List V)) (ia:Int) (fz:(Nat->List V)),(∀k,pq U1 k=pq fo k)->Ev (fw R S Z x3 O x5 x6 x7 b8 x9 Ql Qn Qp) (.L13 (j:Int) (i:Int) Q (n-1) n U1 ia fz) r) ?_ ?_
  ·exact rev 8 0 (8-1) (A En g) E E (λk W=>by rw[DX E];exact hg k W) (A En fo) _ _ (λ_=>rfl)
  ·intro i j Q VQ hj h U1 ia fz Wx;have v1:=y7 (j:=j) E E;have v2:=FA (j:=i) E;refine Ev.of rfl (c9 (BH E) (aL (BH E) (aL (BH E) (aL (BH E) (aL (BH E) (aL (BH E) (aL (BH E) (aL (BH E) (aL (BH E) (bb ?_))))))))));rw[v1,v2];exact h (A En U1) _ _ (λk=>Wx k)
  ·intro i j Q VQ s9 U1 ia fz Wx
   have hb:Er (n-1) U1=(bG [] c).tail.reverse:=by rw[EF λk _=>Wx k];exact q2
   have W4:Er 8 Q=c.reverse:=by rw[← hc];exact ahS s9
   have Qw:(bG [] c).tail.reverse.length=n-1:=by rw[I5,Jw,← q3]
   have hu:ji c=(bG [] c).tail.reverse++(bG [] c.reverse).tail.reverse:=DC E;have YQ:∀ At∈(bG [] c).tail.reverse,pI At:=λAt hq=>by
    rcases lc (Ma (List.mem_reverse.1 hq)) with h|h
    ·cases h
    ·exact T9 At h
   have fin:=ap3 R S Z x3 O x5 x6 x7 b8 x9 Ql Qn Qp  (r:=r) (c:=c.reverse) (base:=(bG [] c).tail.reverse) (f:=A En Q) W4 (λAt hq=>T9 At (List.mem_reverse.1 hq)) YQ Qw E (λn fo cap k1 k2 k3 k4=>h5 n fo cap k1 k2 (by rw[hu];exact k3) (by rw[hu,HP,k4];congr 1;exact(I5 ..).symm)) (cap:=n) (fo:=A En U1) E E hb;exact Ev.of rfl (d5 (eZ E) (aS (fin _ _ _ _ _ _)))
theorem aqE {r:V} {Qo:Nat} {c:List P2} {bl:Nat} {base:List P2} {f:(Nat->List V)} (h3:3<=Qo) (h8:Qo<=8) (hf:Er Qo f=c) (T9:∀ At∈c,pI At) (hb:∀ At∈base,pI At) (TE:base.length=bl) (ih10:bl<=8)
 (h5:∀n fo cap,n<=cap->cap<=100->Er n fo=base++(bG [] c).tail.reverse->n=base.length+(bG [] c).tail.length->Ev (fw R S Z x3 O x5 x6 x7 b8 x9 Ql Qn Qp) (.L5 0 (n:Int) n (decide (2<(n:Int))) cap fo) r)
 {cap:Nat} {fo:(Nat->List V)} (hc:bl<=cap) (WZ:cap<=50) (XW:Er bl fo=base) (i7:Int) (i8:Int) (i9:Int) (TA:Nat) (Y:(Nat->List V)) (SG:(Nat->List V)) (VU:Int) (Rn:Nat) (Qu:Nat) (i16:Int) (VV:Int) (nz14:Int) (Vk:Nat) (UY:Int) (UZ:Int) (f22:(Nat->List V)):Ev (fw R S Z x3 O x5 x6 x7 b8 x9 Ql Qn Qp) (.L24 (Qo:Int) Qo (bl:Int) f bl cap fo i7 i8 i9 TA Y SG VU Rn Qu i16 VV nz14 Vk UY UZ f22) r:=by
 have SE:c.length=Qo:=by rw[← hf,dH]
 have ew:=FA (j:=bl) E;have e0:I (0+1)=((1:Nat):Int):=by rw[D5 E E];rfl
 have at':∀(g:(Nat->List V)),(∀k,k<Qo->pq g k=pq f k)->∀i,i<Qo->jG c i=pq g i:=λg hg i hi=>by rw[hg i hi,← hf];exact iz hi
 have key:=ni (base:=base) (c:=c) (RO:=bl+8) E
  (PO:=λi n fo=>∀(g:(Nat->List V)) (ix:Int) (iy:Int) (VG:Int) (VJ:Int) (VK:Int) (Sj:Nat) (Qd:(Nat->List V)) (Rn:Nat) (Qu:Nat) (UE:(Nat->List V)) (VV:Int) (VM:Nat) (Vk:Nat) (UY:Int) (UZ:Int) (Wg:Int) (Wm:Nat) (VL:Int) (Wh:Int) (WH:(Nat->List V)),(∀k,k<Qo->pq g k=pq f k)->Ev (fw R S Z x3 O x5 x6 x7 b8 x9 Ql Qn Qp) (.L26 (i:Int) (Qo:Int) Qo (bl:Int) g n ix iy fo VG VJ VK Sj Qd Rn Qu UE VV VM Vk UY UZ Wg Wm VL Wh WH) r)
  (PI:=λi n cap fo=>∀(g:(Nat->List V)) (VG:Int) (VJ:Int) (VK:Int) (Sj:Nat) (Qd:(Nat->List V)) (Rn:Nat) (Qu:Nat) (UE:(Nat->List V)) (VV:Int) (VM:Nat) (Vk:Nat) (UY:Int) (UZ:Int) (Wg:Int) (Wm:Nat) (VL:Int) (Wh:Int) (WH:(Nat->List V)),(∀k,k<Qo->pq g k=pq f k)->Ev (fw R S Z x3 O x5 x6 x7 b8 x9 Ql Qn Qp) (.L27 (i:Int) (Qo:Int) Qo (bl:Int) g n (jG c i).1 (jG c i).2 cap fo VG VJ VK Sj Qd Rn Qu UE VV VM Vk UY UZ Wg Wm VL Wh WH) r) ?_ ?_ ?_ ?_
 ·-- the first round
  obtain⟨p,l,ec⟩:∃ p l,c=p::l:=by
   cases c with
   |nil=>simp at SE;omega|cons p l=>exact⟨p,l,rfl⟩
  have hp:pq f 0=p:=by have:=at' f (λ_ _=>rfl) 0 E;rw[← this,ec];rfl
  subst hp;have k1:=key l [pq f 0] [pq f 0] (bl+1) (bH bl (A En fo) λ_=>Gf (pq f 0)) (by rw[ec];rfl) (by rw[ec];rfl) (by rw[xH,XW];rfl) (Em _) (λAt hq=>by rw[ec];simp at hq;simp[hq]);have T0:∀ (VG:Int) (VJ:Int) (VK:Int) (Sj:Nat) (Qd:(Nat->List V)) (Rn:Nat) (Qf:(Nat->List V)) (i16:Int) (n17:Nat) (VM:Nat) (i19:Int) (UY:Int) (UZ:Int) (n22:Nat) (i23:Int) (VL:Int) (f25:(Nat->List V)),Ev (fw R S Z x3 O x5 x6 x7 b8 x9 Ql Qn Qp) (.L25 (Qo:Int) Qo (bl:Int) (A En f) bl cap (A En fo) (pq f 0).1 (pq f 0).2 VG VJ VK Sj Qd Rn Qf i16 n17 VM i19 UY UZ n22 i23 VL f25) r:=by
   intro VG VJ VK Sj Qd Rn Qf i16 n17 VM i19 UY UZ n22 i23 VL f25;have hC:decide (I ((bl:Int)+1)<(bl:Int))=false:=eZ (by rw[ew];omega);have hx:∀{P:Prop},decide (I ((bl:Int)+1)<(bl:Int))=true->P:=λhh=>by rw[hC]at hh;cases hh
   refine Ev.of rfl (iV hx hx hx λ_=>ak (aL (mL hc E) (bb ?_)));rw[e0];exact k1 (A En f) _ _ _ _ _ _ _ _ _ _ _ _ _ _ _ _ _ _ _ _ (λk W=>rfl)
  exact Ev.of rfl (c9 (BH E) (aL (BH E) (ak (aS (T0 _ _ _ _ _ _ _ _ _ _ _ _ _ _ _ _ _)))))
 ·intro i n fo hi hn h g ix iy VG VJ VK Sj Qd Rn Qu UE VV VM Vk UY UZ Wg Wm VL Wh WH hg;rw[SE]at hi;have e:=at' g hg i hi;have h':=h;rw[e]at h';exact Ev.of rfl (c9 (BH E) (aL (BH E) (aL (BH E) (aS (h' (A En g) _ _ _ _ _ _ _ _ _ _ _ _ _ _ _ _ _ _ (λk W=>hg k W))))))
 ·intro i n cap fo hi M N WT Ri hs h g VG VJ VK Sj Qd Rn Qu UE VV VM Vk UY UZ Wg Wm VL Wh WH hg
  have SL:bl+1<n:=by rw[← TE];exact M
  have w1:=y7 (j:=n) E E;have w2:=Iw (j:=n) E E;have sm:∀k,k<n->pI (pq fo k):=λk W=>(Ri k W).elim (hb _) (T9 _);have e3:=Ww (sm (n-2) E) (sm (n-1) E) (T9 (jG c i) (C2 hi));have hC:decide (I ((bl:Int)+1)<(n:Int))=true:=BH (by rw[ew];omega);have hS:=It (fo:=fo) (p:=jG c i) w1 w2 e3;refine Ev.of rfl (iV (λ_=>⟨BH (by rw[w2];omega),BH (by rw[w2];omega),BH (by rw[w1];omega),BH (by rw[w1];omega)⟩) (λ_ _=>aL (BH (by rw[w1];omega)) (bb ?_)) (λ_ hf=>by rw[hS,BH hs]at hf;cases hf) (λhf=>by rw[hC]at hf;cases hf));rw[w1];exact h (A En g) _ _ _ _ _ _ _ _ _ _ _ _ _ _ _ _ _ _ (λk W=>hg k W)
 ·intro i n cap fo hi M Ri hs N WT h g VG VJ VK Sj Qd Rn Qu UE VV VM Vk UY UZ Wg Wm VL Wh WH hg
  have nx:∀(_:Unit),Ev (fw R S Z x3 O x5 x6 x7 b8 x9 Ql Qn Qp) (.L26 (I ((i:Int)+1)) (Qo:Int) Qo (bl:Int) (A En g) (n+1) (jG c i).1 (jG c i).2 (bH n (A En fo) λ_=>Gf (jG c i)) VG VJ VK Sj Qd Rn Qu UE VV VM Vk UY UZ Wg Wm VL Wh WH) r:=λ_=>by rw[FA (j:=i) E];exact h (A En g) _ _ _ _ _ _ _ _ _ _ _ _ _ _ _ _ _ _ _ _ (λk W=>hg k W)
  by_cases SL:bl+1<n
  ·have w1:=y7 (j:=n) E E;have w2:=Iw (j:=n) E E;have sm:∀k,k<n->pI (pq fo k):=λk W=>(Ri k W).elim (hb _) (T9 _);have e3:=Ww (sm (n-2) E) (sm (n-1) E) (T9 (jG c i) (C2 hi));have hC:decide (I ((bl:Int)+1)<(n:Int))=true:=BH (by rw[ew];omega);have hS:=It (fo:=fo) (p:=jG c i) w1 w2 e3;have SS:=hs (by first|exact SL|(rw[TE];exact SL));exact Ev.of rfl (iV (λ_=>⟨BH (by rw[w2];omega),BH (by rw[w2];omega),BH (by rw[w1];omega),BH (by rw[w1];omega)⟩) (λ_ hf=>by rw[hS,eZ E]at hf;cases hf) (λ_ _=>ak (aL (mL N E) (bb (nx ())))) (λhf=>by rw[hC]at hf;cases hf))
  ·have hC:decide (I ((bl:Int)+1)<(n:Int))=false:=eZ (by rw[ew];omega)
   have hx:∀{P:Prop},decide (I ((bl:Int)+1)<(n:Int))=true->P:=λhh=>by rw[hC]at hh;cases hh
   exact Ev.of rfl (iV hx hx hx λ_=>ak (aL (mL N E) (bb (nx ()))))
 ·intro n fo X4 g ix iy VG VJ VK Sj Qd Rn Qu UE VV VM Vk UY UZ Wg Wm VL Wh WH hg;rw[SE];obtain⟨q1,q2,q3,q4⟩:=rP X4 (mW (.inr (by intro h;rw[h]at SE;simp at SE;omega)));have w1:=y7 (j:=n) q1 (by have:=iF (l:=c) (st:=[]);simp only[Hs]at this;omega);have hl:=iF (l:=c) (st:=[]);simp only[Hs]at hl;have:=h5 (n-1) (A En fo) n E E q2 (by rw[Jw];omega);refine Ev.of rfl (d5 (eZ E) (aL (BH (by rw[w1];omega)) (aS ?_)));rw[w1];exact this
theorem aqj {r:V} {Qo:Nat} {f:(Nat->List V)} (h3:3<=Qo) (h8:Qo<=8) (hS:JN Qo f) (T9:∀ At∈Er Qo f,pI At)
 (h5:∀n fo cap,n<=cap->cap<=100->Er n fo=ji (Er Qo f)->n=(ji (Er Qo f)).length->Ev (fw R S Z x3 O x5 x6 x7 b8 x9 Ql Qn Qp) (.L5 0 (n:Int) n (decide (2<(n:Int))) cap fo) r) (ia:Int) (na:Nat) (nb:Nat) (ib:Int) (ic:Int) (id:Int) (nc:Nat) (ie:Int) (fz:(Nat->List V)):Ev (fw R S Z x3 O x5 x6 x7 b8 x9 Ql Qn Qp) (.L12 0 (Qo:Int) Qo f 0 (λ_=>[]) ia na nb ib ic id nc ie (Qo:Int) fz) r:=by
 generalize hc:Er Qo f=c at *
 have SE:c.length=Qo:=by rw[← hc,dH]
 have e0:I (0+1)=((1:Nat):Int):=by rw[D5 E E];rfl
 have at':∀(g:(Nat->List V)),(∀k,k<Qo->pq g k=pq f k)->∀i,i<Qo->jG c i=pq g i:=λg hg i hi=>by rw[hg i hi,← hc];exact iz hi
 have tn:=iF (l:=c) (st:=[]);simp only[Hs]at tn
 have key:=ni (base:=[]) (c:=c) (RO:=8) (by simp;omega)
  (PO:=λi n fo=>∀(g:(Nat->List V)) (ia:Int) (na:Nat) (nb:Nat) (ib:Int) (ic:Int) (id:Int) (nc:Nat) (ie:Int) (fz:(Nat->List V)),(∀k,k<Qo->pq g k=pq f k)->Ev (fw R S Z x3 O x5 x6 x7 b8 x9 Ql Qn Qp) (.L12 (i:Int) (Qo:Int) Qo g n fo ia na nb ib ic id nc ie (Qo:Int) fz) r)
  (PI:=λi n cap fo=>∀(g:(Nat->List V)) (ia:Int) (na:Nat) (nb:Nat) (ib:Int) (ic:Int) (id:Int) (nc:Nat) (ie:Int) (fz:(Nat->List V)),(∀k,k<Qo->pq g k=pq f k)->Ev (fw R S Z x3 O x5 x6 x7 b8 x9 Ql Qn Qp) (.L14 (i:Int) (Qo:Int) Qo g n (jG c i).1 (jG c i).2 cap fo ia na nb ib ic id nc ie (Qo:Int) fz) r) ?_ ?_ ?_ ?_
 ·exact key c [] [] 0 (λ_=>[]) rfl rfl rfl (Em _) (λAt hq=>by cases hq) f ia na nb ib ic id nc ie fz (λ_ _=>rfl)
 ·intro i n fo hi hn h g ia na nb ib ic id nc ie fz hg;rw[SE]at hi;have e:=at' g hg i hi;have h':=h;rw[e]at h';exact Ev.of rfl (c9 (BH E) (aL (BH E) (aL (BH E) (aS (h' (A En g) _ _ _ _ _ _ _ _ _ (λk W=>hg k W))))))
 ·intro i n cap fo hi M N WT Ri hs h g ia na nb ib ic id nc ie fz hg
  have SL:0+1<n:=by simpa using M
  have w1:=y7 (j:=n) E E;have w2:=Iw (j:=n) E E;have sm:∀k,k<n->pI (pq fo k):=λk W=>(Ri k W).elim (λh=>by cases h) (T9 _);have e3:=Ww (sm (n-2) E) (sm (n-1) E) (T9 (jG c i) (C2 hi));have hC:decide (I (0+1)<(n:Int))=true:=BH (by rw[e0];omega);have hS:=It (fo:=fo) (p:=jG c i) w1 w2 e3;refine Ev.of rfl (iV (λ_=>⟨BH (by rw[w2];omega),BH (by rw[w2];omega),BH (by rw[w1];omega),BH (by rw[w1];omega)⟩) (λ_ _=>aL (BH (by rw[w1];omega)) (bb ?_)) (λ_ hf=>by rw[hS,BH hs]at hf;cases hf) (λhf=>by rw[hC]at hf;cases hf));rw[w1];exact h (A En g) _ _ _ _ _ _ _ _ _ (λk W=>hg k W)
 ·intro i n cap fo hi M Ri hs N WT h g ia na nb ib ic id nc ie fz hg
  have nx:∀(_:Unit),Ev (fw R S Z x3 O x5 x6 x7 b8 x9 Ql Qn Qp) (.L12 (I ((i:Int)+1)) (Qo:Int) Qo (A En g) (n+1) (bH n (A En fo) λ_=>Gf (jG c i)) ia na nb ib ic id nc ie (Qo:Int) fz) r:=λ_=>by rw[FA (j:=i) E];exact h (A En g) _ _ _ _ _ _ _ _ _ (λk W=>hg k W)
  by_cases SL:0+1<n
  ·have w1:=y7 (j:=n) E E;have w2:=Iw (j:=n) E E;have sm:∀k,k<n->pI (pq fo k):=λk W=>(Ri k W).elim (λh=>by cases h) (T9 _);have e3:=Ww (sm (n-2) E) (sm (n-1) E) (T9 (jG c i) (C2 hi));have hC:decide (I (0+1)<(n:Int))=true:=BH (by rw[e0];omega);have hS:=It (fo:=fo) (p:=jG c i) w1 w2 e3;have SS:=hs (by simpa using SL);exact Ev.of rfl (iV (λ_=>⟨BH (by rw[w2];omega),BH (by rw[w2];omega),BH (by rw[w1];omega),BH (by rw[w1];omega)⟩) (λ_ hf=>by rw[hS,eZ E]at hf;cases hf) (λ_ _=>ak (aL (mL N E) (bb (nx ())))) (λhf=>by rw[hC]at hf;cases hf))
  ·have hC:decide (I (0+1)<(n:Int))=false:=eZ (by rw[e0];omega)
   have hx:∀{P:Prop},decide (I (0+1)<(n:Int))=true->P:=λhh=>by rw[hC]at hh;cases hh
   exact Ev.of rfl (iV hx hx hx λ_=>ak (aL (mL N E) (bb (nx ()))))
 ·intro n fo X4 g ia na nb ib ic id nc ie fz hg
  rw[SE];obtain⟨q1,q2,q3,q4⟩:=rP X4 (mW (.inr (by intro h;rw[h]at SE;simp at SE;omega)));simp only[Hs,Gh,List.nil_append]at q2 q3;have w1:=y7 (j:=n) q1 E;have wN:I ((((Qo:Int)).toNat:Int)-1)=((Qo-1:Nat):Int):=by exact y7 E E
  refine Ev.of rfl (d5 (eZ E) (aL (BH (by rw[w1];omega)) (aS ?_)));rw[w1,wN];have rev:=CH (Qo:=Qo) (g:=pq f) (P:=λi j Q=>∀(U1:(Nat->List V)) (ia:Int) (na:Nat) (nb:Nat) (ib:Int) (ic:Int) (id:Int) (nc:Nat) (ie:Int) (fz:(Nat->List V)),(∀k,pq U1 k=pq fo k)->Ev (fw R S Z x3 O x5 x6 x7 b8 x9 Ql Qn Qp) (.L15 (j:Int) (i:Int) (Qo:Int) Qo Q (n-1) n U1 ia na nb ib ic id nc ie (Qo:Int) fz) r) ?_ ?_
  ·exact rev Qo 0 (Qo-1) (A En g) E E (λk W=>by rw[DX E];exact hg k W) (A En fo) _ _ _ _ _ _ _ _ _ (λ_=>rfl)
  ·intro i j Q VQ hj h U1 ia na nb ib ic id nc ie fz Wx;have v1:=y7 (j:=j) E E;have v2:=FA (j:=i) E;refine Ev.of rfl (c9 (BH E) (aL (BH E) (aL (BH E) (aL (BH E) (aL (BH E) (aL (BH E) (aL (BH E) (aL (BH E) (aL (BH E) (bb ?_))))))))));rw[v1,v2];exact h (A En U1) _ _ _ _ _ _ _ _ _ (λk=>Wx k)
  ·intro i j Q VQ s9 U1 ia na nb ib ic id nc ie fz Wx
   have hb:Er (n-1) U1=(bG [] c).tail.reverse:=by rw[EF λk _=>Wx k];exact q2
   have W4:Er Qo Q=c.reverse:=by rw[← hc];exact ahS s9
   have Qw:(bG [] c).tail.reverse.length=n-1:=by rw[I5,Jw,← q3]
   have hu:ji c=(bG [] c).tail.reverse++(bG [] c.reverse).tail.reverse:=DC E;have YQ:∀ At∈(bG [] c).tail.reverse,pI At:=λAt hq=>by
    rcases lc (Ma (List.mem_reverse.1 hq)) with h|h
    ·cases h
    ·exact T9 At h
   have fin:=aqE R S Z x3 O x5 x6 x7 b8 x9 Ql Qn Qp h3 h8 (r:=r) (c:=c.reverse) (base:=(bG [] c).tail.reverse) (f:=A En Q) W4 (λAt hq=>T9 At (List.mem_reverse.1 hq)) YQ Qw E (λn fo cap k1 k2 k3 k4=>h5 n fo cap k1 k2 (by rw[hu];exact k3) (by rw[hu,HP,k4];congr 1;exact(I5 ..).symm)) (cap:=n) (fo:=A En U1) E E hb;exact Ev.of rfl (d5 (eZ E) (aS (fin _ _ _ _ _ _ _ _ _ _ _ _ _ _ _ _)))
theorem R3 (hm:pI (x5,x6)) (h7:0<=x7) (h8:x7<=1073741824) {RG:List P2} (hL:∀ At∈RG,pI At) {m:Nat} {f:(Nat->List V)} (M:1<=m) (hs:JN m f) (hf:mI m (λAt=>At∈RG) f) {n cap:Nat} {fo:(Nat->List V)} (k1:n<=cap) (k2:cap<=100) (k3:Er n fo=ji (Er m f)) (k4:n=(ji (Er m f)).length) :
 Ev (fw R S Z x3 O x5 x6 x7 b8 x9 Ql Qn Qp) (.L5 0 (n:Int) n (decide (2<(n:Int))) cap fo) (.bool (JL RG (x5,x6) x7)):=by
 have hmem:∀At,At∈RG↔At∈Er m f:=λAt=>(hf At).trans rQ.symm;have SQ:Er m f≠[]:=λh=>by have:=dH m f;rw[h]at this;simp at this;omega
 have:=ann R S Z x3 O x5 x6 x7 b8 x9 Ql Qn Qp hm h7 h8 k1 k2 (by have:=hq2 (aqm hs) SQ;omega) (λk W=>hL _ ((hmem _).2 (hro (by rw[← k3];exact rQ.2 ⟨k,W,rfl⟩))));rw[k3,aff (aqm hs) hmem]at this;exact this
theorem ajW (hb:b8=false) (Sz:Nc R S Z x3 O x5 x6 x7 x9 Ql Qn Qp) {f:(Nat->List V)} (hf:Er 8 f=IM R S Z x3 O x9 Ql Qn Qp):Ev (fw R S Z x3 O x5 x6 x7 b8 x9 Ql Qn Qp) (.L0 1 f) (.bool (OR R S Z x3 O x5 x6 x7 b8 x9 Ql Qn Qp)):=by
 have hF:OR R S Z x3 O x5 x6 x7 b8 x9 Ql Qn Qp=JL (IM R S Z x3 O x9 Ql Qn Qp) (x5,x6) x7:=by unfold OR;rw[hb];rfl
 rw[hF];have hL:=jf6 Sz;have hm:pI (x5,x6):=⟨Sz.2.2.2.2.2.1,Sz.2.2.2.2.2.2.1⟩;have h7:=Sz.2.2.2.2.2.2.2.1;have sml:∀{m:Nat} {f:(Nat->List V)},mI m (λAt=>At∈IM R S Z x3 O x9 Ql Qn Qp) f->∀At∈Er m f,pI At:=λhm At hq=>hL At ((hm At).2 (rQ.1 hq));refine ajJ R S Z x3 O x5 x6 x7 b8 x9 Ql Qn Qp (AT:=λAt=>At∈IM R S Z x3 O x9 Ql Qn Qp) hL (λf j g hs UV=>ak1 R S Z x3 O x5 x6 x7 b8 x9 Ql Qn Qp ?_ ?_ ?_ j g hs UV) (λAt=>by rw[← hf];exact rQ)
 ·exact λf j g hs UV=>aqT R S Z x3 O x5 x6 x7 b8 x9 Ql Qn Qp hs (sml UV) (λn fo cap k1 k2 k3 k4=>R3 R S Z x3 O x5 x6 x7 b8 x9 Ql Qn Qp hm h7.1 h7.2 hL E hs UV k1 k2 k3 k4) j g
 ·exact λm f M h3 hs UV=>R3 R S Z x3 O x5 x6 x7 b8 x9 Ql Qn Qp hm h7.1 h7.2 hL M hs UV (n:=m) E E (abJ (by rw[dH];exact h3)).symm (by rw[abJ (by rw[dH];exact h3),dH])
 ·exact λm f i n1 T i1 i2 i3 n3 i4 g h3 h8 hs UV=>aqj R S Z x3 O x5 x6 x7 b8 x9 Ql Qn Qp h3 E hs (sml UV) (λn fo cap k1 k2 k3 k4=>R3 R S Z x3 O x5 x6 x7 b8 x9 Ql Qn Qp hm h7.1 h7.2 hL E hs UV k1 k2 k3 k4) i n1 T i1 i2 i3 n3 i4 g
theorem apo (hp:b8=false->Nc R S Z x3 O x5 x6 x7 x9 Ql Qn Qp):a6 (Ev (fw R S Z x3 O x5 x6 x7 b8 x9 Ql Qn Qp)) (m57 R S Z x3 O x5 x6 x7 b8 x9 Ql Qn Qp) (.bool (OR R S Z x3 O x5 x6 x7 b8 x9 Ql Qn Qp)):=by
 refine E2 (λh=>aA ?_) (λh=>?_)
 ·have:OR R S Z x3 O x5 x6 x7 b8 x9 Ql Qn Qp=false:=by unfold OR;rw[h];rfl
  rw[this];rfl
 ·have e1:I (0+1)=1:=by rw[D5 E E];rfl
  repeat (first|refine ak ?_|refine aC ?_|refine kr ?_|refine r8 ?_)
  refine aS ?_;rw[e1];exact ajW R S Z x3 O x5 x6 x7 b8 x9 Ql Qn Qp h (hp h) rfl
def Q9:aD:=cK [.agg [tI,tI,tI,tI,tI,tI,tI,tI,.bool],.agg kp] (λ
 |[.agg [.int _ R,.int _ S,.int _ Z,.int _ x3,.int _ O,.int _ x5,.int _ x6,.int _ x7,.bool b8],.agg [.int _ x9,.int _ Ql,.int _ Qn,.int _ Qp]]=>b8=false->Nc R S Z x3 O x5 x6 x7 x9 Ql Qn Qp|_=>False) λ
 |[.agg [.int _ R,.int _ S,.int _ Z,.int _ x3,.int _ O,.int _ x5,.int _ x6,.int _ x7,.bool b8],.agg [.int _ x9,.int _ Ql,.int _ Qn,.int _ Qp]]=>.bool (OR R S Z x3 O x5 x6 x7 b8 x9 Ql Qn Qp)|_=>.any
theorem arC:c7 Q9 128:=bo fo8 λ_ hp=>qV (akp ..) (apo _ _ _ _ _ _ _ _ _ _ _ _ _ hp)
end
end Go.Dx
namespace Go.Dx
open Go.IntKind (i64 u64 u8)
open Go.Sx Go.Proofs
noncomputable section
attribute [local irreducible] aew agB
end
end Go.Dx
namespace Go.Dx
open Go.Sx
noncomputable section
theorem ie5 {x y a z w:Int} (h:G9 x y a z w=0):(-100000<=x/\x<=100000)/\(-100000<=y/\y<=100000)/\(1<=a/\a<=20000)/\0<=z/\z<w/\w<=1000:=by
 unfold G9 at h;cases hp:vA x y with
 |false=>rw[hp]at h;cases h
 |true=>
   rw[hp]at h;simp only[IA,IY,cond_true]at h;cases hf:gR a 1 20000 with
   |false=>rw[hf]at h;cases h
   |true=>
     rw[hf]at h;have ha:=ms hf;have hq:=P9 hp;by_cases M:z<0
     ·simp[M]at h
     ·by_cases N:w<=z
      ·simp[M,N]at h
      ·by_cases h3:1000<w
       ·simp[M,N,h3]at h
       ·exact⟨hq.1,hq.2,ha,E,E,E⟩
theorem afF {x y h dx dy:Int} (hc:RP x y h dx dy=0):(-100000<=x/\x<=100000)/\(-100000<=y/\y<=100000)/\(1<=h/\h<=200):=by
 have Sr:(bif bif bif bif !vA x y then true else !gR h 1 200 then true else !gR dx (-1000) 1000 then true else !gR dy (-1000) 1000 then 7 else bif bif dx==0 then dy==0 else false then 2 else(0:Int))=0:=hc;cases hp:vA x y with
 |false=>rw[hp]at Sr;cases Sr
 |true=>
   rw[hp]at Sr;cases hf:gR h 1 200 with
   |false=>rw[hf]at Sr;cases Sr|true=>exact⟨(P9 hp).1,(P9 hp).2,ms hf⟩
theorem ag7 {n6:Nat} {f6:bk} {i:Nat} (h:cC n6 f6 i=0):RP (bM (f6 i)) (d9 (f6 i)) (cH (f6 i)) (eV (f6 i)) (ck (f6 i))=0:=by
 have h':Kh n6 (A aG f6) (i:Int)=0:=h;unfold Kh at h';simp only[GR]at h';cases hn:S0 (sv (aM (A aG f6 i))) with
 |false=>rw[hn]at h';cases h'
 |true=>
   rw[hn,IA,cond_false]at h';cases hd:jl i (λk=>(sv (aM (A aG f6 k))).toList==(sv (aM (A aG f6 i))).toList) with
   |true=>rw[hd]at h';cases h'|false=>rw[hd,cond_false]at h';exact h'
section
variable {X R6 h tx ty RJ lo hi x9 Ql Qn Qp px py:Int}
structure TC (X R6 h tx ty RJ lo hi:Int):Prop where
 X':-100000<=X/\X<=100000
 Y':-100000<=R6/\R6<=100000
 h':1<=h/\h<=200
 tx':-100000<=tx/\tx<=100000
 ty':-100000<=ty/\ty<=100000
 R':1<=RJ/\RJ<=20000
 lo':0<=lo/\lo<hi/\hi<=1000
theorem TC.vals (t:TC X R6 h tx ty RJ lo hi):mz h hi=max 0 (h-hi)/\aoA h hi=max 0 (h-hi)/\ma h lo=h-lo/\fn5 h lo=h-lo/\mr h tx=h*tx/\aoy h tx=h*tx/\lZ h ty=h*ty/\c66 h ty=h*ty/\lU h RJ=h*RJ/\fy6 h RJ=h*RJ/\sm (h*tx)/\sm (h*ty)/\0<=h*RJ/\h*RJ<=1073741824:=by obtain⟨_,_,hh,M,N,h3,h4⟩:=t;have k1:=sU (x:=h) (y:=tx) (R0:=200) (B:=100000) E E E E;have k2:=sU (x:=h) (y:=ty) (R0:=200) (B:=100000) E E E E;have k3:=sU (x:=h) (y:=RJ) (R0:=200) (B:=20000) E E E E;have k4:=fW (show 0<=h by omega) (show 0<=RJ by omega);unfold mz aoA ma fn5 mr lZ lU xg yC aoy c66 fy6;rw[Int.mul_comm RJ h,D5 (x:=h-hi) E E,D5 (x:=h-min hi h) E E,D5 (x:=h-lo) E E,D5 (x:=h*tx) E E,D5 (x:=h*ty) E E,D5 (x:=h*RJ) E E];unfold sm;refine⟨rfl,E,rfl,rfl,rfl,rfl,rfl,rfl,rfl,rfl,E,E,k4,E⟩
theorem TC.in57 (t:TC X R6 h tx ty RJ lo hi) (hb:jT h lo=false) (h9:-100000<=x9/\x9<=100000) (Vt:-100000<=Ql/\Ql<=100000) (Vu:-100000<=Qn/\Qn<=100000) (V7:-100000<=Qp/\Qp<=100000):Nc X R6 h (mz h hi) (ma h lo) (mr h tx) (lZ h ty) (lU h RJ) x9 Ql Qn Qp:=by obtain⟨e1,_,e2,_,e3,_,e4,_,e5,_,s1,s2,s3,s4⟩:=t.vals;have:=t.h';have:=t.lo';unfold jT at hb;have hb:=H3 hb;rw[e1,e2,e3,e4,e5];exact⟨t.X',t.Y',E,E,E,s1,s2,⟨s3,s4⟩,h9,Vt,Vu,V7⟩
end
def ij (d t:Nat->Bool):Nat->Int
 |0=>0|k+1=>bif d k then 2 else bif t k then max (ij d t k) 1 else ij d t k
def AY (d t:Nat->Bool) (n:Nat):Int:=bif jl n d then 2 else bif jl n t then 1 else 0
theorem nt (n:Nat) (p:Nat->Bool):jl (n+1) p=(jl n p||p n):=by
 cases h:jl (n+1) p with
 |true=>
   obtain⟨i,hi,hp⟩:=wi.1 h;by_cases e:i=n
   ·rw[← e,hp];simp
   ·rw[eF i E hp];rfl
 |false=>
   have M:jl n p=false:=by
    cases N:jl n p with
    |false=>rfl|true=>obtain⟨i,hi,hp⟩:=wi.1 N;rw[eF i E hp]at h;cases h
   have N:p n=false:=by
    cases N:p n with
    |false=>rfl|true=>rw[eF n E N]at h;cases h
   rw[M,N];rfl
theorem rl (d t:Nat->Bool):∀ n,ij d t n=AY d t n
 |0=>rfl
 |n+1=>by
   have ih:=rl d t n;unfold AY at *
   simp only[ij];rw[nt,nt,ih];cases jl n d<;>cases jl n t<;>cases d n<;>cases t n<;>rfl
end
end Go.Dx
namespace Go.Dx
open Go.IntKind (i64 u64 u8)
open Go.Sx Go.Proofs
variable (H:Nat) (G:bk) (T:Nat) (Q:bk) (n4:Nat) (f4:bk) (n6:Nat) (f6:bk) (x8 x9 Ql Qn Qp:Int)
noncomputable section
def Qj:bm:=(128,.con Q9)::jr
theorem aet:aV Tryz.prog BN D7 Qj:=.con arC (fo8)
attribute [local irreducible] Lz hdj HI
theorem aat {H:Nat} {G:bk} {T:Nat} {Q:bk} {n4:Nat} {f4:bk} {n6:Nat} {f6:bk} {x8:Int} (h:H1 (m5 H (A aN G) T (A aX Q) n4 (A aY f4) n6 (A aG f6)) x8 n6=0):(0<=x8/\x8<(n6:Int))/\∀i,i<T->TC (bM (f6 x8.toNat)) (d9 (f6 x8.toNat)) (cH (f6 x8.toNat)) (aE (Q i)) (bM (Q i)) (d9 (Q i)) (cH (Q i)) (eV (Q i)):=by obtain⟨M,N,h3⟩:=hy0 h;have U:=J4 M;refine⟨⟨N,h3⟩,λi hi=>?_⟩;have hc:=afF (ag7 (f6:=A aG f6) (U.cl x8.toNat E));have ht:=ie5 (U.tr i hi);exact⟨hc.1,hc.2.1,hc.2.2,ht.1,ht.2.1,ht.2.2.1,ht.2.2.2⟩
inductive Tt where|L0 (_ _:Int)
def ajy:Tt->bZ×List A7×Option Ex
 |.L0 Qg RU=>([(31,D Qg),(30,D (T:Int)),(29,V.sl T (A aX Q)),(9,D RU),(5,V.pl 0 0),(3,V.pl 1 0),(1,D x8)],[A7.cells [D x9,D Ql,D Qn,D Qp] 37,A7.cells [V.sl H (A aN G),V.sl T (A aX Q),V.sl n4 (A aY f4),V.sl n6 (A aG f6)] 31],none)
def aqG:Tt->JJ
 |.L0 ..=>(0,[])
def aoh:BO (cX JJ):=ba JJ Qj u0 Tw [M0 H G T Q n4 f4 n6 f6,D x8,V.agg [D x9,D Ql,D Qn,D Qp]]
def ff5 (cx:List Cx):Lp JJ:=iZ (ik (aoh H G T Q n4 f4 n6 f6 x8 x9 Ql Qn Qp) [false,false])
def aqo:JJ->Lp JJ
 |(0,cx)=>ff5 H G T Q n4 f4 n6 f6 x8 x9 Ql Qn Qp cx|(_,cx)=>ff5 H G T Q n4 f4 n6 f6 x8 x9 Ql Qn Qp cx
def D17:LD JJ Tt:=⟨aqG,aqo H G T Q n4 f4 n6 f6 x8 x9 Ql Qn Qp,ajy H G T Q n4 f4 n6 f6 x8 x9 Ql Qn Qp⟩
def Ud (H:Nat) (G:bk) (T:Nat) (Q:bk) (n4:Nat) (f4:bk) (n6:Nat) (f6:bk) (x8 x9 Ql Qn Qp:Int):Tt->RT Tt
 |.L0 Qg RU=>.br (decide (Qg<(T:Int))) (.ob (decide (0<=Qg/\Qg<(T:Int))) (.ob (decide (0<=x8/\x8<(n6:Int))) (.cb (.cb (.cb (.br (!C6 4 (A aK (cq [D x9,D Ql,D Qn,D Ql,D Qn,D Qp,D x9,D Qp] 0 2)) (bM (f6 x8.toNat)) (d9 (f6 x8.toNat)) (cH (f6 x8.toNat)) (mz (cH (f6 x8.toNat)) (eV (Q Qg.toNat))) (ma (cH (f6 x8.toNat)) (cH (Q Qg.toNat))) (mr (cH (f6 x8.toNat)) (aE (Q Qg.toNat))) (lZ (cH (f6 x8.toNat)) (bM (Q Qg.toNat))) (lU (cH (f6 x8.toNat)) (d9 (Q Qg.toNat))) (jT (cH (f6 x8.toNat)) (cH (Q Qg.toNat)))) (.next IC (Tt.L0 (I (Qg+1)) 2) []) (.obp (jT (cH (f6 x8.toNat)) (cH (Q Qg.toNat))=false->((-100000:Int)<=bM (f6 x8.toNat)/\bM (f6 x8.toNat)<=(100000:Int))/\((-100000:Int)<=d9 (f6 x8.toNat)/\d9 (f6 x8.toNat)<=(100000:Int))/\((0:Int)<=cH (f6 x8.toNat)/\cH (f6 x8.toNat)<=(200:Int))/\((0:Int)<=mz (cH (f6 x8.toNat)) (eV (Q Qg.toNat))/\mz (cH (f6 x8.toNat)) (eV (Q Qg.toNat))<=(200:Int))/\((0:Int)<=ma (cH (f6 x8.toNat)) (cH (Q Qg.toNat))/\ma (cH (f6 x8.toNat)) (cH (Q Qg.toNat))<=(200:Int))/\((-536870912:Int)<=mr (cH (f6 x8.toNat)) (aE (Q Qg.toNat))/\mr (cH (f6 x8.toNat)) (aE (Q Qg.toNat))<=(536870912:Int))/\((-536870912:Int)<=lZ (cH (f6 x8.toNat)) (bM (Q Qg.toNat))/\lZ (cH (f6 x8.toNat)) (bM (Q Qg.toNat))<=(536870912:Int))/\((0:Int)<=lU (cH (f6 x8.toNat)) (d9 (Q Qg.toNat))/\lU (cH (f6 x8.toNat)) (d9 (Q Qg.toNat))<=(1073741824:Int))/\((-100000:Int)<=x9/\x9<=(100000:Int))/\((-100000:Int)<=Ql/\Ql<=(100000:Int))/\((-100000:Int)<=Qn/\Qn<=(100000:Int))/\(-100000:Int)<=Qp/\Qp<=(100000:Int)) (.obt (.br (OR (bM (f6 x8.toNat)) (d9 (f6 x8.toNat)) (cH (f6 x8.toNat)) (mz (cH (f6 x8.toNat)) (eV (Q Qg.toNat))) (ma (cH (f6 x8.toNat)) (cH (Q Qg.toNat))) (mr (cH (f6 x8.toNat)) (aE (Q Qg.toNat))) (lZ (cH (f6 x8.toNat)) (bM (Q Qg.toNat))) (lU (cH (f6 x8.toNat)) (d9 (Q Qg.toNat))) (jT (cH (f6 x8.toNat)) (cH (Q Qg.toNat))) x9 Ql Qn Qp) (.next IC (Tt.L0 (I (Qg+1)) (max RU 1)) []) (.next IC (Tt.L0 (I (Qg+1)) RU) [])))))))))) (.ret (V.tup [D RU,D 0]))
def P5:RT Tt:=.am n6 (.obp (((aI H G)/\aI n6 f6)/\(0:Nat)=(0:Nat)/\(2:Nat)<=(100:Nat)) (.obt (.br (Lz H (A aN G) T (A aX Q) n4 (A aY f4) n6 (A aG f6) 2 (A L (cq [D x8,D (n6:Int)] 0 1))!=0) (.ret (V.tup [D 0,D (Lz H (A aN G) T (A aX Q) n4 (A aY f4) n6 (A aG f6) 2 (A L (cq [D x8,D (n6:Int)] 0 1)))])) (.cb (.br (ve x9 Ql Qn Qp) (.ret (V.tup [D 0,D 7])) (.am T (.enter [some (some 1),some (some 0)] (Tt.L0 0 0) [])))))))
theorem ak3:ig Qj u0 (D17 H G T Q n4 f4 n6 f6 x8 x9 Ql Qn Qp) (aoh H G T Q n4 f4 n6 f6 x8 x9 Ql Qn Qp) (P5 H G T Q n4 f4 n6 f6 x8 x9 Ql Qn Qp) (Ud H G T Q n4 f4 n6 f6 x8 x9 Ql Qn Qp):=⟨cG,λs=>by cases s<;>exact cG⟩
def Bp (ii:Nat):Bool:=dm (H,G,T,n4,f4,n6) (!C6 4 (A aK (cq [D x9,D Ql,D Qn,D Ql,D Qn,D Qp,D x9,D Qp] 0 2)) (bM (f6 x8.toNat)) (d9 (f6 x8.toNat)) (cH (f6 x8.toNat)) (mz (cH (f6 x8.toNat)) (eV (Q ii))) (ma (cH (f6 x8.toNat)) (cH (Q ii))) (mr (cH (f6 x8.toNat)) (aE (Q ii))) (lZ (cH (f6 x8.toNat)) (bM (Q ii))) (lU (cH (f6 x8.toNat)) (d9 (Q ii))) (jT (cH (f6 x8.toNat)) (cH (Q ii))))
def CR (ii:Nat):Bool:=dm (H,G,T,n4,f4,n6) (OR (bM (f6 x8.toNat)) (d9 (f6 x8.toNat)) (cH (f6 x8.toNat)) (mz (cH (f6 x8.toNat)) (eV (Q ii))) (ma (cH (f6 x8.toNat)) (cH (Q ii))) (mr (cH (f6 x8.toNat)) (aE (Q ii))) (lZ (cH (f6 x8.toNat)) (bM (Q ii))) (lU (cH (f6 x8.toNat)) (d9 (Q ii))) (jT (cH (f6 x8.toNat)) (cH (Q ii))) x9 Ql Qn Qp)
def fp:Int:=bif Lz H (A aN G) T (A aX Q) n4 (A aY f4) n6 (A aG f6) 2 (A L (cq [D x8,D (n6:Int)] 0 1))!=0 then 0 else bif ve x9 Ql Qn Qp then 0 else ij (Bp H G T Q n4 f4 n6 f6 x8 x9 Ql Qn Qp) (CR H G T Q n4 f4 n6 f6 x8 x9 Ql Qn Qp) T
def xk:Int:=bif Lz H (A aN G) T (A aX Q) n4 (A aY f4) n6 (A aG f6) 2 (A L (cq [D x8,D (n6:Int)] 0 1))!=0 then Lz H (A aN G) T (A aX Q) n4 (A aY f4) n6 (A aG f6) 2 (A L (cq [D x8,D (n6:Int)] 0 1)) else bif ve x9 Ql Qn Qp then 7 else 0
theorem c17 (H:Nat) (G:bk) (T:Nat) (Q:bk) (n4:Nat) (f4:bk) (n6:Nat) (f6:bk) (x8 x9 Ql Qn Qp:Int) (hx:0<=x8/\x8<(n6:Int)) (hn:T<=9223372036854775807) (Sz:∀ i,i<T->TC (bM (f6 x8.toNat)) (d9 (f6 x8.toNat)) (cH (f6 x8.toNat)) (aE (Q i)) (bM (Q i)) (d9 (Q i)) (cH (Q i)) (eV (Q i))) (hp:(-100000<=x9/\x9<=100000)/\(-100000<=Ql/\Ql<=100000)/\(-100000<=Qn/\Qn<=100000)/\(-100000<=Qp/\Qp<=100000)) :
 ∀i,i<=T->Ev (Ud H G T Q n4 f4 n6 f6 x8 x9 Ql Qn Qp) (.L0 (i:Int) (ij (Bp H G T Q n4 f4 n6 f6 x8 x9 Ql Qn Qp) (CR H G T Q n4 f4 n6 f6 x8 x9 Ql Qn Qp) i)) (.tup [D (ij (Bp H G T Q n4 f4 n6 f6 x8 x9 Ql Qn Qp) (CR H G T Q n4 f4 n6 f6 x8 x9 Ql Qn Qp) T),D 0]):=by
 refine gE λi hi ih=>?_;by_cases Qw:i<T
 ·have ih:=ih Qw
  have hw:=uY Qw hn;refine Ev.of rfl (c9 (BH E) (aL (BH E) (aL (BH hx) (aC (ak (aC (ak (aC (ak (E2 (λh=>bb ?_) (λh=>aP ?_ (ak (E2 (λN=>bb ?_) (λN=>bb ?_))))))))))))))
  ·rw[hw]
   have e:ij (Bp H G T Q n4 f4 n6 f6 x8 x9 Ql Qn Qp) (CR H G T Q n4 f4 n6 f6 x8 x9 Ql Qn Qp) (i+1)=2:=by simp only[ij];rw[show Bp H G T Q n4 f4 n6 f6 x8 x9 Ql Qn Qp i=true from h];rfl
   rw[e]at ih;exact ih
  ·exact λhb=>(Sz i Qw).in57 hb hp.1 hp.2.1 hp.2.2.1 hp.2.2.2
  ·rw[hw]
   have e:ij (Bp H G T Q n4 f4 n6 f6 x8 x9 Ql Qn Qp) (CR H G T Q n4 f4 n6 f6 x8 x9 Ql Qn Qp) (i+1)=max (ij (Bp H G T Q n4 f4 n6 f6 x8 x9 Ql Qn Qp) (CR H G T Q n4 f4 n6 f6 x8 x9 Ql Qn Qp) i) 1:=by simp only[ij];rw[show Bp H G T Q n4 f4 n6 f6 x8 x9 Ql Qn Qp i=false from h,show CR H G T Q n4 f4 n6 f6 x8 x9 Ql Qn Qp i=true from N];rfl
   rw[e]at ih;exact ih
  ·rw[hw]
   have e:ij (Bp H G T Q n4 f4 n6 f6 x8 x9 Ql Qn Qp) (CR H G T Q n4 f4 n6 f6 x8 x9 Ql Qn Qp) (i+1)=ij (Bp H G T Q n4 f4 n6 f6 x8 x9 Ql Qn Qp) (CR H G T Q n4 f4 n6 f6 x8 x9 Ql Qn Qp) i:=by simp only[ij];rw[show Bp H G T Q n4 f4 n6 f6 x8 x9 Ql Qn Qp i=false from h,show CR H G T Q n4 f4 n6 f6 x8 x9 Ql Qn Qp i=false from N];rfl
   rw[e]at ih;exact ih
 ·have e:i=T:=by omega
  subst e;exact Ev.of rfl (d5 (eZ E) (aA rfl))
theorem ad2 (hp:aI H G/\aI n6 f6):a6 (Ev (Ud H G T Q n4 f4 n6 f6 x8 x9 Ql Qn Qp)) (P5 H G T Q n4 f4 n6 f6 x8 x9 Ql Qn Qp) (.tup [D (fp H G T Q n4 f4 n6 f6 x8 x9 Ql Qn Qp),D (xk H G T Q n4 f4 n6 f6 x8 x9 Ql Qn Qp)]):=cg λh6=>aP ⟨hp,rfl,Ej⟩ (ak (E2 (λh=>aA (by unfold fp xk;rw[h];rfl)) (λh=>aC (ak (E2 (λN=>aA (by unfold fp xk;rw[h,N];rfl)) (λN=>cg λhn=>aS (by
 have e0:fp H G T Q n4 f4 n6 f6 x8 x9 Ql Qn Qp=ij (Bp H G T Q n4 f4 n6 f6 x8 x9 Ql Qn Qp) (CR H G T Q n4 f4 n6 f6 x8 x9 Ql Qn Qp) T:=by unfold fp;rw[h,N];rfl
 have e1:xk H G T Q n4 f4 n6 f6 x8 x9 Ql Qn Qp=0:=by unfold xk;rw[h,N];rfl
 rw[e0,e1];have hc:=ale (H:=H) (G:=G) (T:=T) (Q:=Q) (n4:=n4) (f4:=f4) (n6:=n6) (f6:=f6) (i:=x8) (m:=n6) (λ_=>h6);have hz:H1 (m5 H (A aN G) T (A aX Q) n4 (A aY f4) n6 (A aG f6)) x8 n6=0:=by rw[← hc];simpa using h
 obtain⟨hx,Sz⟩:=aat hz;rw[xG]at N;have hq:=w9 (ER N);exact c17 _ _ _ _ _ _ _ _ _ _ _ _ _ hx hn Sz ⟨hq.1,hq.2.1,hq.2.2.1,hq.2.2.2.1⟩ 0 (GG _))))))))
theorem aqk (hp:aI H (A aN G)/\aI n6 (A aG f6)):a6 (Ev (Ud H G T Q n4 f4 n6 f6 x8 x9 Ql Qn Qp)) (P5 H G T Q n4 f4 n6 f6 x8 x9 Ql Qn Qp) (.tup [D (fp H (A aN G) T (A aX Q) n4 (A aY f4) n6 (A aG f6) x8 x9 Ql Qn Qp),D (xk H (A aN G) T (A aX Q) n4 (A aY f4) n6 (A aG f6) x8 x9 Ql Qn Qp)]):=ad2 H G T Q n4 f4 n6 f6 x8 x9 Ql Qn Qp hp
def Ps:aD:=cK [.agg [.sl aN,.sl aX,.sl aY,.sl aG],tI,.agg kp] (λ
 |[.agg [.sl H G,.sl T Q,.sl n4 f4,.sl n6 f6],.int _ x8,.agg [.int _ x9,.int _ Ql,.int _ Qn,.int _ Qp]]=>aI H G/\aI n6 f6|_=>False) λ
 |[.agg [.sl H G,.sl T Q,.sl n4 f4,.sl n6 f6],.int _ x8,.agg [.int _ x9,.int _ Ql,.int _ Qn,.int _ Qp]]=>.tup [D (fp H G T Q n4 f4 n6 f6 x8 x9 Ql Qn Qp),D (xk H G T Q n4 f4 n6 f6 x8 x9 Ql Qn Qp)]|_=>.any
theorem aqv:c7 Ps 93:=bo aet λ_ hp=>qV (ak3 ..) (aqk _ _ _ _ _ _ _ _ _ _ _ _ _ hp)
end
end Go.Dx
namespace Go.Dx
open Go.Sx
noncomputable section
section
variable {H:Nat} {G:bk} {T:Nat} {Q:bk} {n4:Nat} {f4:bk} {n6:Nat} {f6:bk}
theorem apn {p:Nat->Bool}:(!jl 4 λi=>!p i)=(p 0&&(p 1&&(p 2&&p 3))):=by
 have e:jl 4 (λi=>!p i)=(!p 0||(!p 1||(!p 2||!p 3))):=by rw[nt,nt,nt,nt];rw[show jl 0 (λi=>!p i)=false from rfl];cases p 0<;>cases p 1<;>cases p 2<;>cases p 3<;>rfl
 rw[e];cases p 0<;>cases p 1<;>cases p 2<;>cases p 3<;>rfl
end
end
end Go.Dx
namespace Go.Dx
open Go.IntKind (i64 u64 u8)
open Go.Sx Go.Proofs
variable (H:Nat) (G:bk) (R S:Int) (T:Nat) (Q:bk) (Z x3 O:Int) (n5:Nat) (f5:bk) (n7:Nat) (f7:bk) (n9:Nat) (f9:bk) (q:Nat) (Y:bk) (Qm:Nat) (Qd:bk) (Qu:Nat) (Qf:bk) (QY Qv:Int) (Rf:ByteArray) (Qi Qk Qr Qt RA R5 RB RE RF Rl SA:Int)
noncomputable section
def Qh:bm:=(93,.con Ps)::(58,.con hch)::Tm
theorem fn2:aV Tryz.prog BN D7 Qh:=.con aqv (.con agr (f13))
def mo (Ro lo:Int):Int:=bif Ro==2 then 0 else bif Ro==1 then 0 else lo
def lX (Ro hi:Int):Int:=bif Ro==2 then 0 else hi
def h13:RT Empty:=dm (H,G,T,Q,O,Qm,Qd,Qu,Qf,Rf,Qi,Qk,Qr,Qt,RA) (.obp (aI n5 (A aN f5)/\aI q (A aG Y)) (.obt (.br (fp n5 (A aN f5) n7 (A aX f7) n9 (A aY f9) q (A aG Y) QY R5 RB RE RF==2) (.ret (V.agg G7)) (.br (fp n5 (A aN f5) n7 (A aX f7) n9 (A aY f9) q (A aG Y) QY R5 RB RE RF==1) (.ret (V.agg [D 0,D SA])) (.ret (V.agg [D Rl,D SA]))))))
theorem twH:dZ d7 (ba JJ Qh u0 Bv [V.agg [V.sl H (A ao G),V.sl T (A al Q),D O,V.sl n5 (A aN f5),V.sl n7 (A aX f7),V.sl n9 (A aY f9),V.sl q (A aG Y),V.sl Qm (A L Qd),V.sl Qu (A CE Qf),D QY,V.str Rf,D Qi,D Qk,D Qr,D Qt,D RA],V.agg [D R5,D RB,D RE,D RF],D Rl,D SA]) (h13 H G T Q O n5 f5 n7 f7 n9 f9 q Y Qm Qd Qu Qf QY Rf Qi Qk Qr Qt RA R5 RB RE RF Rl SA):=cG
theorem aia (hp:aI n5 (A aN f5)/\aI q (A aG Y)):a6 dK (h13 H G T Q O n5 f5 n7 f7 n9 f9 q Y Qm Qd Qu Qf QY Rf Qi Qk Qr Qt RA R5 RB RE RF Rl SA) (.agg [D (mo (fp n5 (A aN f5) n7 (A aX f7) n9 (A aY f9) q (A aG Y) QY R5 RB RE RF) Rl),D (lX (fp n5 (A aN f5) n7 (A aX f7) n9 (A aY f9) q (A aG Y) QY R5 RB RE RF) SA)]):=by refine aP hp (ak ?_);exact(E2 (λh=>aA (by unfold mo lX;rw[h];rfl)) (λh=>E2 (λN=>aA (by unfold mo lX;rw[h,N];rfl)) (λN=>aA (by unfold mo lX;rw[h,N];rfl))))
def abC:aD:=cK [.agg [.sl ao,.sl al,tI,.sl aN,.sl aX,.sl aY,.sl aG,.sl L,.sl CE,tI,.str,tI,tI,tI,tI,tI],.agg kp,tI,tI] (λ
 |[.agg [.sl H G,.sl T Q,.int _ O,.sl n5 f5,.sl n7 f7,.sl n9 f9,.sl q Y,.sl Qm Qd,.sl Qu Qf,.int _ QY,.str Rf,.int _ Qi,.int _ Qk,.int _ Qr,.int _ Qt,.int _ RA],.agg [.int _ R5,.int _ RB,.int _ RE,.int _ RF],.int _ Rl,.int _ SA]=>aI n5 f5/\aI q Y|_=>False) λ
 |[.agg [.sl H G,.sl T Q,.int _ O,.sl n5 f5,.sl n7 f7,.sl n9 f9,.sl q Y,.sl Qm Qd,.sl Qu Qf,.int _ QY,.str Rf,.int _ Qi,.int _ Qk,.int _ Qr,.int _ Qt,.int _ RA],.agg [.int _ R5,.int _ RB,.int _ RE,.int _ RF],.int _ Rl,.int _ SA]=>.agg [D (mo (fp n5 f5 n7 f7 n9 f9 q Y QY R5 RB RE RF) Rl),D (lX (fp n5 f5 n7 f7 n9 f9 q Y QY R5 RB RE RF) SA)]|_=>.any
theorem ac3:c7 abC 63:=bo fn2 λ_ hp=>er (twH ..) (aia _ _ _ _ _ _ _ _ _ _ _ _ _ _ _ _ _ _ _ _ _ _ _ _ _ _ _ _ _ _ hp)
def iN (cx cy h a b c d:Int):Int:=I (I (iA (I (a-cx)) (I (c-cx))+iA (I (b-cy)) (I (d-cy)))+I (I (100*h)*I (100*h)))
def iS (cx cy h a b c d:Int):Int:=I (I (iq (I (a-cx)) (I (c-cx))+iq (I (b-cy)) (I (d-cy)))+I (I (100*h)*I (100*h)))
def Ly (Ro tw At h:Int):Int:=mo Ro (cL (I (1000*cL (I (I (1000*tw)*I (100*h))) At)) (gk At))
def Ky (Ro tw At h:Int):Int:=lX Ro (cN (I (1000*cN (I (I (1000*tw)*I (100*h))) At)) (fG At))
def pg (Y Qd Qf:bk) (i cx cy h cdx cdy a b c d:Int):Int:=Ly (fp n5 f5 n7 f7 n9 f9 q Y i a b c d) (pw H G T Q Qd Qf i cx cy cdx cdy a b c d (I (100*h))) (iS cx cy h a b c d) h
def o8 (Y Qd Qf:bk) (i cx cy h cdx cdy a b c d:Int):Int:=Ky (fp n5 f5 n7 f7 n9 f9 q Y i a b c d) (pE H G T Q Qd Qf i cx cy cdx cdy a b c d (I (100*h))) (iN cx cy h a b c d) h
def rv (cx cy h a b c d:Int):Prop:=((-100000<=cx/\cx<=100000)/\(-100000<=cy/\cy<=100000)/\(1<=h/\h<=200))/\iO a/\iO b/\iO c/\iO d
theorem rv.pl {cx cy h a b c d:Int} (o:rv cx cy h a b c d):iO cx/\iO cy/\iO a/\iO b/\iO c/\iO d:=by obtain⟨⟨M,N,h3⟩,h4⟩:=o;exact⟨by unfold iO;omega,by unfold iO;omega,h4⟩
theorem sqP {x:Int} (h:x.natAbs<=400100000):I (x*x)=x*x/\0<=x*x/\x*x<=160080010000000000:=by have k:=OQ h h;have z:=fz15 x;exact⟨D5 E E,z,E⟩
theorem amJ {x y:Int} (h:x.natAbs<=400100000) (k:y.natAbs<=400100000):(0<=iA x y/\iA x y<=160080010000000000)/\0<=iq x y/\iq x y<=160080010000000000:=by
 have a:=sqP h;have b:=sqP k;unfold iA iq;rw[a.1,b.1];refine⟨?_,E⟩;cases (bif decide (x<=0) then decide (0<=y) else false) with
 |true=>exact⟨Ep _,(by decide:(0:Int)<=160080010000000000)⟩|false=>show 0<=min _ _/\min _ _<=_;omega
theorem Xy {a c:Int} (h:iO a) (k:-100000<=c/\c<=100000):(I (a-c)).natAbs<=400100000:=by unfold iO at h;rw[D5 E E];omega
theorem aqH {cx cy h a b c d:Int} (o:rv cx cy h a b c d):(1<=iN cx cy h a b c d/\iN cx cy h a b c d<=3999999999999999999)/\1<=iS cx cy h a b c d/\iS cx cy h a b c d<=3999999999999999999:=by obtain⟨⟨hx,hy,hh⟩,pa,pb,pl57,pd⟩:=o;have s1:=amJ (Xy pa hx) (Xy pl57 hx);have s2:=amJ (Xy pb hy) (Xy pd hy);have e:I (100*h)=100*h:=D5 E E;have m:(100*h*(100*h)).natAbs<=20000*20000:=OQ E E;have m2:1<=100*h*(100*h):=H5 E E;unfold iN iS;rw[e,D5 (x:=100*h*(100*h)) E E];revert s1 s2 m m2;generalize iA (I (a-cx)) (I (c-cx))=p0;generalize iA (I (b-cy)) (I (d-cy))=p1;generalize iq (I (a-cx)) (I (c-cx))=q0;generalize iq (I (b-cy)) (I (d-cy))=q1;generalize 100*h*(100*h)=Qa;intro s1 s2 m m2;rw[D5 (x:=p0+p1) E E,D5 (x:=q0+q1) E E,D5 E E,D5 E E];omega
def DN (O cx cy h a b c d dx dy:Int):Int:=Bo H G T Q O (dJ (I (cx-c)) (I (cx-a)) (I (cy-d)) (I (cy-b)) dx dy) (fk (I (cx-c)) (I (cx-a)) (I (cy-d)) (I (cy-b)) dx dy) (dL (I (cx-c)) (I (cx-a)) (I (cy-d)) (I (cy-b)) dx dy) (fe (I (cx-c)) (I (cx-a)) (I (cy-d)) (I (cy-b)) dx dy) (I (100*h))
def EE (O cx cy h a b c d dx dy:Int):Int:=AO H G T Q O (dJ (I (cx-c)) (I (cx-a)) (I (cy-d)) (I (cy-b)) dx dy) (fk (I (cx-c)) (I (cx-a)) (I (cy-d)) (I (cy-b)) dx dy) (dL (I (cx-c)) (I (cx-a)) (I (cy-d)) (I (cy-b)) dx dy) (fe (I (cx-c)) (I (cx-a)) (I (cy-d)) (I (cy-b)) dx dy) (I (100*h))
def Kw (Ro tw r h:Int):Int:=mo Ro (I (100*cL (I (I (1000*tw)*r)) (I (I (100*h)*I (100*h)))))
def K8 (Ro tw r h:Int):Int:=lX Ro (I (100*cN (I (I (1000*tw)*r)) (I (I (100*h)*I (100*h)))))
def oX (Y Qd Qf:bk) (i cx cy h cdx cdy a b c d dx dy:Int):Int:=Kw (fp n5 f5 n7 f7 n9 f9 q Y i a b c d) (pw H G T Q Qd Qf i cx cy cdx cdy a b c d (I (100*h))) (DN H G T Q O cx cy h a b c d dx dy) h
def o7 (Y Qd Qf:bk) (i cx cy h cdx cdy a b c d dx dy:Int):Int:=K8 (fp n5 f5 n7 f7 n9 f9 q Y i a b c d) (pE H G T Q Qd Qf i cx cy cdx cdy a b c d (I (100*h))) (EE H G T Q O cx cy h a b c d dx dy) h
theorem arQ {h:Int} (k:1<=h/\h<=200):I (I (100*h)*I (100*h))=0->False:=by have m:(100*h*(100*h)).natAbs<=20000*20000:=OQ E E;have m2:1<=100*h*(100*h):=H5 E E;rw[D5 (x:=100*h) E E,D5 E E];omega
def QP:bm:=(65,.con hb1)::(63,.con abC)::Qh
theorem arG:aV Tryz.prog BN D7 QP:=.con aey (.con ac3 (fn2))
def NR:RT Empty:=dm Rf (.cb (.cb (.obp (((0:Int)<=QY/\QY<(Qm:Int))/\((0:Int)<=QY/\QY<(Qu:Int))/\(aI H (A ao G)/\aI T (A al Q))/\Hd Qt RA/\iO Qi/\iO Qk/\iO R5/\iO RB/\iO RE/\iO RF) (.obt (.obp (Hd Rl SA/\((-1000000000:Int)<=I (Qi-RE)/\I (Qi-RE)<=(1000000000:Int))/\((-1000000000:Int)<=I (Qi-R5)/\I (Qi-R5)<=(1000000000:Int))/\((-1000000000:Int)<=I (Qk-RF)/\I (Qk-RF)<=(1000000000:Int))/\(-1000000000:Int)<=I (Qk-RB)/\I (Qk-RB)<=(1000000000:Int)) (.obt (.obp (aI H (A ao G)/\aI T (A al Q)) (.obt (.obp (nz (I (fA Qr*fA Qr))) (.obt (.obp (nz (I (fA Qr*fA Qr))) (.obt (.obp (aI n5 (A aN f5)/\aI q (A aG Y)) (.obt (.ret (V.agg [D (mo (fp n5 (A aN f5) n7 (A aX f7) n9 (A aY f9) q (A aG Y) QY R5 RB RE RF) (I (100*dq (I (I (1000*pw H (A ao G) T (A al Q) (A L Qd) (A CE Qf) QY Qi Qk Qt RA R5 RB RE RF (fA Qr))*DN H (A ao G) T (A al Q) O Qi Qk Qr R5 RB RE RF Rl SA)) (I (fA Qr*fA Qr))))),D (lX (fp n5 (A aN f5) n7 (A aX f7) n9 (A aY f9) q (A aG Y) QY R5 RB RE RF) (I (100*dU (I (I (1000*pE H (A ao G) T (A al Q) (A L Qd) (A CE Qf) QY Qi Qk Qt RA R5 RB RE RF (fA Qr))*EE H (A ao G) T (A al Q) O Qi Qk Qr R5 RB RE RF Rl SA)) (I (fA Qr*fA Qr)))))]))))))))))))))))
theorem jct:dZ d7 (ba JJ QP u0 asP [V.agg [V.sl H (A ao G),V.sl T (A al Q),D O,V.sl n5 (A aN f5),V.sl n7 (A aX f7),V.sl n9 (A aY f9),V.sl q (A aG Y),V.sl Qm (A L Qd),V.sl Qu (A CE Qf),D QY,V.str Rf,D Qi,D Qk,D Qr,D Qt,D RA],V.agg [D R5,D RB,D RE,D RF],V.agg [D Rl,D SA]]) (NR H G T Q O n5 f5 n7 f7 n9 f9 q Y Qm Qd Qu Qf QY Rf Qi Qk Qr Qt RA R5 RB RE RF Rl SA):=cG
theorem agv (H:Nat) (G:bk) (T:Nat) (Q:bk) (O:Int) (n5:Nat) (f5:bk) (n7:Nat) (f7:bk) (n9:Nat) (f9:bk) (q:Nat) (Y:bk) (Qm:Nat) (Qd:bk) (Qu:Nat) (Qf:bk) (QY:Int) (Rf:ByteArray) (Qi Qk Qr Qt RA R5 RB RE RF Rl SA:Int) (hp:(0<=QY/\QY<(Qm:Int))/\(0<=QY/\QY<(Qu:Int))/\(aI H (A ao G)/\aI T (A al Q))/\(aI n5 (A aN f5)/\aI q (A aG Y))/\Hd Qt RA/\rv Qi Qk Qr R5 RB RE RF/\Hd Rl SA):a6 dK (NR H G T Q O n5 f5 n7 f7 n9 f9 q Y Qm Qd Qu Qf QY Rf Qi Qk Qr Qt RA R5 RB RE RF Rl SA) (.agg [D (oX H (A ao G) T (A al Q) O n5 (A aN f5) n7 (A aX f7) n9 (A aY f9) q (A aG Y) (A L Qd) (A CE Qf) QY Qi Qk Qr Qt RA R5 RB RE RF Rl SA),D (o7 H (A ao G) T (A al Q) O n5 (A aN f5) n7 (A aX f7) n9 (A aY f9) q (A aG Y) (A L Qd) (A CE Qf) QY Qi Qk Qr Qt RA R5 RB RE RF Rl SA)]):=by obtain⟨h0,M,hz,hr,hd,o,U⟩:=hp;have p:=o.pl;have hn:=arQ o.1.2.2;unfold NR;rw[aa1,aa3];exact aC (ak (aC (ak (aP ⟨h0,M,hz,hd,o.pl⟩ (ak (aP ⟨U,Eh p.1 p.2.2.2.2.1,Eh p.1 p.2.2.1,Eh p.2.1 p.2.2.2.2.2,Eh p.2.1 p.2.2.2.1⟩ (ak (aP hz (ak (aP hn (ak (aP hn (ak (aP hr (ak (aA rfl))))))))))))))))
def aaB:aD:=cK [.agg [.sl ao,.sl al,tI,.sl aN,.sl aX,.sl aY,.sl aG,.sl L,.sl CE,tI,.str,tI,tI,tI,tI,tI],.agg kp,.agg aK] (λ
 |[.agg [.sl H G,.sl T Q,.int _ O,.sl n5 f5,.sl n7 f7,.sl n9 f9,.sl q Y,.sl Qm Qd,.sl Qu Qf,.int _ QY,.str Rf,.int _ Qi,.int _ Qk,.int _ Qr,.int _ Qt,.int _ RA],.agg [.int _ R5,.int _ RB,.int _ RE,.int _ RF],.agg [.int _ Rl,.int _ SA]]=>(0<=QY/\QY<(Qm:Int))/\(0<=QY/\QY<(Qu:Int))/\(aI H G/\aI T Q)/\(aI n5 f5/\aI q Y)/\Hd Qt RA/\rv Qi Qk Qr R5 RB RE RF/\Hd Rl SA|_=>False) λ
 |[.agg [.sl H G,.sl T Q,.int _ O,.sl n5 f5,.sl n7 f7,.sl n9 f9,.sl q Y,.sl Qm Qd,.sl Qu Qf,.int _ QY,.str Rf,.int _ Qi,.int _ Qk,.int _ Qr,.int _ Qt,.int _ RA],.agg [.int _ R5,.int _ RB,.int _ RE,.int _ RF],.agg [.int _ Rl,.int _ SA]]=>.agg [D (oX H G T Q O n5 f5 n7 f7 n9 f9 q Y Qd Qf QY Qi Qk Qr Qt RA R5 RB RE RF Rl SA),D (o7 H G T Q O n5 f5 n7 f7 n9 f9 q Y Qd Qf QY Qi Qk Qr Qt RA R5 RB RE RF Rl SA)]|_=>.any
theorem afE:c7 aaB 30:=bo arG λ_ hp=>er (jct ..) (agv _ _ _ _ _ _ _ _ _ _ _ _ _ _ _ _ _ _ _ _ _ _ _ _ _ _ _ _ _ _ hp)
def PZ:bm:=QP
theorem amP:aV Tryz.prog BN D7 PZ:=arG
def LR:RT Empty:=dm (O,Rf) (.cb (.cb (.obp (((0:Int)<=QY/\QY<(Qm:Int))/\((0:Int)<=QY/\QY<(Qu:Int))/\(aI H (A ao G)/\aI T (A al Q))/\Hd Qt RA/\iO Qi/\iO Qk/\iO R5/\iO RB/\iO RE/\iO RF) (.obt (.cb (.obp (nz (iS Qi Qk Qr R5 RB RE RF)) (.obt (.cb (.obp (nz (iN Qi Qk Qr R5 RB RE RF)) (.obt (.cb (.obp (nz (Gt (iS Qi Qk Qr R5 RB RE RF))) (.obt (.obp (nz (dX (iN Qi Qk Qr R5 RB RE RF))) (.obt (.obp (aI n5 (A aN f5)/\aI q (A aG Y)) (.obt (.ret (V.agg [D (mo (fp n5 (A aN f5) n7 (A aX f7) n9 (A aY f9) q (A aG Y) QY R5 RB RE RF) (dq (I (1000*dq (I (I (1000*pw H (A ao G) T (A al Q) (A L Qd) (A CE Qf) QY Qi Qk Qt RA R5 RB RE RF (fA Qr))*fA Qr)) (iS Qi Qk Qr R5 RB RE RF))) (Gt (iS Qi Qk Qr R5 RB RE RF)))),D (lX (fp n5 (A aN f5) n7 (A aX f7) n9 (A aY f9) q (A aG Y) QY R5 RB RE RF) (dU (I (1000*dU (I (I (1000*pE H (A ao G) T (A al Q) (A L Qd) (A CE Qf) QY Qi Qk Qt RA R5 RB RE RF (fA Qr))*fA Qr)) (iN Qi Qk Qr R5 RB RE RF))) (dX (iN Qi Qk Qr R5 RB RE RF))))])))))))))))))))))))
theorem if4:dZ d7 (ba JJ PZ u0 fp4 [V.agg [V.sl H (A ao G),V.sl T (A al Q),D O,V.sl n5 (A aN f5),V.sl n7 (A aX f7),V.sl n9 (A aY f9),V.sl q (A aG Y),V.sl Qm (A L Qd),V.sl Qu (A CE Qf),D QY,V.str Rf,D Qi,D Qk,D Qr,D Qt,D RA],V.agg [D R5,D RB,D RE,D RF]]) (LR H G T Q O n5 f5 n7 f7 n9 f9 q Y Qm Qd Qu Qf QY Rf Qi Qk Qr Qt RA R5 RB RE RF):=cG
theorem adB (H:Nat) (G:bk) (T:Nat) (Q:bk) (O:Int) (n5:Nat) (f5:bk) (n7:Nat) (f7:bk) (n9:Nat) (f9:bk) (q:Nat) (Y:bk) (Qm:Nat) (Qd:bk) (Qu:Nat) (Qf:bk) (QY:Int) (Rf:ByteArray) (Qi Qk Qr Qt RA R5 RB RE RF:Int) (hp:(0<=QY/\QY<(Qm:Int))/\(0<=QY/\QY<(Qu:Int))/\(aI H (A ao G)/\aI T (A al Q))/\(aI n5 (A aN f5)/\aI q (A aG Y))/\Hd Qt RA/\rv Qi Qk Qr R5 RB RE RF):a6 dK (LR H G T Q O n5 f5 n7 f7 n9 f9 q Y Qm Qd Qu Qf QY Rf Qi Qk Qr Qt RA R5 RB RE RF) (.agg [D (pg H (A ao G) T (A al Q) n5 (A aN f5) n7 (A aX f7) n9 (A aY f9) q (A aG Y) (A L Qd) (A CE Qf) QY Qi Qk Qr Qt RA R5 RB RE RF),D (o8 H (A ao G) T (A al Q) n5 (A aN f5) n7 (A aX f7) n9 (A aY f9) q (A aG Y) (A L Qd) (A CE Qf) QY Qi Qk Qr Qt RA R5 RB RE RF)]):=by
 obtain⟨h0,M,hz,hr,hd,o⟩:=hp;have At:=aqH o;unfold LR;rw[CQ At.2.2,qc At.1.2,aa1,aa3];have q0:iN Qi Qk Qr R5 RB RE RF=0->False:=λe=>by have:=At.1.1;omega
 have q1:iS Qi Qk Qr R5 RB RE RF=0->False:=λe=>by have:=At.2.1;omega
 have d0:fG (iN Qi Qk Qr R5 RB RE RF)=0->False:=λe=>by have:=(sA At.1.1).1;omega
 have u1:gk (iS Qi Qk Qr R5 RB RE RF)=0->False:=λe=>by have:=aru At.2.1;omega
 exact aC (ak (aC (ak (aP ⟨h0,M,hz,hd,o.pl⟩ (ak (aC (ak (aP q1 (ak (aC (ak (aP q0 (ak (aC (ak (aP u1 (ak (aP d0 (ak (aP hr (ak (aA rfl))))))))))))))))))))))
def acp:aD:=cK [.agg [.sl ao,.sl al,tI,.sl aN,.sl aX,.sl aY,.sl aG,.sl L,.sl CE,tI,.str,tI,tI,tI,tI,tI],.agg kp] (λ
 |[.agg [.sl H G,.sl T Q,.int _ O,.sl n5 f5,.sl n7 f7,.sl n9 f9,.sl q Y,.sl Qm Qd,.sl Qu Qf,.int _ QY,.str Rf,.int _ Qi,.int _ Qk,.int _ Qr,.int _ Qt,.int _ RA],.agg [.int _ R5,.int _ RB,.int _ RE,.int _ RF]]=>(0<=QY/\QY<(Qm:Int))/\(0<=QY/\QY<(Qu:Int))/\(aI H G/\aI T Q)/\(aI n5 f5/\aI q Y)/\Hd Qt RA/\rv Qi Qk Qr R5 RB RE RF|_=>False) λ
 |[.agg [.sl H G,.sl T Q,.int _ O,.sl n5 f5,.sl n7 f7,.sl n9 f9,.sl q Y,.sl Qm Qd,.sl Qu Qf,.int _ QY,.str Rf,.int _ Qi,.int _ Qk,.int _ Qr,.int _ Qt,.int _ RA],.agg [.int _ R5,.int _ RB,.int _ RE,.int _ RF]]=>.agg [D (pg H G T Q n5 f5 n7 f7 n9 f9 q Y Qd Qf QY Qi Qk Qr Qt RA R5 RB RE RF),D (o8 H G T Q n5 f5 n7 f7 n9 f9 q Y Qd Qf QY Qi Qk Qr Qt RA R5 RB RE RF)]|_=>.any
theorem adE:c7 acp 26:=bo amP λ_ hp=>er (if4 ..) (adB _ _ _ _ _ _ _ _ _ _ _ _ _ _ _ _ _ _ _ _ _ _ _ _ _ _ _ _ hp)
def O5:bm:=(26,.con acp)::PZ
theorem arw:aV Tryz.prog BN D7 O5:=.con adE (amP)
def Iy:Prop:=(Qm=q/\Qu=q)/\(aI H G/\aI T Q)/\(aI n5 f5/\aI q Y)/\∀i,i<q->Vn (Y i)
def J3 (a b c d:Int):Prop:=iO a/\iO b/\iO c/\iO d
def dY (Y Qd Qf:bk) (a b c d:Int):Nat->Int:=lQ (LE Qd) λi=>pg H G T Q n5 f5 n7 f7 n9 f9 q Y Qd Qf (i:Int) (bM (Y i)) (d9 (Y i)) (cH (Y i)) (eV (Y i)) (ck (Y i)) a b c d
def eR (Y Qd Qf:bk) (a b c d:Int):Nat->Int:=lQ (LE Qd) λi=>o8 H G T Q n5 f5 n7 f7 n9 f9 q Y Qd Qf (i:Int) (bM (Y i)) (d9 (Y i)) (cH (Y i)) (eV (Y i)) (ck (Y i)) a b c d
def abu:RT Empty:=dm (O,Rf) (.obp (((0:Int)<=QY/\QY<(Qm:Int))/\((0:Int)<=QY/\QY<(Qu:Int))/\(aI H (A ao G)/\aI T (A al Q))/\(aI n5 (A aN f5)/\aI q (A aG Y))/\Hd Qt RA/\rv Qi Qk Qr R5 RB RE RF) (.obt (.ret (V.agg [D (pg H (A ao G) T (A al Q) n5 (A aN f5) n7 (A aX f7) n9 (A aY f9) q (A aG Y) (A L Qd) (A CE Qf) QY Qi Qk Qr Qt RA R5 RB RE RF),D (o8 H (A ao G) T (A al Q) n5 (A aN f5) n7 (A aX f7) n9 (A aY f9) q (A aG Y) (A L Qd) (A CE Qf) QY Qi Qk Qr Qt RA R5 RB RE RF)]))))
theorem sl1:dZ d7 (ba JJ O5 u0 ao9 [V.agg [V.sl H (A ao G),V.sl T (A al Q),D O,V.sl n5 (A aN f5),V.sl n7 (A aX f7),V.sl n9 (A aY f9),V.sl q (A aG Y),V.sl Qm (A L Qd),V.sl Qu (A CE Qf),D QY,V.str Rf,D Qi,D Qk,D Qr,D Qt,D RA],V.pd [D R5,D RB,D RE,D RF]]) (abu H G T Q O n5 f5 n7 f7 n9 f9 q Y Qm Qd Qu Qf QY Rf Qi Qk Qr Qt RA R5 RB RE RF):=cG
theorem ail (H:Nat) (G:bk) (T:Nat) (Q:bk) (O:Int) (n5:Nat) (f5:bk) (n7:Nat) (f7:bk) (n9:Nat) (f9:bk) (q:Nat) (Y:bk) (Qm:Nat) (Qd:bk) (Qu:Nat) (Qf:bk) (QY:Int) (Rf:ByteArray) (Qi Qk Qr Qt RA R5 RB RE RF:Int) (hp:(0<=QY/\QY<(Qm:Int))/\(0<=QY/\QY<(Qu:Int))/\(aI H (A ao G)/\aI T (A al Q))/\(aI n5 (A aN f5)/\aI q (A aG Y))/\Hd Qt RA/\rv Qi Qk Qr R5 RB RE RF):a6 dK (abu H G T Q O n5 f5 n7 f7 n9 f9 q Y Qm Qd Qu Qf QY Rf Qi Qk Qr Qt RA R5 RB RE RF) (.agg [D (pg H (A ao G) T (A al Q) n5 (A aN f5) n7 (A aX f7) n9 (A aY f9) q (A aG Y) (A L Qd) (A CE Qf) QY Qi Qk Qr Qt RA R5 RB RE RF),D (o8 H (A ao G) T (A al Q) n5 (A aN f5) n7 (A aX f7) n9 (A aY f9) q (A aG Y) (A L Qd) (A CE Qf) QY Qi Qk Qr Qt RA R5 RB RE RF)]):=aP hp (ak (aA rfl))
def h10:aD:=cK [.agg [.sl ao,.sl al,tI,.sl aN,.sl aX,.sl aY,.sl aG,.sl L,.sl CE,tI,.str,tI,tI,tI,tI,tI],.pd kp] (λ
 |[.agg [.sl H G,.sl T Q,.int _ O,.sl n5 f5,.sl n7 f7,.sl n9 f9,.sl q Y,.sl Qm Qd,.sl Qu Qf,.int _ QY,.str Rf,.int _ Qi,.int _ Qk,.int _ Qr,.int _ Qt,.int _ RA],.pd [.int _ R5,.int _ RB,.int _ RE,.int _ RF]]=>(0<=QY/\QY<(Qm:Int))/\(0<=QY/\QY<(Qu:Int))/\(aI H G/\aI T Q)/\(aI n5 f5/\aI q Y)/\Hd Qt RA/\rv Qi Qk Qr R5 RB RE RF|_=>False) λ
 |[.agg [.sl H G,.sl T Q,.int _ O,.sl n5 f5,.sl n7 f7,.sl n9 f9,.sl q Y,.sl Qm Qd,.sl Qu Qf,.int _ QY,.str Rf,.int _ Qi,.int _ Qk,.int _ Qr,.int _ Qt,.int _ RA],.pd [.int _ R5,.int _ RB,.int _ RE,.int _ RF]]=>.agg [D (pg H G T Q n5 f5 n7 f7 n9 f9 q Y Qd Qf QY Qi Qk Qr Qt RA R5 RB RE RF),D (o8 H G T Q n5 f5 n7 f7 n9 f9 q Y Qd Qf QY Qi Qk Qr Qt RA R5 RB RE RF)]|_=>.any
theorem aeT:c7 h10 25:=bo arw λ_ hp=>er (sl1 ..) (ail _ _ _ _ _ _ _ _ _ _ _ _ _ _ _ _ _ _ _ _ _ _ _ _ _ _ _ _ hp)
def IS:bm:=(25,.con h10)::O5
theorem aqX:aV Tryz.prog BN D7 IS:=.con aeT (arw)
inductive ny where|L0 (_:Int) (_:Nat) (_ _:Int)
def To:ny->bZ×List A7×Option Ex
 |.L0 Qg Ry Sg Sv=>([(8,D Qg),(7,D (Qm:Int)),(6,V.sl Qm (A L Qd)),(5,V.pl 4 7),(0,V.yl Ry),(1,V.pl 4 0)],[A7.cells [V.sl H (A ao G),V.sl T (A al Q),D O,V.sl n5 (A aN f5),V.sl n7 (A aX f7),V.sl n9 (A aY f9),V.sl q (A aG Y),V.sl Qm (A L Qd),V.sl Qu (A CE Qf)] 35,A7.cells [V.fn 25 [] [V.pd [D QY,D Qv,D Qi,D Qk]]] 90,A7.cells G7 40,A7.cells [D Sg,D Sv] 40,A7.cells [V.sl H (A ao G),V.sl T (A al Q),D O,V.sl n5 (A aN f5),V.sl n7 (A aX f7),V.sl n9 (A aY f9),V.sl q (A aG Y),V.sl Qm (A L Qd),V.sl Qu (A CE Qf)] 35],none)
def m44:ny->JJ
 |.L0 _ Ry ..=>(0,[Cx.n Ry])
def aeS:BO (cX JJ):=ba JJ IS u0 Fe [V.agg [V.sl H (A ao G),V.sl T (A al Q),D O,V.sl n5 (A aN f5),V.sl n7 (A aX f7),V.sl n9 (A aY f9),V.sl q (A aG Y),V.sl Qm (A L Qd),V.sl Qu (A CE Qf)],V.fn 25 [] [V.pd [D QY,D Qv,D Qi,D Qk]]]
def hlt (cx:List Cx):Lp JJ:=iZ (ik (Je (ik (aeS H G T Q O n5 f5 n7 f7 n9 f9 q Y Qm Qd Qu Qf QY Qv Qi Qk) []) (ge cx 0)) [])
def x25:JJ->Lp JJ
 |(0,cx)=>hlt H G T Q O n5 f5 n7 f7 n9 f9 q Y Qm Qd Qu Qf QY Qv Qi Qk cx|(_,cx)=>hlt H G T Q O n5 f5 n7 f7 n9 f9 q Y Qm Qd Qu Qf QY Qv Qi Qk cx
def aeD:LD JJ ny:=⟨m44,x25 H G T Q O n5 f5 n7 f7 n9 f9 q Y Qm Qd Qu Qf QY Qv Qi Qk,To H G T Q O n5 f5 n7 f7 n9 f9 q Y Qm Qd Qu Qf QY Qv Qi Qk⟩
def A8 (H:Nat) (G:bk) (T:Nat) (Q:bk) (O:Int) (n5:Nat) (f5:bk) (n7:Nat) (f7:bk) (n9:Nat) (f9:bk) (q:Nat) (Y:bk) (Qm:Nat) (Qd:bk) (Qu:Nat) (Qf:bk) (QY Qv Qi Qk:Int):ny->RT ny
 |.L0 Qg Ry Sg Sv=>.br (decide (Qg<(Qm:Int))) (.ob (dI Qg Qm) (.iv (.obj (decide (0<=aE (Qd Qg.toNat))) (dI Qg q) (.iv (.br (decide (0<=aE (Qd Qg.toNat))) (.ob (decide (0<=aE (Qd Qg.toNat))) (.ob (decide (0<=aE (Qd Qg.toNat))) (.obp (((0:Int)<=Qg/\Qg<(Qm:Int))/\((0:Int)<=Qg/\Qg<(Qu:Int))/\(aI H (A ao G)/\aI T (A al Q))/\(aI n5 (A aN f5)/\aI q (A aG Y))/\Hd (eV (Y Qg.toNat)) (ck (Y Qg.toNat))/\rv (bM (Y Qg.toNat)) (d9 (Y Qg.toNat)) (cH (Y Qg.toNat)) QY Qv Qi Qk) (.obt (.next (iR 0 5 []) (ny.L0 (I (Qg+1)) Ry (I (Sg+pg H (A ao G) T (A al Q) n5 (A aN f5) n7 (A aX f7) n9 (A aY f9) q (A aG Y) (A L Qd) (A CE Qf) Qg (bM (Y Qg.toNat)) (d9 (Y Qg.toNat)) (cH (Y Qg.toNat)) (eV (Y Qg.toNat)) (ck (Y Qg.toNat)) QY Qv Qi Qk)) (I (Sv+o8 H (A ao G) T (A al Q) n5 (A aN f5) n7 (A aX f7) n9 (A aY f9) q (A aG Y) (A L Qd) (A CE Qf) Qg (bM (Y Qg.toNat)) (d9 (Y Qg.toNat)) (cH (Y Qg.toNat)) (eV (Y Qg.toNat)) (ck (Y Qg.toNat)) QY Qv Qi Qk))) []))))) (.next (iR 0 5 []) (ny.L0 (I (Qg+1)) Ry Sg Sv) [])))))) (.ret (V.agg [D Sg,D Sv]))
def arU:RT ny:=dm (H,G,T,Q,O,n5,f5,n7,f7,n9,f9,q,Y,Qd,Qu,Qf,QY,Qv,Qi,Qk) (.all (λl_8506=>.am Qm (.enter (iR 0 5 []) (ny.L0 0 (l_8506) 0 0) [])))
theorem hss:ig IS u0 (aeD H G T Q O n5 f5 n7 f7 n9 f9 q Y Qm Qd Qu Qf QY Qv Qi Qk) (aeS H G T Q O n5 f5 n7 f7 n9 f9 q Y Qm Qd Qu Qf QY Qv Qi Qk) (arU H G T Q O n5 f5 n7 f7 n9 f9 q Y Qm Qd Qu Qf QY Qv Qi Qk) (A8 H G T Q O n5 f5 n7 f7 n9 f9 q Y Qm Qd Qu Qf QY Qv Qi Qk):=⟨cG,λs=>by cases s<;>exact cG⟩
theorem agI (hn:Qm<=9223372036854775807) (l:Nat) (hp:Iy H (A ao G) T (A al Q) n5 (A aN f5) q (A aG Y) Qm Qu/\J3 QY Qv Qi Qk):∀ k,k<=Qm->Ev (A8 H G T Q O n5 f5 n7 f7 n9 f9 q Y Qm Qd Qu Qf QY Qv Qi Qk) (.L0 (k:Int) l (dY H (A ao G) T (A al Q) n5 (A aN f5) n7 (A aX f7) n9 (A aY f9) q (A aG Y) (A L Qd) (A CE Qf) QY Qv Qi Qk k) (eR H (A ao G) T (A al Q) n5 (A aN f5) n7 (A aX f7) n9 (A aY f9) q (A aG Y) (A L Qd) (A CE Qf) QY Qv Qi Qk k)) (.agg [D (dY H (A ao G) T (A al Q) n5 (A aN f5) n7 (A aX f7) n9 (A aY f9) q (A aG Y) (A L Qd) (A CE Qf) QY Qv Qi Qk Qm),D (eR H (A ao G) T (A al Q) n5 (A aN f5) n7 (A aX f7) n9 (A aY f9) q (A aG Y) (A L Qd) (A CE Qf) QY Qv Qi Qk Qm)]):=by
 obtain⟨⟨⟨M,N⟩,hz,hr,hc⟩,U⟩:=hp;refine gE λk W ih=>Ev.of rfl ?_
 skip
 by_cases Qw:k<Qm
 ·have hw:I ((k:Int)+1)=((k+1:Nat):Int):=by rw[D5 E E];omega
  have ih:=ih Qw;rw[← hw]at ih;have c:=hc k E;refine c9 (BH E) (aL (BH E) (BK (BK (BK (BK (fQ (λ_=>BH E) (BK (BK (BK (BK (E2 (λh=>aL h (aL h (aP ⟨E,E,hz,hr,c.hd,⟨⟨c.px,c.py,c.ph⟩,U⟩⟩ (ak (bb ?_))))) (λh=>bb ?_))))))))))))
  ·have h:LE (A L Qd) k=true:=h;unfold dY eR at ih;rw[AH h,AH h]at ih;exact ih
  ·have h:LE (A L Qd) k=false:=h;unfold dY eR at ih;rw[BG h,BG h]at ih;exact ih
 ·have e:k=Qm:=by omega
  refine d5 (eZ E) ?_;rw[e];exact aA rfl
theorem yaS (hp:Iy H (A ao G) T (A al Q) n5 (A aN f5) q (A aG Y) Qm Qu/\J3 QY Qv Qi Qk):a6 (Ev (A8 H G T Q O n5 f5 n7 f7 n9 f9 q Y Qm Qd Qu Qf QY Qv Qi Qk)) (arU H G T Q O n5 f5 n7 f7 n9 f9 q Y Qm Qd Qu Qf QY Qv Qi Qk) (.agg [D (dY H (A ao G) T (A al Q) n5 (A aN f5) n7 (A aX f7) n9 (A aY f9) q (A aG Y) (A L Qd) (A CE Qf) QY Qv Qi Qk Qm),D (eR H (A ao G) T (A al Q) n5 (A aN f5) n7 (A aX f7) n9 (A aY f9) q (A aG Y) (A L Qd) (A CE Qf) QY Qv Qi Qk Qm)]):=zH λl=>cg λhn=>aS (agI H G T Q O n5 f5 n7 f7 n9 f9 q Y Qm Qd Qu Qf QY Qv Qi Qk hn l hp 0 (GG _))
def asM:aD:=cK [.agg [.sl ao,.sl al,tI,.sl aN,.sl aX,.sl aY,.sl aG,.sl L,.sl CE],.fn 25 [] [.pd kp]] (λ
 |[.agg [.sl H G,.sl T Q,.int _ O,.sl n5 f5,.sl n7 f7,.sl n9 f9,.sl q Y,.sl Qm Qd,.sl Qu Qf],.fn _ [] [.pd [.int _ QY,.int _ Qv,.int _ Qi,.int _ Qk]]]=>Iy H G T Q n5 f5 q Y Qm Qu/\J3 QY Qv Qi Qk|_=>False) λ
 |[.agg [.sl H G,.sl T Q,.int _ O,.sl n5 f5,.sl n7 f7,.sl n9 f9,.sl q Y,.sl Qm Qd,.sl Qu Qf],.fn _ [] [.pd [.int _ QY,.int _ Qv,.int _ Qi,.int _ Qk]]]=>.agg [D (dY H G T Q n5 f5 n7 f7 n9 f9 q Y Qd Qf QY Qv Qi Qk Qm),D (eR H G T Q n5 f5 n7 f7 n9 f9 q Y Qd Qf QY Qv Qi Qk Qm)]|_=>.any
theorem nh5:c7 asM 24:=bo aqX λ_ hp=>qV (hss ..) (yaS _ _ _ _ _ _ _ _ _ _ _ _ _ _ _ _ _ _ _ _ _ hp)
theorem an2 {e a b c d:Int} (h:bW e a b c d=0):e=0/\HN a b c d=true:=by
 unfold bW at h;cases M:e==0 with
 |false=>rw[M]at h;have h:e=0:=h;rw[h]at M;cases M
 |true=>
   rw[M]at h;cases N:HN a b c d with
   |false=>rw[N]at h;cases h|true=>exact⟨HK M,rfl⟩
def M6:bm:=(30,.con aaB)::IS
theorem asK:aV Tryz.prog BN D7 M6:=.con afE (aqX)
def ml (Y Qd Qf:bk) (a b c d dx dy:Int):Nat->Int:=lQ (LE Qd) λi=>oX H G T Q O n5 f5 n7 f7 n9 f9 q Y Qd Qf (i:Int) (bM (Y i)) (d9 (Y i)) (cH (Y i)) (eV (Y i)) (ck (Y i)) a b c d dx dy
def mh (Y Qd Qf:bk) (a b c d dx dy:Int):Nat->Int:=lQ (LE Qd) λi=>o7 H G T Q O n5 f5 n7 f7 n9 f9 q Y Qd Qf (i:Int) (bM (Y i)) (d9 (Y i)) (cH (Y i)) (eV (Y i)) (ck (Y i)) a b c d dx dy
def aaO:RT Empty:=dm Rf (.obp (((0:Int)<=QY/\QY<(Qm:Int))/\((0:Int)<=QY/\QY<(Qu:Int))/\(aI H (A ao G)/\aI T (A al Q))/\(aI n5 (A aN f5)/\aI q (A aG Y))/\Hd Qt RA/\rv Qi Qk Qr R5 RB RE RF/\Hd Rl SA) (.obt (.ret (V.agg [D (oX H (A ao G) T (A al Q) O n5 (A aN f5) n7 (A aX f7) n9 (A aY f9) q (A aG Y) (A L Qd) (A CE Qf) QY Qi Qk Qr Qt RA R5 RB RE RF Rl SA),D (o7 H (A ao G) T (A al Q) O n5 (A aN f5) n7 (A aX f7) n9 (A aY f9) q (A aG Y) (A L Qd) (A CE Qf) QY Qi Qk Qr Qt RA R5 RB RE RF Rl SA)]))))
theorem sl2:dZ d7 (ba JJ M6 u0 ap9 [V.agg [V.sl H (A ao G),V.sl T (A al Q),D O,V.sl n5 (A aN f5),V.sl n7 (A aX f7),V.sl n9 (A aY f9),V.sl q (A aG Y),V.sl Qm (A L Qd),V.sl Qu (A CE Qf),D QY,V.str Rf,D Qi,D Qk,D Qr,D Qt,D RA],V.pd [D R5,D RB,D RE,D RF],V.pd [D Rl,D SA]]) (aaO H G T Q O n5 f5 n7 f7 n9 f9 q Y Qm Qd Qu Qf QY Rf Qi Qk Qr Qt RA R5 RB RE RF Rl SA):=cG
theorem ag8 (H:Nat) (G:bk) (T:Nat) (Q:bk) (O:Int) (n5:Nat) (f5:bk) (n7:Nat) (f7:bk) (n9:Nat) (f9:bk) (q:Nat) (Y:bk) (Qm:Nat) (Qd:bk) (Qu:Nat) (Qf:bk) (QY:Int) (Rf:ByteArray) (Qi Qk Qr Qt RA R5 RB RE RF Rl SA:Int) (hp:(0<=QY/\QY<(Qm:Int))/\(0<=QY/\QY<(Qu:Int))/\(aI H (A ao G)/\aI T (A al Q))/\(aI n5 (A aN f5)/\aI q (A aG Y))/\Hd Qt RA/\rv Qi Qk Qr R5 RB RE RF/\Hd Rl SA):a6 dK (aaO H G T Q O n5 f5 n7 f7 n9 f9 q Y Qm Qd Qu Qf QY Rf Qi Qk Qr Qt RA R5 RB RE RF Rl SA) (.agg [D (oX H (A ao G) T (A al Q) O n5 (A aN f5) n7 (A aX f7) n9 (A aY f9) q (A aG Y) (A L Qd) (A CE Qf) QY Qi Qk Qr Qt RA R5 RB RE RF Rl SA),D (o7 H (A ao G) T (A al Q) O n5 (A aN f5) n7 (A aX f7) n9 (A aY f9) q (A aG Y) (A L Qd) (A CE Qf) QY Qi Qk Qr Qt RA R5 RB RE RF Rl SA)]):=aP hp (ak (aA rfl))
def aci:aD:=cK [.agg [.sl ao,.sl al,tI,.sl aN,.sl aX,.sl aY,.sl aG,.sl L,.sl CE,tI,.str,tI,tI,tI,tI,tI],.pd kp,.pd aK] (λ
 |[.agg [.sl H G,.sl T Q,.int _ O,.sl n5 f5,.sl n7 f7,.sl n9 f9,.sl q Y,.sl Qm Qd,.sl Qu Qf,.int _ QY,.str Rf,.int _ Qi,.int _ Qk,.int _ Qr,.int _ Qt,.int _ RA],.pd [.int _ R5,.int _ RB,.int _ RE,.int _ RF],.pd [.int _ Rl,.int _ SA]]=>(0<=QY/\QY<(Qm:Int))/\(0<=QY/\QY<(Qu:Int))/\(aI H G/\aI T Q)/\(aI n5 f5/\aI q Y)/\Hd Qt RA/\rv Qi Qk Qr R5 RB RE RF/\Hd Rl SA|_=>False) λ
 |[.agg [.sl H G,.sl T Q,.int _ O,.sl n5 f5,.sl n7 f7,.sl n9 f9,.sl q Y,.sl Qm Qd,.sl Qu Qf,.int _ QY,.str Rf,.int _ Qi,.int _ Qk,.int _ Qr,.int _ Qt,.int _ RA],.pd [.int _ R5,.int _ RB,.int _ RE,.int _ RF],.pd [.int _ Rl,.int _ SA]]=>.agg [D (oX H G T Q O n5 f5 n7 f7 n9 f9 q Y Qd Qf QY Qi Qk Qr Qt RA R5 RB RE RF Rl SA),D (o7 H G T Q O n5 f5 n7 f7 n9 f9 q Y Qd Qf QY Qi Qk Qr Qt RA R5 RB RE RF Rl SA)]|_=>.any
theorem afu:c7 aci 29:=bo asK λ_ hp=>er (sl2 ..) (ag8 _ _ _ _ _ _ _ _ _ _ _ _ _ _ _ _ _ _ _ _ _ _ _ _ _ _ _ _ _ _ hp)
def Ju:bm:=(29,.con aci)::M6
theorem fh8:aV Tryz.prog BN D7 Ju:=.con afu (asK)
inductive oh where|L0 (_:Int) (_:Nat) (_ _:Int)
def ic14:oh->bZ×List A7×Option Ex
 |.L0 Qg Ry Sg Sv=>([(8,D Qg),(7,D (Qm:Int)),(6,V.sl Qm (A L Qd)),(5,V.pl 4 7),(0,V.yl Ry),(1,V.pl 4 0)],[A7.cells [V.sl H (A ao G),V.sl T (A al Q),D O,V.sl n5 (A aN f5),V.sl n7 (A aX f7),V.sl n9 (A aY f9),V.sl q (A aG Y),V.sl Qm (A L Qd),V.sl Qu (A CE Qf)] 35,A7.cells [V.fn 29 [] [V.pd [D QY,D Qv,D Qi,D Qk],V.pd [D Qr,D Qt]]] 90,A7.cells G7 40,A7.cells [D Sg,D Sv] 40,A7.cells [V.sl H (A ao G),V.sl T (A al Q),D O,V.sl n5 (A aN f5),V.sl n7 (A aX f7),V.sl n9 (A aY f9),V.sl q (A aG Y),V.sl Qm (A L Qd),V.sl Qu (A CE Qf)] 35],none)
def ih9:oh->JJ
 |.L0 _ Ry ..=>(0,[Cx.n Ry])
def ac2:BO (cX JJ):=ba JJ Ju u0 Fe [V.agg [V.sl H (A ao G),V.sl T (A al Q),D O,V.sl n5 (A aN f5),V.sl n7 (A aX f7),V.sl n9 (A aY f9),V.sl q (A aG Y),V.sl Qm (A L Qd),V.sl Qu (A CE Qf)],V.fn 29 [] [V.pd [D QY,D Qv,D Qi,D Qk],V.pd [D Qr,D Qt]]]
def Ag (cx:List Cx):Lp JJ:=iZ (ik (Je (ik (ac2 H G T Q O n5 f5 n7 f7 n9 f9 q Y Qm Qd Qu Qf QY Qv Qi Qk Qr Qt) []) (ge cx 0)) [])
def jf8:JJ->Lp JJ
 |(0,cx)=>Ag H G T Q O n5 f5 n7 f7 n9 f9 q Y Qm Qd Qu Qf QY Qv Qi Qk Qr Qt cx|(_,cx)=>Ag H G T Q O n5 f5 n7 f7 n9 f9 q Y Qm Qd Qu Qf QY Qv Qi Qk Qr Qt cx
def agV:LD JJ oh:=⟨ih9,jf8 H G T Q O n5 f5 n7 f7 n9 f9 q Y Qm Qd Qu Qf QY Qv Qi Qk Qr Qt,ic14 H G T Q O n5 f5 n7 f7 n9 f9 q Y Qm Qd Qu Qf QY Qv Qi Qk Qr Qt⟩
def AK:oh->RT oh
 |.L0 Qg Ry Sg Sv=>.br (decide (Qg<(Qm:Int))) (.ob (dI Qg Qm) (.iv (.obj (decide (0<=aE (Qd Qg.toNat))) (dI Qg q) (.iv (.br (decide (0<=aE (Qd Qg.toNat))) (.ob (decide (0<=aE (Qd Qg.toNat))) (.ob (decide (0<=aE (Qd Qg.toNat))) (.obp (((0:Int)<=Qg/\Qg<(Qm:Int))/\((0:Int)<=Qg/\Qg<(Qu:Int))/\(aI H (A ao G)/\aI T (A al Q))/\(aI n5 (A aN f5)/\aI q (A aG Y))/\Hd (eV (Y Qg.toNat)) (ck (Y Qg.toNat))/\rv (bM (Y Qg.toNat)) (d9 (Y Qg.toNat)) (cH (Y Qg.toNat)) QY Qv Qi Qk/\Hd Qr Qt) (.obt (.next (iR 0 5 []) (oh.L0 (I (Qg+1)) Ry (I (Sg+oX H (A ao G) T (A al Q) O n5 (A aN f5) n7 (A aX f7) n9 (A aY f9) q (A aG Y) (A L Qd) (A CE Qf) Qg (bM (Y Qg.toNat)) (d9 (Y Qg.toNat)) (cH (Y Qg.toNat)) (eV (Y Qg.toNat)) (ck (Y Qg.toNat)) QY Qv Qi Qk Qr Qt)) (I (Sv+o7 H (A ao G) T (A al Q) O n5 (A aN f5) n7 (A aX f7) n9 (A aY f9) q (A aG Y) (A L Qd) (A CE Qf) Qg (bM (Y Qg.toNat)) (d9 (Y Qg.toNat)) (cH (Y Qg.toNat)) (eV (Y Qg.toNat)) (ck (Y Qg.toNat)) QY Qv Qi Qk Qr Qt))) []))))) (.next (iR 0 5 []) (oh.L0 (I (Qg+1)) Ry Sg Sv) [])))))) (.ret (V.agg [D Sg,D Sv]))
def apS:RT oh:=dm (H,G,T,Q,O,n5,f5,n7,f7,n9,f9,q,Y,Qd,Qu,Qf,QY,Qv,Qi,Qk,Qr,Qt) (.all (λl_8642=>.am Qm (.enter (iR 0 5 []) (oh.L0 0 (l_8642) 0 0) [])))
theorem i13:ig Ju u0 (agV H G T Q O n5 f5 n7 f7 n9 f9 q Y Qm Qd Qu Qf QY Qv Qi Qk Qr Qt) (ac2 H G T Q O n5 f5 n7 f7 n9 f9 q Y Qm Qd Qu Qf QY Qv Qi Qk Qr Qt) (apS H G T Q O n5 f5 n7 f7 n9 f9 q Y Qm Qd Qu Qf QY Qv Qi Qk Qr Qt) (AK H G T Q O n5 f5 n7 f7 n9 f9 q Y Qm Qd Qu Qf QY Qv Qi Qk Qr Qt):=⟨cG,λs=>by cases s<;>exact cG⟩
theorem aeO (hn:Qm<=9223372036854775807) (l:Nat) (hp:Iy H (A ao G) T (A al Q) n5 (A aN f5) q (A aG Y) Qm Qu/\J3 QY Qv Qi Qk/\Hd Qr Qt):∀ k,k<=Qm->Ev (AK H G T Q O n5 f5 n7 f7 n9 f9 q Y Qm Qd Qu Qf QY Qv Qi Qk Qr Qt) (.L0 (k:Int) l (ml H (A ao G) T (A al Q) O n5 (A aN f5) n7 (A aX f7) n9 (A aY f9) q (A aG Y) (A L Qd) (A CE Qf) QY Qv Qi Qk Qr Qt k) (mh H (A ao G) T (A al Q) O n5 (A aN f5) n7 (A aX f7) n9 (A aY f9) q (A aG Y) (A L Qd) (A CE Qf) QY Qv Qi Qk Qr Qt k)) (.agg [D (ml H (A ao G) T (A al Q) O n5 (A aN f5) n7 (A aX f7) n9 (A aY f9) q (A aG Y) (A L Qd) (A CE Qf) QY Qv Qi Qk Qr Qt Qm),D (mh H (A ao G) T (A al Q) O n5 (A aN f5) n7 (A aX f7) n9 (A aY f9) q (A aG Y) (A L Qd) (A CE Qf) QY Qv Qi Qk Qr Qt Qm)]):=by
 obtain⟨⟨⟨M,N⟩,hz,hr,hc⟩,U⟩:=hp;refine gE λk W ih=>Ev.of rfl ?_
 skip
 by_cases Qw:k<Qm
 ·have hw:I ((k:Int)+1)=((k+1:Nat):Int):=by rw[D5 E E];omega
  have ih:=ih Qw;rw[← hw]at ih;have c:=hc k E;refine c9 (BH E) (aL (BH E) (BK (BK (BK (BK (fQ (λ_=>BH E) (BK (BK (BK (BK (E2 (λh=>aL h (aL h (aP ⟨E,E,hz,hr,c.hd,⟨⟨c.px,c.py,c.ph⟩,U.1⟩,U.2⟩ (ak (bb ?_))))) (λh=>bb ?_))))))))))))
  ·have h:LE (A L Qd) k=true:=h;unfold ml mh at ih;rw[AH h,AH h]at ih;exact ih
  ·have h:LE (A L Qd) k=false:=h;unfold ml mh at ih;rw[BG h,BG h]at ih;exact ih
 ·have e:k=Qm:=by omega
  refine d5 (eZ E) ?_;rw[e];exact aA rfl
theorem lfH (hp:Iy H (A ao G) T (A al Q) n5 (A aN f5) q (A aG Y) Qm Qu/\J3 QY Qv Qi Qk/\Hd Qr Qt):a6 (Ev (AK H G T Q O n5 f5 n7 f7 n9 f9 q Y Qm Qd Qu Qf QY Qv Qi Qk Qr Qt)) (apS H G T Q O n5 f5 n7 f7 n9 f9 q Y Qm Qd Qu Qf QY Qv Qi Qk Qr Qt) (.agg [D (ml H (A ao G) T (A al Q) O n5 (A aN f5) n7 (A aX f7) n9 (A aY f9) q (A aG Y) (A L Qd) (A CE Qf) QY Qv Qi Qk Qr Qt Qm),D (mh H (A ao G) T (A al Q) O n5 (A aN f5) n7 (A aX f7) n9 (A aY f9) q (A aG Y) (A L Qd) (A CE Qf) QY Qv Qi Qk Qr Qt Qm)]):=zH λl=>cg λhn=>aS (aeO H G T Q O n5 f5 n7 f7 n9 f9 q Y Qm Qd Qu Qf QY Qv Qi Qk Qr Qt hn l hp 0 (GG _))
def aqN:aD:=cK [.agg [.sl ao,.sl al,tI,.sl aN,.sl aX,.sl aY,.sl aG,.sl L,.sl CE],.fn 29 [] [.pd kp,.pd aK]] (λ
 |[.agg [.sl H G,.sl T Q,.int _ O,.sl n5 f5,.sl n7 f7,.sl n9 f9,.sl q Y,.sl Qm Qd,.sl Qu Qf],.fn _ [] [.pd [.int _ QY,.int _ Qv,.int _ Qi,.int _ Qk],.pd [.int _ Qr,.int _ Qt]]]=>Iy H G T Q n5 f5 q Y Qm Qu/\J3 QY Qv Qi Qk/\Hd Qr Qt|_=>False) λ
 |[.agg [.sl H G,.sl T Q,.int _ O,.sl n5 f5,.sl n7 f7,.sl n9 f9,.sl q Y,.sl Qm Qd,.sl Qu Qf],.fn _ [] [.pd [.int _ QY,.int _ Qv,.int _ Qi,.int _ Qk],.pd [.int _ Qr,.int _ Qt]]]=>.agg [D (ml H G T Q O n5 f5 n7 f7 n9 f9 q Y Qd Qf QY Qv Qi Qk Qr Qt Qm),D (mh H G T Q O n5 f5 n7 f7 n9 f9 q Y Qd Qf QY Qv Qi Qk Qr Qt Qm)]|_=>.any
theorem nc6:c7 aqN 24:=bo fh8 λ_ hp=>qV (i13 ..) (lfH _ _ _ _ _ _ _ _ _ _ _ _ _ _ _ _ _ _ _ _ _ _ _ hp)
def MS:bm:=(24,.con asM)::Ju
theorem ap5:aV Tryz.prog BN D7 MS:=.con nh5 (fh8)
theorem acs {e a b c d:Int} (h:e≠0):bW e a b c d=e:=by unfold bW;rw[show(e==0)=false from by simpa using h];rfl
theorem grL {a b c d:Int} (h:HN a b c d=false):bW 0 a b c d=7:=by unfold bW;rw[h];rfl
theorem aae {a b c d:Int} (h:HN a b c d=true):bW 0 a b c d=0:=by unfold bW;rw[h];rfl
def ab9:RT Empty:=.obp (aI H (A ao G)/\aI T (A al Q)/\aI n5 (A aN f5)/\aI q (A aG Y)) (.obt (.br (ej H (A ao G) T (A al Q) O n5 (A aN f5) n7 (A aX f7) n9 (A aY f9) q (A aG Y) Qm (A L Qd) Qu (A CE Qf)!=0) (.ret (V.tup [V.agg G7,D (ej H (A ao G) T (A al Q) O n5 (A aN f5) n7 (A aX f7) n9 (A aY f9) q (A aG Y) Qm (A L Qd) Qu (A CE Qf))])) (.cb (.br (!HN QY Qv Qi Qk) (.ret (V.tup [V.agg G7,D 7])) (.obp (Iy H (A ao G) T (A al Q) n5 (A aN f5) q (A aG Y) Qm Qu/\J3 QY Qv Qi Qk) (.obt (.ret (V.tup [V.agg [D (dY H (A ao G) T (A al Q) n5 (A aN f5) n7 (A aX f7) n9 (A aY f9) q (A aG Y) (A L Qd) (A CE Qf) QY Qv Qi Qk Qm),D (eR H (A ao G) T (A al Q) n5 (A aN f5) n7 (A aX f7) n9 (A aY f9) q (A aG Y) (A L Qd) (A CE Qf) QY Qv Qi Qk Qm)],D 0]))))))))
theorem x13:dZ d7 (ba JJ MS u0 frR [V.agg [V.sl H (A ao G),V.sl T (A al Q),D O,V.sl n5 (A aN f5),V.sl n7 (A aX f7),V.sl n9 (A aY f9),V.sl q (A aG Y),V.sl Qm (A L Qd),V.sl Qu (A CE Qf)],V.agg [D QY,D Qv,D Qi,D Qk]]) (ab9 H G T Q O n5 f5 n7 f7 n9 f9 q Y Qm Qd Qu Qf QY Qv Qi Qk):=cG
theorem aii (hp:aI H (A ao G)/\aI T (A al Q)/\aI n5 (A aN f5)/\aI q (A aG Y)):a6 dK (ab9 H G T Q O n5 f5 n7 f7 n9 f9 q Y Qm Qd Qu Qf QY Qv Qi Qk) (.tup [.agg [D (io (bW (ej H (A ao G) T (A al Q) O n5 (A aN f5) n7 (A aX f7) n9 (A aY f9) q (A aG Y) Qm (A L Qd) Qu (A CE Qf)) QY Qv Qi Qk) (dY H (A ao G) T (A al Q) n5 (A aN f5) n7 (A aX f7) n9 (A aY f9) q (A aG Y) (A L Qd) (A CE Qf) QY Qv Qi Qk Qm)),D (io (bW (ej H (A ao G) T (A al Q) O n5 (A aN f5) n7 (A aX f7) n9 (A aY f9) q (A aG Y) Qm (A L Qd) Qu (A CE Qf)) QY Qv Qi Qk) (eR H (A ao G) T (A al Q) n5 (A aN f5) n7 (A aX f7) n9 (A aY f9) q (A aG Y) (A L Qd) (A CE Qf) QY Qv Qi Qk Qm))],D (bW (ej H (A ao G) T (A al Q) O n5 (A aN f5) n7 (A aX f7) n9 (A aY f9) q (A aG Y) Qm (A L Qd) Qu (A CE Qf)) QY Qv Qi Qk)]):=by refine aP hp (ak (E2 (λh=>aA (tV (acs (C8 h)) (C8 h))) (λh=>?_)));have h0:(ej H (A ao G) T (A al Q) O n5 (A aN f5) n7 (A aX f7) n9 (A aY f9) q (A aG Y) Qm (A L Qd) Qu (A CE Qf))=0:=qK h;have SK:=C7 h0;rw[h0];exact aC (ak (E2 (λM=>aA (tV (grL (K5 M)) Ej)) (λM=>aP ⟨⟨⟨SK.ll,SK.lu⟩,⟨hp.1,hp.2.1⟩,⟨hp.2.2.1,hp.2.2.2⟩,SK.cl⟩,anL (GI M)⟩ (ak (aA (he3 (aae (GI M))))))))
def acj:aD:=cK [.agg [.sl ao,.sl al,tI,.sl aN,.sl aX,.sl aY,.sl aG,.sl L,.sl CE],.agg kp] (λ
 |[.agg [.sl H G,.sl T Q,.int _ O,.sl n5 f5,.sl n7 f7,.sl n9 f9,.sl q Y,.sl Qm Qd,.sl Qu Qf],.agg [.int _ QY,.int _ Qv,.int _ Qi,.int _ Qk]]=>aI H G/\aI T Q/\aI n5 f5/\aI q Y|_=>False) λ
 |[.agg [.sl H G,.sl T Q,.int _ O,.sl n5 f5,.sl n7 f7,.sl n9 f9,.sl q Y,.sl Qm Qd,.sl Qu Qf],.agg [.int _ QY,.int _ Qv,.int _ Qi,.int _ Qk]]=>.tup [.agg [D (io (bW (ej H G T Q O n5 f5 n7 f7 n9 f9 q Y Qm Qd Qu Qf) QY Qv Qi Qk) (dY H G T Q n5 f5 n7 f7 n9 f9 q Y Qd Qf QY Qv Qi Qk Qm)),D (io (bW (ej H G T Q O n5 f5 n7 f7 n9 f9 q Y Qm Qd Qu Qf) QY Qv Qi Qk) (eR H G T Q n5 f5 n7 f7 n9 f9 q Y Qd Qf QY Qv Qi Qk Qm))],D (bW (ej H G T Q O n5 f5 n7 f7 n9 f9 q Y Qm Qd Qu Qf) QY Qv Qi Qk)]|_=>.any
theorem aeA:c7 acj 7:=bo ap5 λ_ hp=>er (x13 ..) (aii _ _ _ _ _ _ _ _ _ _ _ _ _ _ _ _ _ _ _ _ _ hp)
def OV:bm:=(24,.con aqN)::MS
theorem aoO:aV Tryz.prog BN D7 OV:=.con nc6 (ap5)
def p7 (p dx dy O:Int):Int:=bif p==0 then bif !kJ dx dy then 2 else bif decide (O<0) then 4 else 0 else p
theorem aa8 {p dx dy O:Int} (h:p≠0):p7 p dx dy O=p:=by unfold p7;rw[show(p==0)=false from by simpa using h];rfl
theorem aka {dx dy O:Int} (h:kJ dx dy=false):p7 0 dx dy O=2:=by unfold p7;rw[h];rfl
theorem anP {dx dy O:Int} (h:kJ dx dy=true) (k:decide (O<0)=true):p7 0 dx dy O=4:=by unfold p7;rw[h,k];rfl
theorem akK {dx dy O:Int} (h:kJ dx dy=true) (k:decide (O<0)=false):p7 0 dx dy O=0:=by unfold p7;rw[h,k];rfl
def hbm:RT Empty:=.obp (aI H (A ao G)/\aI T (A al Q)/\aI n5 (A aN f5)/\aI q (A aG Y)) (.obt (.br (ej H (A ao G) T (A al Q) O n5 (A aN f5) n7 (A aX f7) n9 (A aY f9) q (A aG Y) Qm (A L Qd) Qu (A CE Qf)!=0) (.ret (V.tup [V.agg G7,D (ej H (A ao G) T (A al Q) O n5 (A aN f5) n7 (A aX f7) n9 (A aY f9) q (A aG Y) Qm (A L Qd) Qu (A CE Qf))])) (.cb (.br (!HN QY Qv Qi Qk) (.ret (V.tup [V.agg G7,D 7])) (.cb (.br (!pL Qr Qt) (.ret (V.tup [V.agg G7,D 2])) (.br (decide (O<0)) (.ret (V.tup [V.agg G7,D 4])) (.obp (Iy H (A ao G) T (A al Q) n5 (A aN f5) q (A aG Y) Qm Qu/\J3 QY Qv Qi Qk/\Hd Qr Qt) (.obt (.ret (V.tup [V.agg [D (ml H (A ao G) T (A al Q) O n5 (A aN f5) n7 (A aX f7) n9 (A aY f9) q (A aG Y) (A L Qd) (A CE Qf) QY Qv Qi Qk Qr Qt Qm),D (mh H (A ao G) T (A al Q) O n5 (A aN f5) n7 (A aX f7) n9 (A aY f9) q (A aG Y) (A L Qd) (A CE Qf) QY Qv Qi Qk Qr Qt Qm)],D 0])))))))))))
theorem nf4:dZ d7 (ba JJ OV u0 fb1 [V.agg [V.sl H (A ao G),V.sl T (A al Q),D O,V.sl n5 (A aN f5),V.sl n7 (A aX f7),V.sl n9 (A aY f9),V.sl q (A aG Y),V.sl Qm (A L Qd),V.sl Qu (A CE Qf)],V.agg [D QY,D Qv,D Qi,D Qk],D Qr,D Qt]) (hbm H G T Q O n5 f5 n7 f7 n9 f9 q Y Qm Qd Qu Qf QY Qv Qi Qk Qr Qt):=cG
theorem afz (hp:aI H (A ao G)/\aI T (A al Q)/\aI n5 (A aN f5)/\aI q (A aG Y)):a6 dK (hbm H G T Q O n5 f5 n7 f7 n9 f9 q Y Qm Qd Qu Qf QY Qv Qi Qk Qr Qt) (.tup [.agg [D (io (p7 (bW (ej H (A ao G) T (A al Q) O n5 (A aN f5) n7 (A aX f7) n9 (A aY f9) q (A aG Y) Qm (A L Qd) Qu (A CE Qf)) QY Qv Qi Qk) Qr Qt O) (ml H (A ao G) T (A al Q) O n5 (A aN f5) n7 (A aX f7) n9 (A aY f9) q (A aG Y) (A L Qd) (A CE Qf) QY Qv Qi Qk Qr Qt Qm)),D (io (p7 (bW (ej H (A ao G) T (A al Q) O n5 (A aN f5) n7 (A aX f7) n9 (A aY f9) q (A aG Y) Qm (A L Qd) Qu (A CE Qf)) QY Qv Qi Qk) Qr Qt O) (mh H (A ao G) T (A al Q) O n5 (A aN f5) n7 (A aX f7) n9 (A aY f9) q (A aG Y) (A L Qd) (A CE Qf) QY Qv Qi Qk Qr Qt Qm))],D (p7 (bW (ej H (A ao G) T (A al Q) O n5 (A aN f5) n7 (A aX f7) n9 (A aY f9) q (A aG Y) Qm (A L Qd) Qu (A CE Qf)) QY Qv Qi Qk) Qr Qt O)]):=by refine aP hp (ak (E2 (λh=>aA (tV (by rw[acs (C8 h)];exact aa8 (C8 h)) (C8 h))) (λh=>?_)));have h0:(ej H (A ao G) T (A al Q) O n5 (A aN f5) n7 (A aX f7) n9 (A aY f9) q (A aG Y) Qm (A L Qd) Qu (A CE Qf))=0:=qK h;have SK:=C7 h0;rw[h0,sqs];refine aC (ak (E2 (λM=>aA (tV (by rw[grL (K5 M)];exact aa8 Ej) Ej)) (λM=>?_)));rw[aae (GI M)];exact aC (ak (E2 (λN=>aA (tV (aka (K5 N)) Ej)) (λN=>E2 (λh3=>aA (tV (anP (GI N) h3) Ej)) (λh3=>aP ⟨⟨⟨SK.ll,SK.lu⟩,⟨hp.1,hp.2.1⟩,⟨hp.2.2.1,hp.2.2.2⟩,SK.cl⟩,anL (GI M),ajk (GI N)⟩ (ak (aA (he3 (akK (GI N) h3))))))))
def aaT:aD:=cK [.agg [.sl ao,.sl al,tI,.sl aN,.sl aX,.sl aY,.sl aG,.sl L,.sl CE],.agg kp,tI,tI] (λ
 |[.agg [.sl H G,.sl T Q,.int _ O,.sl n5 f5,.sl n7 f7,.sl n9 f9,.sl q Y,.sl Qm Qd,.sl Qu Qf],.agg [.int _ QY,.int _ Qv,.int _ Qi,.int _ Qk],.int _ Qr,.int _ Qt]=>aI H G/\aI T Q/\aI n5 f5/\aI q Y|_=>False) λ
 |[.agg [.sl H G,.sl T Q,.int _ O,.sl n5 f5,.sl n7 f7,.sl n9 f9,.sl q Y,.sl Qm Qd,.sl Qu Qf],.agg [.int _ QY,.int _ Qv,.int _ Qi,.int _ Qk],.int _ Qr,.int _ Qt]=>.tup [.agg [D (io (p7 (bW (ej H G T Q O n5 f5 n7 f7 n9 f9 q Y Qm Qd Qu Qf) QY Qv Qi Qk) Qr Qt O) (ml H G T Q O n5 f5 n7 f7 n9 f9 q Y Qd Qf QY Qv Qi Qk Qr Qt Qm)),D (io (p7 (bW (ej H G T Q O n5 f5 n7 f7 n9 f9 q Y Qm Qd Qu Qf) QY Qv Qi Qk) Qr Qt O) (mh H G T Q O n5 f5 n7 f7 n9 f9 q Y Qd Qf QY Qv Qi Qk Qr Qt Qm))],D (p7 (bW (ej H G T Q O n5 f5 n7 f7 n9 f9 q Y Qm Qd Qu Qf) QY Qv Qi Qk) Qr Qt O)]|_=>.any
theorem agP:c7 aaT 11:=bo aoO λ_ hp=>er (nf4 ..) (afz _ _ _ _ _ _ _ _ _ _ _ _ _ _ _ _ _ _ _ _ _ _ _ hp)
def aps (ts:List Ty) (raw:List V) (r:V):aD:=cK ts (λds=>ds=lD ts (au ts raw)) λ_=>r
theorem yaQ {P:Program} {BN:List TypeId} {D7:List jc} {ct:bm} {f:FuncId} {fn:Func} {sf:aO} {un:l8} {ts:List Ty} {raw:List V} {r:V} (hT:aV P BN D7 ct) (hE:∀ t∈BN,dw P t) (hI:mi P BN D7) (hf:P.funcs[f]? = some fn)
 (hn : (fn.name == "runtime.NumGoroutine") = false) (hc : eN P BN D7 fn = some sf) (hd : gr sf.ntmps sf.body = true) (ho : gS ts = true)
 (h:q9 r (ba JJ ct un sf (lD ts (au ts raw)))=ba JJ ct un sf (lD ts (au ts raw))):(vP (gQ [(au ts raw,r)])).Ok P f :=
 Bs (C:=aps ts raw r) (F8 (J:=JJ) (un:=un) hT hE hI hf hn hc hd ho λw0 ds hp=>by rw[hp];exact yP h) _ (U5 (Mc rfl rfl) UB)
theorem hle {ts:List Ty} {pre:List V->Prop} {preB:List V->Bool} {r:List V->V} (h:∀ ds,preB ds=true->pre ds) {ds:List V} {d p r'} (hc:rH ts preB r ds=some (d,p,r')):∃ At,cK ts pre r ds=some (d,At,r')/\At:=by
 unfold rH at hc;cases hb:preB (lD ts ds) with
 |false=>rw[hb]at hc;cases hc
 |true=>rw[hb]at hc;simp only[cond_true,Et,Prod.mk.injEq]at hc;obtain⟨rfl,rfl,rfl⟩:=hc;exact⟨_,rfl,h _ hb⟩
theorem ia1 {P:Program} {f:FuncId} {ts:List Ty} {pre:List V->Prop} {preB:List V->Bool} {r:List V->V} (h:∀ds,preB ds=true->pre ds) (hO:(vZ (cK ts pre r)).Ok P f):(vZ (rH ts preB r)).Ok P f:=by refine⟨λB m lh w args vs K hrel hargs ⟨ds,d,p,r',X,M,hX,N,h3,h5,h6⟩=>?_,λ_ _ _ _ _ W ⟨ds,d,p,r,X,M,N,h3,h4,h5,h6⟩=>⟨ds,d,p,r,X,M,N,h3,h4,h5,λx new hx=>W _ _ (h6 x new hx)⟩,λ_ _ _ _ ⟨_,_,_,_,_,_,_,_,_,⟨x,new,hx⟩,h6⟩=>h6 x new hx⟩;obtain⟨At,e,hq⟩:=hle h N;exact hO.sound B m lh w args vs K hrel hargs ⟨ds,d,At,r',X,M,hX,e,⟨h3.1,hq⟩,h5,h6⟩
def GD:List V->Bool
 |[.agg [.str _,.sl n1 _,.sl n3 _,.sl _ _,.int _ _,.int _ _],.int _ _]=>Nat.ble n1 1000&&Nat.ble n3 1000|_=>false
theorem hn2 (ds:List V) (h:GD ds=true):hY' ds:=by
 unfold GD at h;split at h
 ·simp only[Eg]at h;exact⟨G2 h.1,G2 h.2⟩
 ·cases h
def Gs:aD:=rH BA GD PV
theorem m68:(vZ Gs).Ok Tryz.prog 49:=ia1 hn2 fs4
theorem hzb:∀ds d p r,Gs ds=some (d,p,r)->d.1=d.2->p->∀w0 lh args,bC w0 lh Nu.nil ds args->∃x new,vr w0 (lh++new) Nu.nil r x:=λds d p r h M _=>by obtain⟨At,e,hq⟩:=hle hn2 h;exact aiE ds d At r e M hq
def eQ (R0 B:aD):aD:=KZ (λds=>(R0 ds).isSome) R0 B
theorem bD {P:Program} {f:FuncId} {R0 B:aD} (hA:(vP R0).Ok P f) (hB:(vP B).Ok P f):(vP (eQ R0 B)).Ok P f:=GC _ _ _ hA hB
theorem dt {ct:bm} {f:FuncId} {fn:Func} {sf:aO} {ts:List Ty} {raw:List V} {r:V} (hT:aV Tryz.prog BN D7 ct) (hf:Tryz.prog.funcs[f]? = some fn) (W:KL fn sf ts=(false,some sf,true,true)) (h:q9 r (ba JJ ct uB sf (lD ts (au ts raw)))=ba JJ ct uB sf (lD ts (au ts raw))):(vP (gQ [(au ts raw,r)])).Ok Tryz.prog f:=yaQ hT hE hI hf (fE W).1 (fE W).2.1 (fE W).2.2.1 (fE W).2.2.2 h
def asb:bm:=OV
theorem tyU:aV Tryz.prog BN D7 asb:=aoO
def aiT:V:=.sl 2 λ|0=>[D 0]|_=>[D 100]
def akP:V:=.sl 2 λ|0=>[D 100]|_=>[D 300]
def ajp:V:=.sl 2 λ|0=>[D 200]|_=>[D 600]
def hal:V:=.sl 2 λ|0=>[D 700]|_=>[D 700]
def Pi:V:=.str ⟨#[97,115,112,104,97,108,116]⟩
def Pm:V:=.sl 2 λ|0=>[D (-1000)]|_=>[D 1000]
def Af:V:=.sl 2 λ|0=>[D (-5000)]|_=>[D 5000]
def IJ:V:=.sl 2 λ|0=>[D (-8000000)]|_=>[D 8000000]
def aot:V:=.sl 1 λ_=>Jj
def CW:V:=.sl 2 λ|0=>[D (-40000000)]|_=>[D 40000000]
def Gn:V:=.sl 3 λ|0=>[D (-1000)]|1=>[D 0]|_=>[D 2000]
def yG:V:=.sl 3 λ|0=>[D (-8000000)]|1=>[D 0]|_=>[D 16000000]
def Bc:V:=.agg [D (-4000),D (-4000),D 0,D 0]
def AZ:V:=.agg [D (-4000),D 0,D (-4000),D 0]
def AE:V:=.agg [D (-4000),D 4000,D 0,D 8000]
def BW:V:=.agg [D (-4000),D 0,D 4000,D 8000]
def FM:V:=.agg [.str ⟨#[99]⟩,D 0,D 0,D 80,D 0,D 1]
def fs8:V:=.sl 1 λ_=>[.str ⟨#[99]⟩,D 0,D 0,D 80,D 0,D 1]
def Fh:V:=.sl 2 λ|0=>[hal]|_=>[hal]
def afQ:V:=.sl 3 λ|0=>G7|1=>[D 10000,D 0]|_=>[D 10000,D 10000]
def Gl:V:=.sl 3 λ|0=>[akP]|1=>[ajp]|_=>[aiT]
def yaT:V:=.sl 1 λ_=>[.str ⟨#[104,105,103,104]⟩,D 0,afQ,D 4000]
def wG:V:=.sl 1 λ_=>[.str ⟨#[104,101,97,100]⟩,D 0,D 1,D 8000,D 60000,D 500,D 50,D 2,D 4,D 3,D 5,D 100000,D 200,D 0]
def Gd:V:=.agg [yaT,.sl 0 λ_=>[],.sl 0 λ_=>[],fs8]
def aoz:V:=.pd [Pi,Af,Af,Fh,D 0,D 0,CW,CW,D 8000]
def fs7:V:=.agg [Pi,Af,Af,Fh,D 0,D 0,CW,CW,D 8000]
def tN:V:=.pd [.str ⟨#[119,105,100,101]⟩,Gn,Pm,Gl,D 50,D 5,yG,IJ,D 8000]
def ot:V:=.agg [.str ⟨#[119,105,100,101]⟩,Gn,Pm,Gl,D 50,D 5,yG,IJ,D 8000]
def xj:V:=.sl 2 λ|0=>[.str ⟨#[119,105,100,101]⟩,Gn,Pm,Gl,D 50,D 5]|_=>[Pi,Af,Af,Fh,D 0,D 0]
def rm:V:=.agg [xj,wG,D 1,yaT,.sl 0 λ_=>[],.sl 0 λ_=>[],fs8,.sl 1 λ_=>[D 0],aot,D 0,.str ⟨#[99]⟩,D 0,D 0,D 80,D 0,D 1]
def aiR:List Ty:=[.agg al,.agg CE]
def aj8:List Ty:=[.agg [.sl ao,.sl al,tI,.sl aN,.sl L,.sl L,.sl aG,.sl L,.sl CE,tI,.str,tI,tI,tI,tI,tI]]
def Sk:List Ty:=[.agg aK,tI,tI,tI,tI]
def m4:List Ty:=[.agg aK,.sl aK]
def zQ:List Ty:=[.sl L,tI]
def uW:List Ty:=[tI,.pd [.str,.sl L,.sl L,.sl [.sl L],tI,tI,.sl L,.sl L,tI],.pd L,.pd L]
def PC:List Ty:=[.agg [.sl aN,.sl L,.sl L,.sl aG],tI,.agg kp]
def MC:List Ty:=[.agg aG,.agg kp]
def SC:List Ty:=[.agg [.sl ao,.sl al,tI,.sl aN,.sl L,.sl L,.sl aG,.sl L,.sl CE,tI,.str,tI,tI,tI,tI,tI],.agg kp,tI,tI]
def yi:List Ty:=[.agg [.str,.sl L,.sl L,.sl [.sl L],tI,tI,.sl L,.sl L,tI],tI,tI]
def Ca:List Ty:=[.agg [.str,.sl L,.sl L,.sl [.sl L],tI,tI,.sl L,.sl L,tI],.agg kp]
def afD:List Ty:=[.agg [.sl ao,.sl al],tI,.agg kp,tI]
def Gv:List Ty:=[.agg [.sl ao,.sl al],tI,.agg CE,.agg kp,tI]
def EX:List Ty:=[.agg [.sl ao,.sl al,tI,.sl aN,.sl L,.sl L,.sl aG,.sl L,.sl CE,tI,.str,tI,tI,tI,tI,tI],.agg kp,tI]
def ctK:bm:=[(55,.con aoJ),(82,.con evL),(78,.con amO),(79,.con N8),(83,.con Nj),(120,.con LN),(85,.con Rp),(51,.con arh),(52,.con fw9),(59,.con cvB),(61,.con apa),(97,.con asI),(96,.con asH),(119,.con apJ),(49,.conZ Gs hzb),(39,.inl al3 uB),(131,.inl amy uB),(122,.inl amY uB),(67,.inl Yr uB),(156,.inl aa9 uB),(182,.inl Pj uB),(99,.inl H8 uB),(7,.inl frR uB),(11,.inl fb1 uB),(22,.inl fx7 uB),(23,.inl aso uB),(24,.inl Fe uB),(25,.inl ao9 uB),(26,.inl fp4 uB),(27,.inl aft uB),(28,.inl btw uB),(29,.inl ap9 uB),(30,.inl asP uB),(43,.inl aqu uB),(34,.inl ang uB),(37,.inl ybb uB),(45,.inl fe1 uB),(46,.inl asJ uB),(47,.inl aoT uB),(58,.inl aqd uB),(60,.inl asq uB),(62,.inl yaJ uB),(64,.inl ahk uB),(68,.inl asr uB),(69,.inl eqs uB),(70,.inl amG uB),(71,.inl fa2 uB),(73,.inl f14 uB),(84,.inl fe3 uB),(89,.inl aqJ uB),(90,.inl yaL uB),(94,.inl evM uB),(95,.inl FY uB),(98,.inl aoN uB),(116,.inl anp uB),(150,.inl asi uB),(165,.inl arf uB),(166,.inl aqL uB)]
theorem al8:aV Tryz.prog BN D7 ctK:=.con ie4 (.con wOf (.con anD (.con anh (.con fm5 (.con ev2 (.con fc1 (.con x11 (.con is0 (.con ic17 (.con jcg (.con jf5 (.con shA (.con im1 (.conZ m68 (iB Tryz.func39 bw (iB Tryz.func131 bw (iB Tryz.func122 bw (iB Tryz.func67 bw (iB Tryz.func156 bw (iB Tryz.func182 bw (iB Tryz.func99 bw (iB Tryz.func7 bw (iB Tryz.func11 bw (iB Tryz.func22 bw (iB Tryz.func23 bw (iB Tryz.func24 bw (iB Tryz.func25 bw (iB Tryz.func26 bw (iB Tryz.func27 bw (iB Tryz.func28 bw (iB Tryz.func29 bw (iB Tryz.func30 bw (iB Tryz.func43 bw (iB Tryz.func34 bw (iB Tryz.func37 bw (iB Tryz.func45 bw (iB Tryz.func46 bw (iB Tryz.func47 bw (iB Tryz.func58 bw (iB Tryz.func60 bw (iB Tryz.func62 bw (iB Tryz.func64 bw (iB Tryz.func68 bw (iB Tryz.func69 bw (iB Tryz.func70 bw (iB Tryz.func71 bw (iB Tryz.func73 bw (iB Tryz.func84 bw (iB Tryz.func89 bw (iB Tryz.func90 bw (iB Tryz.func94 bw (iB Tryz.func95 bw (iB Tryz.func98 bw (iB Tryz.func116 bw (iB Tryz.func150 bw (iB Tryz.func165 bw (iB Tryz.func166 bw (.nil))))))))))))))))))))))))))))))))))))))))))))))))))))))))))
def hbj:aD:=gQ [(au aiR [.agg [.str ⟨#[104,101,97,100]⟩,D 0,D 1,D 8000,D 60000,D 500,D 50,D 2,D 4,D 3,D 5,D 100000,D 200,D 0],.agg Jj],.agg [D 8000,D 8000])]
theorem aj2:(vP hbj).Ok Tryz.prog 48:=dt (sf:=fu4) al8 Tryz.func48 bw bw
def aiH:bm:=(48,.con hbj)::ctK
theorem C17:aV Tryz.prog BN D7 aiH:=.con aj2 al8
def abt:aD:=gQ [(au aj8 [rm],D 8000)]
theorem aj7:(vP abt).Ok Tryz.prog 56:=dt (sf:=c62) C17 Tryz.func56 bw bw
def aeJ:bm:=(56,.con abt)::aiH
theorem su:aV Tryz.prog BN D7 aeJ:=.con aj7 C17
def R65:aD:=gQ [(au Sk [.agg [D 0,D 1],D (-4000),D 4000,D 0,D 8000],AE)]
theorem nn4:(vP R65).Ok Tryz.prog 66:=dt (sf:=Cw) su Tryz.func66 bw bw
abbrev ID:=[D 0,D 0,D 0,D 0]
def al6:aD:=gQ [(au Sk [.agg [D 0,D 1],D 0,D 0,D 0,D 0],.agg ID)]
theorem x29:(vP al6).Ok Tryz.prog 66:=dt (sf:=Cw) su Tryz.func66 bw bw
def ady:aD:=gQ [(au Sk [.agg [D 0,D 1],D (-4000),D (-4000),D 0,D 0],Bc)]
theorem or2:(vP ady).Ok Tryz.prog 66:=dt (sf:=Cw) su Tryz.func66 bw bw
def acf:aD:=eQ R65 (eQ al6 (ady))
theorem anO:(vP acf).Ok Tryz.prog 66:=bD nn4 (bD x29 (or2))
def aiK:bm:=(66,.con acf)::aeJ
theorem fb:aV Tryz.prog BN D7 aiK:=.con anO su
abbrev Hh:=[D 300,D 300]
abbrev Hn:=[D 300,D 475]
def aeP:aD:=gQ [(au m4 [.agg Hh,.sl 3 λ|0=>[D 450,D 450]|1=>[D 312,D 313]|_=>[D 475,D 475]],.agg Hn)]
theorem m63:(vP aeP).Ok Tryz.prog 87:=dt (sf:=jb) fb Tryz.func87 bw bw
def aio:aD:=gQ [(au m4 [.agg Hn,.sl 1 λ_=>Hh],.agg Hn)]
theorem ih4:(vP aio).Ok Tryz.prog 87:=dt (sf:=jb) fb Tryz.func87 bw bw
def ae5:aD:=gQ [(au m4 [.agg Hn,.sl 1 λ_=>[D 450,D 450]],.agg Hn)]
theorem ih5:(vP ae5).Ok Tryz.prog 87:=dt (sf:=jb) fb Tryz.func87 bw bw
def F24:aD:=gQ [(au m4 [.agg Hn,.sl 1 λ_=>[D 312,D 313]],.agg Hn)]
theorem iu7:(vP F24).Ok Tryz.prog 87:=dt (sf:=jb) fb Tryz.func87 bw bw
def yaH:aD:=gQ [(au m4 [.agg Hn,.sl 1 λ_=>[D 475,D 475]],.agg Hn)]
theorem nnT:(vP yaH).Ok Tryz.prog 87:=dt (sf:=jb) fb Tryz.func87 bw bw
abbrev Hr:=[D 400,D 400]
def afr:aD:=gQ [(au m4 [.agg Hn,.sl 1 λ_=>Hr],.agg Hn)]
theorem ngP:(vP afr).Ok Tryz.prog 87:=dt (sf:=jb) fb Tryz.func87 bw bw
def aiG:aD:=gQ [(au m4 [.agg Hn,.sl 1 λ_=>[D 600,D 600]],.agg [D 300,D 600])]
theorem x24:(vP aiG).Ok Tryz.prog 87:=dt (sf:=jb) fb Tryz.func87 bw bw
def aiN:aD:=gQ [(au m4 [.agg Hr,.sl 3 λ|0=>Hr|1=>Hr|_=>Hr],.agg Hr)]
theorem ic15:(vP aiN).Ok Tryz.prog 87:=dt (sf:=jb) fb Tryz.func87 bw bw
def R55:aD:=gQ [(au m4 [.agg Hr,.sl 1 λ_=>Hr],.agg Hr)]
theorem vwW:(vP R55).Ok Tryz.prog 87:=dt (sf:=jb) fb Tryz.func87 bw bw
abbrev Hi:=[D 700,D 700]
def C62:aD:=gQ [(au m4 [.agg Hi,.sl 3 λ|0=>Hi|1=>Hi|_=>Hi],.agg Hi)]
theorem na4:(vP C62).Ok Tryz.prog 87:=dt (sf:=jb) fb Tryz.func87 bw bw
def C45:aD:=gQ [(au m4 [.agg Hi,.sl 1 λ_=>Hi],.agg Hi)]
theorem ia2:(vP C45).Ok Tryz.prog 87:=dt (sf:=jb) fb Tryz.func87 bw bw
def DJ:aD:=gQ [(au m4 [.agg Hh,.sl 3 λ|0=>Hh|1=>Hh|_=>Hh],.agg Hh)]
theorem i11:(vP DJ).Ok Tryz.prog 87:=dt (sf:=jb) fb Tryz.func87 bw bw
def Dz:aD:=gQ [(au m4 [.agg Hh,.sl 1 λ_=>Hh],.agg Hh)]
theorem hus:(vP Dz).Ok Tryz.prog 87:=dt (sf:=jb) fb Tryz.func87 bw bw
def hci:aD:=eQ aeP (eQ aio (eQ ae5 (eQ F24 (eQ yaH (eQ afr (eQ aiG (eQ aiN (eQ R55 (eQ C62 (eQ C45 (eQ DJ (Dz))))))))))))
theorem ak5:(vP hci).Ok Tryz.prog 87:=bD m63 (bD ih4 (bD ih5 (bD iu7 (bD nnT (bD ngP (bD x24 (bD ic15 (bD vwW (bD na4 (bD ia2 (bD i11 (hus))))))))))))
def SUn:bm:=(87,.con hci)::aiK
theorem lw:aV Tryz.prog BN D7 SUn:=.con ak5 fb
def air:aD:=gQ [(au zQ [yG,D (-4000000)],D 0)]
theorem ng6:(vP air).Ok Tryz.prog 117:=dt (sf:=rr) lw Tryz.func117 bw bw
def aax:aD:=gQ [(au zQ [IJ,D 0],D 0)]
theorem na1:(vP aax).Ok Tryz.prog 117:=dt (sf:=rr) lw Tryz.func117 bw bw
def aiM:aD:=gQ [(au zQ [IJ,D 8000000],D 0)]
theorem sc3:(vP aiM).Ok Tryz.prog 117:=dt (sf:=rr) lw Tryz.func117 bw bw
def acw:aD:=gQ [(au zQ [yG,D 4000000],D 1)]
theorem iw8:(vP acw).Ok Tryz.prog 117:=dt (sf:=rr) lw Tryz.func117 bw bw
def R84:aD:=gQ [(au zQ [yG,D 0],D 1)]
theorem jf3:(vP R84).Ok Tryz.prog 117:=dt (sf:=rr) lw Tryz.func117 bw bw
def afT:aD:=gQ [(au zQ [CW,D 0],D 0)]
theorem if5:(vP afT).Ok Tryz.prog 117:=dt (sf:=rr) lw Tryz.func117 bw bw
def aaK:aD:=eQ air (eQ aax (eQ aiM (eQ acw (eQ R84 (afT)))))
theorem an4:(vP aaK).Ok Tryz.prog 117:=bD ng6 (bD na1 (bD sc3 (bD iw8 (bD jf3 (if5)))))
def adY:bm:=(117,.con aaK)::SUn
theorem ja:aV Tryz.prog BN D7 adY:=.con an4 lw
def C90:aD:=gQ [(au uW [D 0,tN,.pd [D 0],.pd [D 0]],.agg [D 200,D 200])]
theorem x18:(vP C90).Ok Tryz.prog 118:=dt (sf:=nO) ja Tryz.func118 bw bw
def aiA:aD:=gQ [(au uW [D 1,tN,.pd [D 0],.pd [D 0]],.agg Hr)]
theorem lfL:(vP aiA).Ok Tryz.prog 118:=dt (sf:=nO) ja Tryz.func118 bw bw
def R67:aD:=gQ [(au uW [D 0,tN,.pd [D 0],.pd [D 8000000]],.agg Hh)]
theorem iz9:(vP R67).Ok Tryz.prog 118:=dt (sf:=nO) ja Tryz.func118 bw bw
def C69:aD:=gQ [(au uW [D 1,tN,.pd [D 0],.pd [D 8000000]],.agg [D 600,D 600])]
theorem ov2:(vP C69).Ok Tryz.prog 118:=dt (sf:=nO) ja Tryz.func118 bw bw
def ahs:aD:=gQ [(au uW [D 2,tN,.pd [D 0],.pd [D 0]],.agg [D 50,D 50])]
theorem jf1:(vP ahs).Ok Tryz.prog 118:=dt (sf:=nO) ja Tryz.func118 bw bw
def F73:aD:=gQ [(au uW [D 2,tN,.pd [D 0],.pd [D 8000000]],.agg [D 100,D 100])]
theorem vw9:(vP F73).Ok Tryz.prog 118:=dt (sf:=nO) ja Tryz.func118 bw bw
def ago:aD:=gQ [(au uW [D 0,aoz,.pd [D 0],.pd [D 0]],.agg Hi)]
theorem nz1:(vP ago).Ok Tryz.prog 118:=dt (sf:=nO) ja Tryz.func118 bw bw
def C68:aD:=gQ [(au uW [D 1,aoz,.pd [D 0],.pd [D 0]],.agg Hi)]
theorem ip8:(vP C68).Ok Tryz.prog 118:=dt (sf:=nO) ja Tryz.func118 bw bw
def aaf:aD:=eQ C90 (eQ aiA (eQ R67 (eQ C69 (eQ ahs (eQ F73 (eQ ago (C68)))))))
theorem alC:(vP aaf).Ok Tryz.prog 118:=bD x18 (bD lfL (bD iz9 (bD ov2 (bD jf1 (bD vw9 (bD nz1 (ip8)))))))
def C66:bm:=(118,.con aaf)::adY
theorem sG:aV Tryz.prog BN D7 C66:=.con alC ja
def aav:aD:=gQ [(au PC [Gd,D 0,BW],.tup G7)]
theorem aj9:(vP aav).Ok Tryz.prog 93:=dt (sf:=Tw) sG Tryz.func93 bw bw
def hbs:aD:=gQ [(au PC [Gd,D 0,.agg ID],.tup G7)]
theorem alx:(vP hbs).Ok Tryz.prog 93:=dt (sf:=Tw) sG Tryz.func93 bw bw
def abY:aD:=gQ [(au PC [Gd,D 0,AZ],.tup G7)]
theorem amr:(vP abY).Ok Tryz.prog 93:=dt (sf:=Tw) sG Tryz.func93 bw bw
def K17:aD:=eQ aav (eQ hbs (abY))
theorem fx13:(vP K17).Ok Tryz.prog 93:=bD aj9 (bD alx (amr))
def aac:bm:=(93,.con K17)::C66
theorem AV:aV Tryz.prog BN D7 aac:=.con fx13 sG
def ack:aD:=gQ [(au MC [FM,BW],AE)]
theorem lst:(vP ack).Ok Tryz.prog 44:=dt (sf:=Cy) AV Tryz.func44 bw bw
def aic:aD:=gQ [(au MC [FM,.agg ID],.agg ID)]
theorem iy8:(vP aic).Ok Tryz.prog 44:=dt (sf:=Cy) AV Tryz.func44 bw bw
def C86:aD:=gQ [(au MC [FM,AZ],Bc)]
theorem io5:(vP C86).Ok Tryz.prog 44:=dt (sf:=Cy) AV Tryz.func44 bw bw
def ab0:aD:=eQ ack (eQ aic (C86))
theorem aiU:(vP ab0).Ok Tryz.prog 44:=bD lst (bD iy8 (io5))
def R56:bm:=(44,.con ab0)::aac
theorem sr:aV Tryz.prog BN D7 R56:=.con aiU AV
def S62:aD:=gQ [(au SC [rm,BW,D 11,D 75],.agg [D 11,D 75])]
theorem nc2:(vP S62).Ok Tryz.prog 63:=dt (sf:=Bv) sr Tryz.func63 bw bw
def yaF:aD:=gQ [(au SC [rm,.agg ID,D 3500,D 3500],.agg [D 3500,D 3500])]
theorem ne1:(vP yaF).Ok Tryz.prog 63:=dt (sf:=Bv) sr Tryz.func63 bw bw
def akV:aD:=gQ [(au SC [rm,AZ,D 26,D 27],.agg [D 26,D 27])]
theorem ie3:(vP akV).Ok Tryz.prog 63:=dt (sf:=Bv) sr Tryz.func63 bw bw
def aao:aD:=eQ S62 (eQ yaF (akV))
theorem aiZ:(vP aao).Ok Tryz.prog 63:=bD nc2 (bD ne1 (ie3))
def amE:bm:=(63,.con aao)::R56
theorem jZ:aV Tryz.prog BN D7 amE:=.con aiZ sr
def acS:aD:=gQ [(au yi [ot,D (-4000000),D 0],.agg Hh)]
theorem if7:(vP acS).Ok Tryz.prog 88:=dt (sf:=pD) jZ Tryz.func88 bw bw
def alS:aD:=gQ [(au yi [ot,D (-4000000),D 8000000],.agg [D 450,D 450])]
theorem ig0:(vP alS).Ok Tryz.prog 88:=dt (sf:=pD) jZ Tryz.func88 bw bw
def aiF:aD:=gQ [(au yi [ot,D 4000000,D 0],.agg [D 312,D 313])]
theorem jf9:(vP aiF).Ok Tryz.prog 88:=dt (sf:=pD) jZ Tryz.func88 bw bw
def af5:aD:=gQ [(au yi [ot,D 4000000,D 8000000],.agg [D 475,D 475])]
theorem rts:(vP af5).Ok Tryz.prog 88:=dt (sf:=pD) jZ Tryz.func88 bw bw
def CvN:aD:=gQ [(au yi [ot,D 0,D 0],.agg Hr)]
theorem iz2:(vP CvN).Ok Tryz.prog 88:=dt (sf:=pD) jZ Tryz.func88 bw bw
def C84:aD:=gQ [(au yi [ot,D 0,D 8000000],.agg [D 600,D 600])]
theorem nn3:(vP C84).Ok Tryz.prog 88:=dt (sf:=pD) jZ Tryz.func88 bw bw
def R48:aD:=gQ [(au yi [fs7,D 0,D 0],.agg Hi)]
theorem tnF:(vP R48).Ok Tryz.prog 88:=dt (sf:=pD) jZ Tryz.func88 bw bw
def acd:aD:=eQ acS (eQ alS (eQ aiF (eQ af5 (eQ CvN (eQ C84 (R48))))))
theorem ajm:(vP acd).Ok Tryz.prog 88:=bD if7 (bD ig0 (bD jf9 (bD rts (bD iz2 (bD nn3 (tnF))))))
def aeL:bm:=(88,.con acd)::amE
theorem oR:aV Tryz.prog BN D7 aeL:=.con ajm jZ
def afL:aD:=gQ [(au Ca [ot,AE],.agg [D 300,D 600])]
theorem nw3:(vP afL).Ok Tryz.prog 50:=dt (sf:=xh) oR Tryz.func50 bw bw
def agE:aD:=gQ [(au Ca [ot,.agg ID],.agg Hr)]
theorem yaP:(vP agE).Ok Tryz.prog 50:=dt (sf:=xh) oR Tryz.func50 bw bw
def R85:aD:=gQ [(au Ca [fs7,.agg ID],.agg Hi)]
theorem swF:(vP R85).Ok Tryz.prog 50:=dt (sf:=xh) oR Tryz.func50 bw bw
def C56:aD:=gQ [(au Ca [ot,Bc],.agg Hh)]
theorem iy7:(vP C56).Ok Tryz.prog 50:=dt (sf:=xh) oR Tryz.func50 bw bw
def abS:aD:=eQ afL (eQ agE (eQ R85 (C56)))
theorem ak2:(vP abS).Ok Tryz.prog 50:=bD nw3 (bD yaP (bD swF (iy7)))
def C57:bm:=(50,.con abS)::aeL
theorem DG:aV Tryz.prog BN D7 C57:=.con ak2 oR
def he1:aD:=gQ [(au afD [.agg [xj,wG],D 1,.agg ID,D 8000],.tup [.agg Hi,D 0])]
theorem aoj:(vP he1).Ok Tryz.prog 65:=dt (sf:=asu) DG Tryz.func65 bw bw
def R99:bm:=(65,.con he1)::C57
theorem sQ:aV Tryz.prog BN D7 R99:=.con aoj DG
def C85:aD:=gQ [(au Gv [.agg [xj,wG],D 0,.agg Jj,AE,D 8000],.tup [.agg [D 2400,D 4800],D 0])]
theorem okN:(vP C85).Ok Tryz.prog 19:=dt (sf:=Bz) sQ Tryz.func19 bw bw
def Tou:aD:=gQ [(au Gv [.agg [xj,wG],D 0,.agg Jj,.agg ID,D 8000],.tup [.agg [D 3200,D 3200],D 0])]
theorem ix8:(vP Tou).Ok Tryz.prog 19:=dt (sf:=Bz) sQ Tryz.func19 bw bw
def Run:aD:=gQ [(au Gv [.agg [xj,wG],D 0,.agg Jj,Bc,D 8000],.tup [.agg [D 2400,D 2400],D 0])]
theorem nx6:(vP Run).Ok Tryz.prog 19:=dt (sf:=Bz) sQ Tryz.func19 bw bw
def abR:aD:=eQ C85 (eQ Tou (Run))
theorem akR:(vP abR).Ok Tryz.prog 19:=bD okN (bD ix8 (nx6))
def aiI:bm:=(19,.con abR)::R99
theorem tf:aV Tryz.prog BN D7 aiI:=.con akR sQ
def R90:aD:=gQ [(au EX [rm,BW,D 8000],.agg [D 2400,D 4800])]
theorem im6:(vP R90).Ok Tryz.prog 57:=dt (sf:=AC) tf Tryz.func57 bw bw
def yaG:aD:=gQ [(au EX [rm,.agg ID,D 8000],.agg [D 3200,D 3200])]
theorem ie8:(vP yaG).Ok Tryz.prog 57:=dt (sf:=AC) tf Tryz.func57 bw bw
def aiz:aD:=gQ [(au EX [rm,AZ,D 8000],.agg [D 2400,D 2400])]
theorem ix1:(vP aiz).Ok Tryz.prog 57:=dt (sf:=AC) tf Tryz.func57 bw bw
def abr:aD:=eQ R90 (eQ yaG (aiz))
theorem alf:(vP abr).Ok Tryz.prog 57:=bD im6 (bD ie8 (ix1))
def iz0:bm:=(57,.con abr)::aiI
theorem hvj:aV Tryz.prog BN D7 iz0:=.con alf tf
def ab1:aD:=cK [] (λ_=>True) λ_=>.bool true
theorem ad5:(vP ab1).Ok Tryz.prog 8:=F8 (J:=JJ) (un:=uB) (sf:=af7) hvj hE hI Tryz.func8 bw bw bw rfl (λw0 ds hp=>yP bw)
def Jt:bm:=asb
theorem Fa:aV Tryz.prog BN D7 Jt:=tyU
def acb:RT Empty:=.obt (.ret (D (I (R+I ((I (I (S-R)*I Z)).tdiv 255)))))
theorem if6:dZ d7 (ba JJ Jt u0 agj [D R,D S,V.int u8 Z]) (acb R S Z):=cG
def ac:Int:=I (R+I ((I (I (S-R)*I Z)).tdiv 255))
def Md:V:=D (ac R S Z)
theorem afY:a6 dK (acb R S Z) (Md R S Z):=ak (aA (by unfold Md ac;rfl))
def hbw:aD:=cK [tI,tI,.int .u8] (λ_=>True) λ|[.int _ R,.int _ S,.int _ Z]=>Md R S Z|_=>.any
theorem aep:c7 hbw 9:=bo Fa λ_ hp=>er (if6 ..) (afY _ _ _)
def abo:RT Empty:=.iv (.iv (.iv (.ii (.obi (.ret (V.bool (bif bif bif decide (R<=x3) then decide (Z<=S) else false then decide (R<=S) else false then decide (Z<=x3) else false)))))))
theorem rdT:dZ d7 (ba JJ Jt u0 acN [V.agg [D R,D S],V.agg [D Z,D x3]]) (abo R S Z x3):=cG
def fD:Bool:=bif bif bif decide (R<=x3) then decide (Z<=S) else false then decide (R<=S) else false then decide (Z<=x3) else false
def N9:V:=.bool (fD R S Z x3)
theorem ahb:a6 dK (abo R S Z x3) (N9 R S Z x3):=BK (BK (BK (BK (BK (BK (BK (BK (BK (BK (BK (BK (BK (BK (BK (aA (by unfold N9 fD;rfl))))))))))))))))
def fz6:aD:=cK [.agg aK,.agg aK] (λ_=>True) λ|[.agg [.int _ R,.int _ S],.agg [.int _ Z,.int _ x3]]=>N9 R S Z x3|_=>.any
theorem aea:c7 fz6 10:=bo Fa λ_ hp=>er (rdT ..) (ahb _ _ _ _)
end
end Go.Dx
namespace Go.Dx
open Go.IntKind (i64 u64 u8)
noncomputable section
def LF (R0 B C AT u v:Int):Int:=R0+B*u+(C+AT*u)*v
theorem fd9 {R0 B p At u:Int} (h:p<=u) (k:u<=At):R0+B*p<=R0+B*u∨R0+B*At<=R0+B*u:=by
 rcases I9 0 B with b|b
 ·exact .inl (by have:=oo h b;omega)
 ·exact .inr (by have:=Om b k;omega)
theorem fc5 {R0 B p At u:Int} (h:p<=u) (k:u<=At):R0+B*u<=R0+B*p∨R0+B*u<=R0+B*At:=by
 rcases I9 0 B with b|b
 ·exact .inr (by have:=oo k b;omega)
 ·exact .inl (by have:=Om b h;omega)
theorem oQ (R0 B C AT u v:Int):LF R0 B C AT u v=(R0+C*v)+(B+AT*v)*u:=by unfold LF;grind
section
variable {R0 B C AT p At r s u v:Int} (M:p<=u) (N:u<=At) (h3:r<=v) (h4:v<=s)
include R0 B C AT p At r s u v M N h3 h4
theorem aeq:∃ x y,(x=p∨x=At)/\(y=r∨y=s)/\LF R0 B C AT x y<=LF R0 B C AT u v:=by
 have e1:∃ x,(x=p∨x=At)/\LF R0 B C AT x v<=LF R0 B C AT u v:=by
  rcases fd9 (R0:=R0+C*v) (B:=B+AT*v) M N with h|h
  ·exact⟨p,.inl rfl,by rw[oQ,oQ];exact h⟩
  ·exact⟨At,.inr rfl,by rw[oQ,oQ];exact h⟩
 obtain⟨x,hx,e1⟩:=e1;rcases fd9 (R0:=R0+B*x) (B:=C+AT*x) h3 h4 with h|h
 ·exact⟨x,r,hx,.inl rfl,Fg h e1⟩
 ·exact⟨x,s,hx,.inr rfl,Fg h e1⟩
theorem ahm:∃ x y,(x=p∨x=At)/\(y=r∨y=s)/\LF R0 B C AT u v<=LF R0 B C AT x y:=by
 have e1:∃ x,(x=p∨x=At)/\LF R0 B C AT u v<=LF R0 B C AT x v:=by
  rcases fc5 (R0:=R0+C*v) (B:=B+AT*v) M N with h|h
  ·exact⟨p,.inl rfl,by rw[oQ,oQ];exact h⟩
  ·exact⟨At,.inr rfl,by rw[oQ,oQ];exact h⟩
 obtain⟨x,hx,e1⟩:=e1;rcases fc5 (R0:=R0+B*x) (B:=C+AT*x) h3 h4 with h|h
 ·exact⟨x,r,hx,.inl rfl,Fg e1 h⟩
 ·exact⟨x,s,hx,.inr rfl,Fg e1 h⟩
end
def cell (x y z w a b c d u v:Int):Int:=(x*(d-v)+y*(v-c))*(b-u)+(z*(d-v)+w*(v-c))*(u-a)
theorem sV (x y z w a b c d u v:Int):cell x y z w a b c d u v=LF ((x*d-y*c)*b-(z*d-w*c)*a) ((z*d-w*c)-(x*d-y*c)) ((y-x)*b-(w-z)*a) ((w-z)-(y-x)) u v:=by unfold cell LF;grind
theorem ntF {x y z w a b c d u v s t r:Int} (hs:s*(d-c)<=x*(d-v)+y*(v-c)) (ht:t*(d-c)<=z*(d-v)+w*(v-c)) (hr:r*(b-a)<=s*(b-u)+t*(u-a)) (M:a<=u) (N:u<=b) (h3:c<=d) :
 r*((b-a)*(d-c))<=cell x y z w a b c d u v:=by
 have k1:=Fq hs (show 0<=b-u by omega);have k2:=Fq ht (show 0<=u-a by omega);have k3:=Fq hr (show 0<=d-c by omega);unfold cell;have e1:r*((b-a)*(d-c))=r*(b-a)*(d-c):=by grind
 have e2:(s*(b-u)+t*(u-a))*(d-c)=s*(d-c)*(b-u)+t*(d-c)*(u-a):=by grind
 rw[e1];rw[e2]at k3;omega
theorem x10 {x y z w a b c d u v s t r:Int} (hs:x*(d-v)+y*(v-c)<=s*(d-c)) (ht:z*(d-v)+w*(v-c)<=t*(d-c)) (hr:s*(b-u)+t*(u-a)<=r*(b-a)) (M:a<=u) (N:u<=b) (h3:c<=d) :
 cell x y z w a b c d u v<=r*((b-a)*(d-c)):=by
 have k1:=Fq hs (show 0<=b-u by omega);have k2:=Fq ht (show 0<=u-a by omega);have k3:=Fq hr (show 0<=d-c by omega);unfold cell;have e1:r*((b-a)*(d-c))=r*(b-a)*(d-c):=by grind
 have e2:(s*(b-u)+t*(u-a))*(d-c)=s*(d-c)*(b-u)+t*(d-c)*(u-a):=by grind
 rw[e1];rw[e2]at k3;omega
end
end Go.Dx
namespace Go.Dx
open Go.IntKind (i64 u64 u8)
open Go.Sx Go.Proofs
variable (R S Z x3 O x5:Int)
noncomputable section
section
variable {a b:Int} (hb:0<b) (M:-4000000000000000000<=a) (N:a<=4000000000000000000)
include a b hb M N
theorem A6:bE a b=a / b:=by
 have e:=Int.mul_ediv_add_emod a b;have r1:=Int.emod_nonneg a (by omega:b≠0);have r2:=Int.emod_lt_of_pos a hb;have bd:=Cg hb M N;unfold bE;rcases I9 0 a with h|h
 ·rw[eZ (by have:=Int.tmod_nonneg b h;omega),cond_false,ML h,D5 E E]
 ·obtain ⟨n,rfl⟩:∃ n,a=-n:=⟨-a,E⟩
  have hn:0<=n:=by omega
  have en:=Int.mul_ediv_add_emod n b;have q1:=Int.emod_nonneg n (by omega:b≠0);have q2:=Int.emod_lt_of_pos n hb;have izb11:=Cg (n:=n) (B:=4000000000000000000) hb E E;rw[Int.neg_tmod,Int.neg_tdiv,ML hn,Int.tmod_eq_emod_of_nonneg hn,D5 (x:=-(n / b)) E E];by_cases At:n % b=0
  ·rw[At,eZ E,cond_false];refine(apR hb (r:=0) ?_ (Ep _) hb).symm;rw[JH];omega
  ·rw[BH E,cond_true,D5 E E]
   refine(apR hb (r:=b-n % b) ?_ E E).symm;have:b*(-(n / b)-1)=-(b*(n / b))-b:=by rw[Int.mul_sub,JH,Jv]
   rw[this];omega
theorem sZ:bE a b*b<=a/\a<bE a b*b+b:=by rw[A6 hb M N,Int.mul_comm];have e:=Int.mul_ediv_add_emod a b;have r1:=Int.emod_nonneg a (by omega:b≠0);have r2:=Int.emod_lt_of_pos a hb;omega
theorem lV:a<=bF a b*b/\bF a b*b<a+b:=by unfold bF;rw[D5 (x:=0-a) E E];have k:=sZ (a:=0-a) hb E E;have bd:=Cg (n:=0-a) (B:=4000000000000000000) hb E E;rw[← A6 hb E E]at bd;rw[D5 (x:=0-bE (0-a) b) E E,Int.sub_mul,Int.zero_mul];omega
end
section
variable {x y a b n:Int} (Sq:a<b) (ha:-200000000<=a/\a<=200000000) (hb:-200000000<=b/\b<=200000000) (hn:a<=n/\n<=b) (hx:0<=x/\x<=1000000000) (hy:0<=y/\y<=1000000000)
include x y a b n Sq ha hb hn hx hy
theorem NG :
 ip x y a b n*(b-a)<=x*(b-n)+y*(n-a)/\0<=ip x y a b n/\ip x y a b n<=1000000000:=by
 have k1:=zN (x:=x) (p:=b-n) (R0:=1000000000) (B:=400000000) E E E E;have k2:=zN (x:=y) (p:=n-a) (R0:=1000000000) (B:=400000000) E E E E;have z1:=fW hx.1 (show 0<=b-n by omega);have z2:=fW hy.1 (show 0<=n-a by omega);have u1:=Fq hx.2 (show 0<=b-n by omega);have u2:=Fq hy.2 (show 0<=n-a by omega);unfold ip;rw[D5 (x:=b-n) E E,D5 (x:=n-a) E E,D5 (x:=b-a) E E,D5 (x:=x*(b-n)) E E,D5 (x:=y*(n-a)) E E,D5 E E];have f:=sZ (a:=x*(b-n)+y*(n-a)) (b:=b-a) E E E;refine⟨f.1,?_,?_⟩
 ·rw[A6 E E E];exact Int.ediv_nonneg E E
 ·rw[A6 E E E];exact JA (Int.ediv_lt_of_lt_mul E E)
theorem Ss :
 x*(b-n)+y*(n-a)<=fy x y a b n*(b-a)/\0<=fy x y a b n/\fy x y a b n<=1000000000:=by
 have k1:=zN (x:=x) (p:=b-n) (R0:=1000000000) (B:=400000000) E E E E;have k2:=zN (x:=y) (p:=n-a) (R0:=1000000000) (B:=400000000) E E E E;have z1:=fW hx.1 (show 0<=b-n by omega);have z2:=fW hy.1 (show 0<=n-a by omega);have u1:=Fq hx.2 (show 0<=b-n by omega);have u2:=Fq hy.2 (show 0<=n-a by omega);unfold fy;rw[D5 (x:=b-n) E E,D5 (x:=n-a) E E,D5 (x:=b-a) E E,D5 (x:=x*(b-n)) E E,D5 (x:=y*(n-a)) E E,D5 E E];have f:=lV (a:=x*(b-n)+y*(n-a)) (b:=b-a) E E E;refine⟨f.1,?_,?_⟩
 ·have:0<=bF (x*(b-n)+y*(n-a)) (b-a)*(b-a):=by omega
  exact HT (by omega:0*(b-a)<=_) (by omega:0<b-a)
 ·have h:bF (x*(b-n)+y*(n-a)) (b-a)*(b-a)<1000000001*(b-a):=by omega
  exact JA (Jh h E)
end
def tU (f:bk) (Qa:Int) (i:Nat):Int:=aE (f i)*Qa
section
variable {n:Nat} {f:bk} {Qa:Int} (u:fV n f) (hn:2<=n/\n<=12) (hH:1<=Qa/\Qa<=30000)
include u hn hH
theorem lW (i:Nat) (hi:i+1<n):tU f Qa i<tU f Qa (i+1):=by have h:=acg u hn hH i hi;rw[(gI u hn hH i E).1,(gI u hn hH (i+1) hi).1]at h;exact h
theorem ab2:∀a b:Nat,a<b->b<n->tU f Qa a<tU f Qa b:=Sa (f:=tU f Qa) (lW u hn hH)
theorem Fc {x:Int} (hx:tU f Qa 0<=x/\x<=tU f Qa (n-1)):∃ i:Nat,aT n (A L (A L (bp f Qa))) x=(i:Int)/\i+1<n/\tU f Qa i<=x/\x<=tU f Qa (i+1)/\∀ j:Nat,j+1<n->tU f Qa j<=x->x<=tU f Qa (j+1)->i=j∨(i=j+1/\x=tU f Qa (j+1)):=by
 have b0:=(gI u hn hH 0 E).2;have b1:=(gI u hn hH (n-1) E).2;have TI:-200000000<=x/\x<=200000000:=by have M:tU f Qa 0=aE (f 0)*Qa:=rfl;have N:tU f Qa (n-1)=aE (f (n-1))*Qa:=rfl;omega
 have hb:=xP (f:=λk=>I (aE (f k)*Qa)) (t:=x+1) (n:=n) (Sa (acg u hn hH)) n 0 n E E (Em _) (λa ha=>absurd ha (IG a)) (λa M N=>by omega);have e:Iq n (A L (A L (A L (bp f Qa)))) (x+1)=EU (λk=>I (aE (f k)*Qa)) (x+1) n 0 n:=rfl;revert hb e;generalize EU (λk=>I (aE (f k)*Qa)) (x+1) n 0 n=r;intro hb e;have key:∀a,a<n->(tU f Qa a<=x↔a<r):=λa ha=>by rw[← hb.2 a ha];show _↔I (aE (f a)*Qa)<x+1;rw[(gI u hn hH a ha).1];show aE (f a)*Qa<=x↔_;omega
 have r0:0<r:=(key 0 E).1 hx.1;have nzb13:=hb.1;unfold aT jO;rw[D5 (x:=x+1) E E,e,D5 (x:=(n:Int)-2) E E,D5 (x:=(r:Int)-1) E E];refine⟨min (r-1) (n-2),E,E,(key _ E).2 E,?_,?_⟩
 ·by_cases h:r<=n-1
  ·rw[show min (r-1) (n-2)+1=r by omega];have:¬tU f Qa r<=x:=λh=>Nat.lt_irrefl r ((key r E).1 h);omega
  ·rw[show min (r-1) (n-2)+1=n-1 by omega];exact hx.2
 ·intro j hj M N
  have j1:=(key j E).1 M;by_cases h:j+1<r
  ·have h3:=(key (j+1) hj).2 h
   by_cases At:j+2<n
   ·have k:=ab2 u hn hH (j+1) (j+2) E At
    have h5:¬j+2<r:=λh=>by have:=(key (j+2) At).2 h;omega
    right;exact⟨E,E⟩
   ·left;omega
  ·left;omega
end
def wV (w:bk) (i k:Nat):Int:=aE (du (aM (w i)) k)
def BY (n m:Nat) (w:bk):Prop:=∀i,i<n->∀k,k<m->0<=wV w i k/\wV w i k<=1000000000
theorem anT {s x y z a b c d v:Int} (h:s*(d-c)<=y*(d-v)+z*(v-c)) (e:v=c) (hd:c<d) (hb:a<=c):s*(c-a)<=x*(c-v)+y*(v-a):=by subst e;rw[IZ,HJ,JK]at h;rw[IZ,HJ,Int.zero_add];exact Fq (HT h E) E
theorem amg {s x y z a b c d v:Int} (h:y*(d-v)+z*(v-c)<=s*(d-c)) (e:v=c) (hd:c<d) (hb:a<=c):x*(c-v)+y*(v-a)<=s*(c-a):=by subst e;rw[IZ,HJ,JK]at h;rw[IZ,HJ,Int.zero_add];exact Fq (HT h E) E
section
variable {n:Nat} {f:bk} {m:Nat} {g:bk} {w:bk} {Qa:Int} (hu:fV n f) (U:fV m g) (hn:2<=n/\n<=12) (hm:2<=m/\m<=12) (hH:1<=Qa/\Qa<=30000) (hw:BY n m w)
include U hm hH hw
theorem pW {b:Int} {i K k0:Nat} (hi:i<n) (hK:K+1<m) (W:k0+1<m) (M:tU g Qa K<=b) (N:b<=tU g Qa (K+1)) (hs:K=k0∨(K=k0+1/\b=tU g Qa (k0+1))) :
 (gL (i:Int) (A [Ty.sl L] w) (A L (A L (bp g Qa))) (K:Int) b*(tU g Qa (k0+1)-tU g Qa k0)<=wV w i k0*(tU g Qa (k0+1)-b)+wV w i (k0+1)*(b-tU g Qa k0)/\0<=gL (i:Int) (A [Ty.sl L] w) (A L (A L (bp g Qa))) (K:Int) b/\gL (i:Int) (A [Ty.sl L] w) (A L (A L (bp g Qa))) (K:Int) b<=1000000000) /\
 wV w i k0*(tU g Qa (k0+1)-b)+wV w i (k0+1)*(b-tU g Qa k0)<=fB (i:Int) (A [Ty.sl L] w) (A L (A L (bp g Qa))) (K:Int) b*(tU g Qa (k0+1)-tU g Qa k0)/\0<=fB (i:Int) (A [Ty.sl L] w) (A L (A L (bp g Qa))) (K:Int) b/\fB (i:Int) (A [Ty.sl L] w) (A L (A L (bp g Qa))) (K:Int) b<=1000000000:=by
 have tK:=gI U hm hH K E;have tK1:=gI U hm hH (K+1) hK;have up:=lW U hm hH K hK;have upk:=lW U hm hH k0 W;have e0:gL (i:Int) (A [Ty.sl L] w) (A L (A L (bp g Qa))) (K:Int) b=ip (wV w i K) (wV w i (K+1)) (tU g Qa K) (tU g Qa (K+1)) b:=by unfold gL;rw[D5 (x:=(K:Int)+1) E E,show((K:Int)+1).toNat=K+1 by omega,GR,GR];show ip (wV w i K) (wV w i (K+1)) (I (aE (g K)*Qa)) (I (aE (g (K+1))*Qa)) b=_;rw[tK.1,tK1.1];rfl
 have e1:fB (i:Int) (A [Ty.sl L] w) (A L (A L (bp g Qa))) (K:Int) b=fy (wV w i K) (wV w i (K+1)) (tU g Qa K) (tU g Qa (K+1)) b:=by unfold fB;rw[D5 (x:=(K:Int)+1) E E,show((K:Int)+1).toNat=K+1 by omega,GR,GR];show fy (wV w i K) (wV w i (K+1)) (I (aE (g K)*Qa)) (I (aE (g (K+1))*Qa)) b=_;rw[tK.1,tK1.1];rfl
 have m64:-200000000<=tU g Qa K/\tU g Qa K<=200000000:=by have h:tU g Qa K=aE (g K)*Qa:=rfl;omega
 have bK1:-200000000<=tU g Qa (K+1)/\tU g Qa (K+1)<=200000000:=by have h:tU g Qa (K+1)=aE (g (K+1))*Qa:=rfl;omega
 have lo:=NG up m64 bK1 ⟨M,N⟩ (hw i hi K E) (hw i hi (K+1) hK);have Rk:=Ss up m64 bK1 ⟨M,N⟩ (hw i hi K E) (hw i hi (K+1) hK);rw[e0,e1];refine⟨⟨?_,lo.2⟩,?_,Rk.2⟩
 ·rcases hs with rfl|⟨rfl,e⟩
  ·exact lo.1
  ·exact anT (b:=0) lo.1 e up E
 ·rcases hs with rfl|⟨rfl,e⟩
  ·exact Rk.1
  ·exact amg (b:=0) Rk.1 e up E
end
theorem ip1 {r s t p At u x y z w a b c d v:Int} (h:r*(At-p)<=s*(At-u)+t*(u-p)) (e:u=p) (hq:p<At) (e2:u=b) (hs:s*(d-c)<=z*(d-v)+w*(v-c)) (Sq:a<=b) (io14:c<=d):r*((b-a)*(d-c))<=cell x y z w a b c d u v:=by
 subst e;rw[IZ,HJ,JK]at h;have hr:r<=s:=HT h E;subst e2;unfold cell;rw[IZ,HJ,Int.zero_add];have k1:=Fq hs (show 0<=u-a by omega);have k2:=Fq hr (fW (show 0<=u-a by omega) (show 0<=d-c by omega));have e3:s*((u-a)*(d-c))=s*(d-c)*(u-a):=by grind
 omega
theorem jf7 {r s t p At u x y z w a b c d v:Int} (h:s*(At-u)+t*(u-p)<=r*(At-p)) (e:u=p) (hq:p<At) (e2:u=b) (hs:z*(d-v)+w*(v-c)<=s*(d-c)) (Sq:a<=b) (io14:c<=d):cell x y z w a b c d u v<=r*((b-a)*(d-c)):=by
 subst e;rw[IZ,HJ,JK]at h;have hr:s<=r:=HT h E;subst e2;unfold cell;rw[IZ,HJ,Int.zero_add];have k1:=Fq hs (show 0<=u-a by omega);have k2:=Fq hr (fW (show 0<=u-a by omega) (show 0<=d-c by omega));have e3:s*((u-a)*(d-c))=s*(d-c)*(u-a):=by grind
 omega
section
variable {n:Nat} {f:bk} {m:Nat} {g:bk} {w:bk} {Qa:Int} (hu:fV n f) (U:fV m g) (hn:2<=n/\n<=12) (hm:2<=m/\m<=12) (hH:1<=Qa/\Qa<=30000) (hw:BY n m w)
section
variable (hu:fV n f) (hn:2<=n/\n<=12) (hH:1<=Qa/\Qa<=30000) {i:Nat}
include hu hn hH i
theorem uZ {j:Nat} (h:i<=j) (hj:j<n):tU f Qa i<=tU f Qa j:=by
 rcases Nat.lt_or_eq_of_le h with h|rfl
 ·exact G0 (ab2 hu hn hH i j h hj)
 ·exact Ep _
theorem vu (h:i<n):-200000000<=tU f Qa i/\tU f Qa i<=200000000:=by have k:=gI hu hn hH i h;have e:tU f Qa i=aE (f i)*Qa:=rfl;omega
end
include hu U hn hm hH
theorem AN {a b:Int}:bg n (A L (A L (bp f Qa))) m (A L (A L (bp g Qa))) a b=true↔(tU f Qa 0<=a/\a<=tU f Qa (n-1))/\tU g Qa 0<=b/\b<=tU g Qa (m-1):=by unfold bg aw;show(bif(bif decide (I (aE (f 0)*Qa)<=a) then decide (a<=I (aE (f (I ((n:Int)-1)).toNat)*Qa)) else false) then(bif decide (I (aE (g 0)*Qa)<=b) then decide (b<=I (aE (g (I ((m:Int)-1)).toNat)*Qa)) else false) else false)=true↔_;rw[D5 (x:=(n:Int)-1) E E,D5 (x:=(m:Int)-1) E E,show((n:Int)-1).toNat=n-1 by omega,show((m:Int)-1).toNat=m-1 by omega];rw[(gI hu hn hH 0 E).1,(gI hu hn hH (n-1) E).1,(gI U hm hH 0 E).1,(gI U hm hH (m-1) E).1];show(bif(bif decide (tU f Qa 0<=a) then decide (a<=tU f Qa (n-1)) else false) then(bif decide (tU g Qa 0<=b) then decide (b<=tU g Qa (m-1)) else false) else false)=true↔_;by_cases M:tU f Qa 0<=a<;>by_cases N:a<=tU f Qa (n-1)<;>by_cases h3:tU g Qa 0<=b<;>by_cases h4:b<=tU g Qa (m-1)<;>simp[M,N,h3,h4]
include hw
theorem aeC {a b side:Int} {i0 k0:Nat} (hi:i0+1<n) (W:k0+1<m) (ha:tU f Qa i0<=a/\a<=tU f Qa (i0+1)) (hb:tU g Qa k0<=b/\b<=tU g Qa (k0+1)) :
 bc w n (A L (bp f Qa)) m (A L (bp g Qa)) a b*((tU f Qa (i0+1)-tU f Qa i0)*(tU g Qa (k0+1)-tU g Qa k0))<=cell (wV w i0 k0) (wV w i0 (k0+1)) (wV w (i0+1) k0) (wV w (i0+1) (k0+1)) (tU f Qa i0) (tU f Qa (i0+1)) (tU g Qa k0) (tU g Qa (k0+1)) a b /\
 cell (wV w i0 k0) (wV w i0 (k0+1)) (wV w (i0+1) k0) (wV w (i0+1) (k0+1)) (tU f Qa i0) (tU f Qa (i0+1)) (tU g Qa k0) (tU g Qa (k0+1)) a b<=aZ w side n (A L (bp f Qa)) m (A L (bp g Qa)) a b*((tU f Qa (i0+1)-tU f Qa i0)*(tU g Qa (k0+1)-tU g Qa k0)):=by
 have a0:=uZ hu hn hH (GG i0) E;have a1:=uZ hu hn hH (show i0+1<=n-1 by omega) E;have b0:=uZ U hm hH (GG k0) E;have b1:=uZ U hm hH (show k0+1<=m-1 by omega) E;have has:=(AN hu U hn hm hH (a:=a) (b:=b)).2 ⟨⟨E,E⟩,E,E⟩;obtain⟨RR,eI,I1,I2,I3,I4⟩:=Fc hu hn hH (x:=a) ⟨E,E⟩;obtain⟨K,eK,K1,K2,K3,K4⟩:=Fc U hm hH (x:=b) ⟨E,E⟩;have hs:=I4 i0 hi ha.1 ha.2;have RJ:=pW U hm hH hw (i:=RR) E K1 W K2 K3 (K4 k0 W hb.1 hb.2);have R1:=pW U hm hH hw (i:=RR+1) I1 K1 W K2 K3 (K4 k0 W hb.1 hb.2);have up:=lW hu hn hH RR I1;have upi:=lW hu hn hH i0 hi;have upk:=lW U hm hH k0 W;have bI:=vu hu hn hH (show RR<n by omega);have bI1:=vu hu hn hH I1;have eA:aE (A L (bp f Qa) (RR:Int).toNat)=tU f Qa RR:=by rw[GR];exact(gI hu hn hH RR E).1
 have eB:aE (A L (bp f Qa) ((RR+1:Nat):Int).toNat)=tU f Qa (RR+1):=by rw[GR];exact(gI hu hn hH (RR+1) I1).1
 unfold bc aZ;rw[has,IA,cond_false,cond_false,eI,eK,D5 (x:=(RR:Int)+1) E E,show(RR:Int)+1=((RR+1:Nat):Int) by omega,eA,eB];revert RJ R1;generalize gL (RR:Int) (A [Ty.sl L] w) (A L (A L (bp g Qa))) (K:Int) b=s0;generalize fB (RR:Int) (A [Ty.sl L] w) (A L (A L (bp g Qa))) (K:Int) b=s1;generalize gL ((RR+1:Nat):Int) (A [Ty.sl L] w) (A L (A L (bp g Qa))) (K:Int) b=t0;generalize fB ((RR+1:Nat):Int) (A [Ty.sl L] w) (A L (A L (bp g Qa))) (K:Int) b=t1;intro RJ R1;have lo:=(NG up bI bI1 ⟨I2,I3⟩ RJ.1.2 R1.1.2).1;have Rk:=(Ss up bI bI1 ⟨I2,I3⟩ RJ.2.2 R1.2.2).1;rcases hs with rfl|⟨rfl,e⟩
 ·exact⟨ntF RJ.1.1 R1.1.1 lo ha.1 ha.2 E,x10 RJ.2.1 R1.2.1 Rk ha.1 ha.2 E⟩
 ·exact⟨ip1 lo e up e RJ.1.1 E E,jf7 Rk e up e RJ.2.1 E E⟩
end
section
variable {n:Nat} {f:bk} {m:Nat} {g:bk} {w:bk} {Qa:Int} (hu:fV n f) (U:fV m g) (hn:2<=n/\n<=12) (hm:2<=m/\m<=12) (hH:1<=Qa/\Qa<=30000) (hw:BY n m w)
section
variable (hu:fV n f) (hn:2<=n/\n<=12) (hH:1<=Qa/\Qa<=30000)
include hu hn hH
theorem Qx {i:Nat} (hi:i<n):aE (A L (bp f Qa) i)=tU f Qa i:=(gI hu hn hH i hi).1
theorem ass {R S u:Int} {i0:Nat} (hi:i0+1<n) (h:max R (tU f Qa i0)<=min S (tU f Qa (i0+1))) (e:u=max R (tU f Qa i0)∨u=min S (tU f Qa (i0+1))) :
 JQ n (A L (bp f Qa)) R S u/\tU f Qa i0<=u/\u<=tU f Qa (i0+1):=by
 have up:=lW hu hn hH i0 hi;have b:∀j,j<n->R<tU f Qa j->tU f Qa j<S->EK R S (aE (A L (bp f Qa) j))=true:=λj hj M N=>by rw[Qx hu hn hH hj];unfold EK;rw[BH M,BH N];rfl
 refine⟨?_,E,E⟩;rcases e with e|e
 ·by_cases M:R<tU f Qa i0
  ·by_cases N:tU f Qa i0<S
   ·exact .inr (.inr ⟨i0,E,b i0 E M N,by rw[Qx hu hn hH E];omega⟩)
   ·exact .inr (.inl E)
  ·exact .inl E
 ·by_cases M:tU f Qa (i0+1)<S
  ·by_cases N:R<tU f Qa (i0+1)
   ·exact .inr (.inr ⟨i0+1,hi,b (i0+1) hi N M,by rw[Qx hu hn hH hi];omega⟩)
   ·exact .inl E
  ·exact .inr (.inl E)
end
theorem al0 (x y z w a b c d u v s:Int):cell x y z w (a*s) (b*s) (c*s) (d*s) (u*s) (v*s)=s*s*cell x y z w a b c d u v:=by unfold cell;grind
theorem hb' {x t s a:Int} (M:x*s<=a) (N:t*s<=a):max x t*s<=a:=by rw[Int.max_def];split<;>assumption
theorem aby {x t s a:Int} (M:a<=x*s) (N:a<=t*s):a<=min x t*s:=by rw[Int.min_def];split<;>assumption
include hu U hn hm hH
theorem al4 {a b:Int}:bg n (A L (bp f Qa)) m (A L (bp g Qa)) a b=true↔(tU f Qa 0<=a/\a<=tU f Qa (n-1))/\tU g Qa 0<=b/\b<=tU g Qa (m-1):=by have k:=AN hu U hn hm hH (a:=a) (b:=b);rw[db,db]at k;exact k
include hw
theorem agi {R S y0 y1 side u v:Int} {i0 k0:Nat} (hi:i0+1<n) (W:k0+1<m) (hx:max R (tU f Qa i0)<=min S (tU f Qa (i0+1))) (hy:max y0 (tU g Qa k0)<=min y1 (tU g Qa (k0+1)))
 (eu:u=max R (tU f Qa i0)∨u=min S (tU f Qa (i0+1))) (ev:v=max y0 (tU g Qa k0)∨v=min y1 (tU g Qa (k0+1))) :
 (Ey w side n (A L (bp f Qa)) m (A L (bp g Qa)) R S y0 y1).1*((tU f Qa (i0+1)-tU f Qa i0)*(tU g Qa (k0+1)-tU g Qa k0))<=cell (wV w i0 k0) (wV w i0 (k0+1)) (wV w (i0+1) k0) (wV w (i0+1) (k0+1)) (tU f Qa i0) (tU f Qa (i0+1)) (tU g Qa k0) (tU g Qa (k0+1)) u v /\
 cell (wV w i0 k0) (wV w i0 (k0+1)) (wV w (i0+1) k0) (wV w (i0+1) (k0+1)) (tU f Qa i0) (tU f Qa (i0+1)) (tU g Qa k0) (tU g Qa (k0+1)) u v<=(Ey w side n (A L (bp f Qa)) m (A L (bp g Qa)) R S y0 y1).2*((tU f Qa (i0+1)-tU f Qa i0)*(tU g Qa (k0+1)-tU g Qa k0)):=by
 obtain⟨nz18,u1,u2⟩:=ass hu hn hH hi hx eu;obtain⟨iv',v1,v2⟩:=ass U hm hH W hy ev;have a0:=uZ hu hn hH (GG i0) E;have a1:=uZ hu hn hH (show i0+1<=n-1 by omega) E;have b0:=uZ U hm hH (GG k0) E;have b1:=uZ U hm hH (show k0+1<=m-1 by omega) E;have c:=asL w side n (A L (bp f Qa)) m (A L (bp g Qa)) (R:=R) (S:=S) (y0:=y0) (y1:=y1) (u:=u) (v:=v) (.inr ⟨nz18,iv',(al4 hu U hn hm hH).2 ⟨⟨E,E⟩,E,E⟩⟩);have k:=aeC hu U hn hm hH hw (side:=side) hi W ⟨u1,u2⟩ ⟨v1,v2⟩;have up:=lW hu hn hH i0 hi;have resV:=lW U hm hH k0 W;have AT:0<=(tU f Qa (i0+1)-tU f Qa i0)*(tU g Qa (k0+1)-tU g Qa k0):=fW E E;exact⟨Fg (Fq c.1 AT) k.1,Fg k.2 (Fq c.2 AT)⟩
theorem D8 {R S y0 y1 side s a b:Int} {i0 k0:Nat} (hs:0<s) (hi:i0+1<n) (W:k0+1<m) (ha:R*s<=a/\a<=S*s) (hb:y0*s<=b/\b<=y1*s) (n10:tU f Qa i0*s<=a/\a<=tU f Qa (i0+1)*s) (cb:tU g Qa k0*s<=b/\b<=tU g Qa (k0+1)*s) :
 s*s*((Ey w side n (A L (bp f Qa)) m (A L (bp g Qa)) R S y0 y1).1*((tU f Qa (i0+1)-tU f Qa i0)*(tU g Qa (k0+1)-tU g Qa k0)))<=cell (wV w i0 k0) (wV w i0 (k0+1)) (wV w (i0+1) k0) (wV w (i0+1) (k0+1)) (tU f Qa i0*s) (tU f Qa (i0+1)*s) (tU g Qa k0*s) (tU g Qa (k0+1)*s) a b /\
 cell (wV w i0 k0) (wV w i0 (k0+1)) (wV w (i0+1) k0) (wV w (i0+1) (k0+1)) (tU f Qa i0*s) (tU f Qa (i0+1)*s) (tU g Qa k0*s) (tU g Qa (k0+1)*s) a b<=s*s*((Ey w side n (A L (bp f Qa)) m (A L (bp g Qa)) R S y0 y1).2*((tU f Qa (i0+1)-tU f Qa i0)*(tU g Qa (k0+1)-tU g Qa k0))):=by
 have pa:=hb' ha.1 n10.1;have qa:=aby ha.2 n10.2;have pb:=hb' hb.1 cb.1;have qb:=aby hb.2 cb.2;have le:∀{p At c:Int},p*s<=c->c<=At*s->p<=At:=λM N=>HT (Fg M N) hs;have hx:=le pa qa;have hy:=le pb qb;have ss:0<=s*s:=fW E E;have cv:=λ{u v:Int}=>agi hu U hn hm hH hw (R:=R) (S:=S) (y0:=y0) (y1:=y1) (side:=side) (u:=u) (v:=v) hi W hx hy;constructor
 ·rw [sV]
  obtain⟨X,R6,eX,eY,Rb⟩:=aeq (R0:=_) (B:=_) (C:=_) (AT:=_) pa qa pb qb;refine Fg ?_ Rb;rw[← sV];have key:∀u v:Int,(u=max R (tU f Qa i0)∨u=min S (tU f Qa (i0+1)))->(v=max y0 (tU g Qa k0)∨v=min y1 (tU g Qa (k0+1)))->X=u*s->R6=v*s->s*s*((Ey w side n (A L (bp f Qa)) m (A L (bp g Qa)) R S y0 y1).1*((tU f Qa (i0+1)-tU f Qa i0)*(tU g Qa (k0+1)-tU g Qa k0)))<=cell (wV w i0 k0) (wV w i0 (k0+1)) (wV w (i0+1) k0) (wV w (i0+1) (k0+1)) (tU f Qa i0*s) (tU f Qa (i0+1)*s) (tU g Qa k0*s) (tU g Qa (k0+1)*s) X R6:=by rintro u v eu ev rfl rfl;rw[al0];exact oo (cv eu ev).1 ss
  rcases eX with rfl|rfl<;>rcases eY with rfl|rfl
  ·exact key _ _ (.inl rfl) (.inl rfl) rfl rfl
  ·exact key _ _ (.inl rfl) (.inr rfl) rfl rfl
  ·exact key _ _ (.inr rfl) (.inl rfl) rfl rfl
  ·exact key _ _ (.inr rfl) (.inr rfl) rfl rfl
 ·rw [sV]
  obtain⟨X,R6,eX,eY,Rb⟩:=ahm (R0:=_) (B:=_) (C:=_) (AT:=_) pa qa pb qb;refine Fg Rb ?_;rw[← sV];have key:∀u v:Int,(u=max R (tU f Qa i0)∨u=min S (tU f Qa (i0+1)))->(v=max y0 (tU g Qa k0)∨v=min y1 (tU g Qa (k0+1)))->X=u*s->R6=v*s->cell (wV w i0 k0) (wV w i0 (k0+1)) (wV w (i0+1) k0) (wV w (i0+1) (k0+1)) (tU f Qa i0*s) (tU f Qa (i0+1)*s) (tU g Qa k0*s) (tU g Qa (k0+1)*s) X R6<=s*s*((Ey w side n (A L (bp f Qa)) m (A L (bp g Qa)) R S y0 y1).2*((tU f Qa (i0+1)-tU f Qa i0)*(tU g Qa (k0+1)-tU g Qa k0))):=by rintro u v eu ev rfl rfl;rw[al0];exact oo (cv eu ev).2 ss
  rcases eX with rfl|rfl<;>rcases eY with rfl|rfl
  ·exact key _ _ (.inl rfl) (.inl rfl) rfl rfl
  ·exact key _ _ (.inl rfl) (.inr rfl) rfl rfl
  ·exact key _ _ (.inr rfl) (.inl rfl) rfl rfl
  ·exact key _ _ (.inr rfl) (.inr rfl) rfl rfl
end
theorem ash {n:Nat} {f:bk} {Qa a:Int} (hu:fV n f) (hn:2<=n/\n<=12) (hH:1<=Qa/\Qa<=30000) (ha:tU f Qa 0<=a/\a<=tU f Qa (n-1)):∃i:Nat,i+1<n/\tU f Qa i<=a/\a<=tU f Qa (i+1):=by obtain⟨i,_,M,N,h3,_⟩:=Fc hu hn hH ha;exact⟨i,M,N,h3⟩
section
variable {n:Nat} {f:bk} {m:Nat} {g:bk} {w:bk} {d e:Int} (hu:fV n f) (U:fV m g) (hn:2<=n/\n<=12) (hm:2<=m/\m<=12) (hd:1<=d/\d<=30000) (he:1<=e/\e<=30000) (hw:BY n m w)
include hu U hn hm hd he hw
end
section
variable {a c b:Int} (hb:0<b) (M:-4000000000000000000<=a) (N:c<=4000000000000000000) (h:a<=c)
include a c b hb M N h
theorem jK:bE a b<=bE c b:=by rw[A6 hb M E,A6 hb E N];exact Int.ediv_le_ediv hb h
theorem GP:bE a b<=bF c b :=
 HT (Fg (Fg (sZ hb M E).1 h) (lV hb E N).1) hb
theorem kD:bF a b<=bF c b:=by have k:=(lV hb M E).2;have k2:=(lV hb E N).1;refine JA (Jh (a:=b) ?_ (G0 hb));rw[Int.add_mul,Hv];omega
end
theorem gC {x p X Qe:Int} (hx:0<=x/\x<=X) (hp:0<=p/\p<=Qe):0<=x*p/\x*p<=X*Qe :=
 ⟨fW hx.1 hp.1,Fg (Fq hx.2 hp.1) (oo hp.2 E)⟩
theorem j5 {x p y r:Int} (hx:0<=x) (h:x<=y) (hp:0<=p) (k:p<=r):x*p<=y*r :=
 Fg (Fq h hp) (oo k E)
section
variable {x p X At:Int} (hx:0<=x/\x<=X) (hX:X<=1000000) (hq:0<At/\At<=1000000) (hp:0<=p/\p<=At)
include x p X At hx hX hq hp
theorem sW:I (x*p)=x*p/\0<=bE (x*p) At/\bE (x*p) At<=X:=by
 have k:=gC hx hp;have e:X*At<=1000000*1000000:=(gC (x:=X) (X:=1000000) (p:=At) (Qe:=1000000) ⟨E,hX⟩ ⟨E,hq.2⟩).2;refine⟨D5 E E,?_,?_⟩
 ·rw[A6 hq.1 E E];exact Int.ediv_nonneg k.1 E
 ·exact HT (Fg (sZ hq.1 E E).1 k.2) hq.1
theorem qC:0<=bF (x*p) At/\bF (x*p) At<=X:=by
 have k:=gC hx hp;have e:X*At<=1000000*1000000:=(gC (x:=X) (X:=1000000) (p:=At) (Qe:=1000000) ⟨E,hX⟩ ⟨E,hq.2⟩).2;have c:=lV (a:=x*p) hq.1 E E;constructor
 ·refine HT (a:=At) ?_ hq.1;rw[Int.zero_mul];exact Fg k.1 c.1
 ·refine JA (Jh (a:=At) ?_ E);rw[Int.add_mul,Hv];omega
end
def LG (a h:Int):Int:=max (1000000-a*h) 0
def LI (b m:Int):Int:=max (1000-b*m) 0
structure yy (a b h m lv:Int):Prop where
 a:0<=a/\a<=1000
 b:0<=b/\b<=1000
 h:0<=h/\h<=200000
 m:0<=m/\m<=600
 lv:0<=lv/\lv<=1000
theorem TZ {a b h m lv:Int} (u:yy a b h m lv):I (1000000-I (a*h))=1000000-a*h/\I (1000-I (b*m))=1000-b*m/\(0<=LG a h/\LG a h<=1000000)/\0<=LI b m/\LI b m<=1000:=by have k1:=gC u.a u.h;have k2:=gC u.b u.m;unfold LG LI;rw[D5 (x:=a*h) E E,D5 (x:=b*m) E E,D5 E E,D5 E E];omega
def JS (RG a b h m lv:Int):Int:=bE (bE (bE (RG*LG a h) 1000000*LI b m) 1000*lv) 1000
def Is (RG a b h m lv:Int):Int:=bF (bF (bF (RG*LG a h) 1000000*LI b m) 1000*lv) 1000
section
variable {RG a b h m lv:Int} (hL:0<=RG/\RG<=1000000) (u:yy a b h m lv)
include hL u
theorem O1:m7 RG a b h m lv=JS RG a b h m lv/\m9 RG a b h m lv=Is RG a b h m lv/\(0<=JS RG a b h m lv/\JS RG a b h m lv<=1000000)/\0<=Is RG a b h m lv/\Is RG a b h m lv<=1000000:=by
 obtain⟨e1,e2,hA,hB⟩:=TZ u;have s1:=sW hL (Ep 1000000) (At:=1000000) Ej hA;have s2:=sW s1.2 (Ep 1000000) (At:=1000) Ej hB;have s3:=sW s2.2 (Ep 1000000) (At:=1000) Ej u.lv;have t1:=qC hL (Ep 1000000) (At:=1000000) Ej hA;have w2:=(sW t1 (Ep 1000000) (At:=1000) Ej hB).1;have t2:=qC t1 (Ep 1000000) (At:=1000) Ej hB;have w3:=(sW t2 (Ep 1000000) (At:=1000) Ej u.lv).1;have t3:=qC t2 (Ep 1000000) (At:=1000) Ej u.lv;unfold m7 m9 JS Is;rw[e1,e2];change _=_/\_;refine⟨?_,?_,⟨s3.2.1,E⟩,t3.1,E⟩
 ·show bE (I (bE (I (bE (I (RG*LG a h)) 1000000*LI b m)) 1000*lv)) 1000=_;rw[s1.1,s2.1,s3.1]
 ·show bF (I (bF (I (bF (I (RG*LG a h)) 1000000*LI b m)) 1000*lv)) 1000=_;rw[s1.1,w2,w3]
theorem ih7 {c d k n ly:Int} (v:yy c d k n ly) (hA:LG a h<=LG c k) (hB:LI b m<=LI d n) (U:lv<=ly) :
 JS RG a b h m lv<=JS RG c d k n ly/\Is RG a b h m lv<=Is RG c d k n ly/\JS RG a b h m lv<=Is RG c d k n ly:=by
 obtain⟨_,_,A1,B1⟩:=TZ u;obtain⟨_,_,A2,B2⟩:=TZ v;have q6:(0:Int)<1000000/\(1000000:Int)<=1000000:=by decide
 have q3:(0:Int)<1000/\(1000:Int)<=1000000:=by decide
 have bd:∀{x p Qe:Int},0<=x/\x<=1000000->0<=p/\p<=Qe->Qe<=1000000->0<=x*p/\x*p<=1000000000000:=λhx hp hQ=>by have:=gC (X:=1000000) (Qe:=1000000) hx ⟨hp.1,E⟩;omega
 have m1:=j5 hL.1 (Ep RG) A1.1 hA;have S:=bd hL A1 Ej;have Z:=bd hL A2 Ej;have s1:=(sW hL (Ep 1000000) q6 A1).2;have s1':=(sW hL (Ep 1000000) q6 A2).2;have t1:=qC hL (Ep 1000000) q6 A1;have t1':=qC hL (Ep 1000000) q6 A2;have i1:=jK (b:=1000000) Ej E E m1;have j1:=kD (b:=1000000) Ej E E m1;have k1:=GP (b:=1000000) Ej E E m1
 have ⟨⟨s2,s2'⟩,⟨t2,t2'⟩,i2,j2,k2⟩:(_/\_)/\(_/\_)/\_/\_/\_:=⟨⟨(sW s1 (Ep 1000000) q3 B1).2,(sW s1' (Ep 1000000) q3 B2).2⟩,⟨qC t1 (Ep 1000000) q3 B1,qC t1' (Ep 1000000) q3 B2⟩,
  jK (b:=1000) Ej (by have:=bd s1 B1 Ej;omega) (by have:=bd s1' B2 Ej;omega) (j5 s1.1 i1 B1.1 hB),
  kD (b:=1000) Ej (by have:=bd t1 B1 Ej;omega) (by have:=bd t1' B2 Ej;omega) (j5 t1.1 j1 B1.1 hB),
  GP (b:=1000) Ej (by have:=bd s1 B1 Ej;omega) (by have:=bd t1' B2 Ej;omega) (j5 s1.1 k1 B1.1 hB)⟩
 exact ⟨jK (b:=1000) Ej (by have:=bd s2 u.lv Ej;omega) (by have:=bd s2' v.lv Ej;omega) (j5 s2.1 i2 u.lv.1 U),
  kD (b:=1000) Ej (by have:=bd t2 u.lv Ej;omega) (by have:=bd t2' v.lv Ej;omega) (j5 t2.1 j2 u.lv.1 U),
  GP (b:=1000) Ej (by have:=bd s2 u.lv Ej;omega) (by have:=bd t2' v.lv Ej;omega) (j5 s2.1 k2 u.lv.1 U)⟩
end
def J0 (x:Int):Prop:=0<=x/\x<=1000000000
section
variable {n:Nat} {f:bk} {m:Nat} {g:bk} {w:bk} {Qa:Int} (hu:fV n f) (U:fV m g) (hn:2<=n/\n<=12) (hm:2<=m/\m<=12) (hH:1<=Qa/\Qa<=30000) (hw:BY n m w)
include hu U hn hm hH hw
theorem aaR {a b side:Int} (hs:J0 side) :
 J0 (bc w n (A L (bp f Qa)) m (A L (bp g Qa)) a b)/\J0 (aZ w side n (A L (bp f Qa)) m (A L (bp g Qa)) a b):=by
 cases has:bg n (A L (A L (bp f Qa))) m (A L (A L (bp g Qa))) a b with
 |false=>unfold bc aZ;rw[has];exact⟨⟨Ep 0,by show(0:Int)<=_;decide⟩,hs⟩
 |true=>
   obtain⟨⟨S,Z⟩,y1,y2⟩:=(AN hu U hn hm hH (a:=a) (b:=b)).1 has;obtain⟨RR,eI,I1,I2,I3,I4⟩:=Fc hu hn hH (x:=a) ⟨E,E⟩;obtain⟨K,eK,K1,K2,K3,K4⟩:=Fc U hm hH (x:=b) ⟨E,E⟩;have RJ:=pW U hm hH hw (i:=RR) E K1 K1 K2 K3 (.inl rfl);have R1:=pW U hm hH hw (i:=RR+1) I1 K1 K1 K2 K3 (.inl rfl);have up:=lW hu hn hH RR I1;have bI:=vu hu hn hH (show RR<n by omega);have bI1:=vu hu hn hH I1;have eA:aE (A L (bp f Qa) (RR:Int).toNat)=tU f Qa RR:=by rw[GR];exact(gI hu hn hH RR E).1
   have eB:aE (A L (bp f Qa) ((RR+1:Nat):Int).toNat)=tU f Qa (RR+1):=by rw[GR];exact(gI hu hn hH (RR+1) I1).1
   unfold bc aZ;rw[has,IA,cond_false,cond_false,eI,eK,D5 (x:=(RR:Int)+1) E E,show(RR:Int)+1=((RR+1:Nat):Int) by omega,eA,eB];exact⟨(NG up bI bI1 ⟨I2,I3⟩ RJ.1.2 R1.1.2).2,(Ss up bI bI1 ⟨I2,I3⟩ RJ.2.2 R1.2.2).2⟩
theorem ajl {side R S y0 y1:Int} (hs:J0 side) :
 J0 (Ey w side n (A L (bp f Qa)) m (A L (bp g Qa)) R S y0 y1).1/\J0 (Ey w side n (A L (bp f Qa)) m (A L (bp g Qa)) R S y0 y1).2:=by
 obtain⟨⟨u,v,_,h⟩,u',v',_,h'⟩:=aqA w side n (A L (bp f Qa)) m (A L (bp g Qa)) R S y0 y1;rw[← h,← h'];exact⟨(aaR hu U hn hm hH hw hs).1,(aaR hu U hn hm hH hw hs).2⟩
end
theorem TH {i f:Int} (hi:J0 i) (hf:0<=f/\f<=1000000):I (i*f)=i*f/\0<=i*f/\i*f<=1000000000000000:=by have k:=gC hi hf;exact⟨D5 E E,k.1,E⟩
theorem Nk {i f:Int} (hi:J0 i) (hf:0<=f/\f<=1000000):(0<=bE (I (i*f)) 1000/\bE (I (i*f)) 1000<=1000000000000)/\0<=bF (I (i*f)) 1000/\bF (I (i*f)) 1000<=1000000000000:=by obtain⟨e,h0,M⟩:=TH hi hf;rw[e];have a:=sZ (a:=i*f) (b:=1000) Ej E E;have b:=lV (a:=i*f) (b:=1000) Ej E E;omega
theorem ajA {i j f k:Int} (hi:J0 i) (hj:J0 j) (h:i<=0∨i<=j) (hf:0<=f/\f<=1000000) (W:0<=k/\k<=1000000) (ip16:f<=k):bE (I (i*f)) 1000<=bF (I (j*k)) 1000:=by
 have VQ:i<=j:=by have:=hi.1;have:=hj.1;omega
 obtain⟨e,h0,M⟩:=TH hi hf;obtain⟨e',izb12,h1'⟩:=TH hj W;rw[e,e'];exact GP Ej E E (j5 hi.1 VQ hf.1 ip16)
theorem xM (a b:Int):cL a b=bE a b:=rfl
theorem xZ (a b:Int):cN a b=bF a b:=rfl
theorem EL {a b:Int} (h:a<=b):ir a<=ir b:=by unfold ir;omega
theorem anc (a:Int):-200000<=ir a/\ir a<=200000:=by unfold ir;omega
section
variable {a b:Int} (hb:0<b)
include a b hb
theorem aeU (M:-4000000000000000000<=a) (h:a<=0):bE a b<=0:=by have k:=jK (a:=a) (c:=0) hb M Ej h;rw[A6 (a:=0) hb Ej Ej,Int.zero_ediv]at k;exact k
theorem Bb (M:a<=4000000000000000000) (h:0<=a):0<=bE a b:=by rw[A6 hb E M];exact Int.ediv_nonneg h E
theorem aoQ (M:-4000000000000000000<=a) (h:a<=0):bF a b<=0:=by have k:=(lV (a:=a) hb M E).2;refine JA (Jh (a:=b) ?_ E);rw[Int.add_mul,Hv];omega
theorem AI (M:a<=4000000000000000000) (h:0<=a):0<=bF a b:=by have k:=(lV (a:=a) hb E M).1;refine HT (a:=b) ?_ hb;rw[Int.zero_mul];omega
end
section
variable {s:Int} (hs:1<=s/\s<=2000000)
include hs
theorem Ng:I (1000000*s)=1000000*s/\1<=fG (1000000*s)/\fG (1000000*s)<=gk (1000000*s):=by
 have d:=sA (x:=1000000*s) E;refine⟨D5 E E,d.1,?_⟩;have e:=CQ (x:=1000000*s) E;have e2:=qc (x:=1000000*s) E;rw[← e,← e2];unfold Gt;rw[e2];cases decide (I (fG (1000000*s)*fG (1000000*s))<1000000*s) with
 |true=>rw[cond_true,D5 E E];omega|false=>exact Ep _
theorem aas {m n:Int} (hm:G4 m) (hn:G4 n) (h:m<=n):Kk m s<=Kk n s:=by
 obtain⟨e,r1,r2⟩:=Ng hs;unfold Kk;rw[e,lL hm,lL hn,xM,xM,xM,xM];unfold G4 at hm hn;by_cases M:m<0<;>by_cases N:n<0
 ·rw[BH M,BH N];exact EL (jK E E E E)
 ·rw[BH M,eZ N];exact EL (Fg (aeU E E E) (Bb E E E))
 ·omega
 ·rw[eZ M,eZ N];exact EL (jK E E E E)
theorem hc' {m n:Int} (hm:G4 m) (hn:G4 n) (h:m<=n):KN m s<=KN n s:=by
 obtain⟨e,r1,r2⟩:=Ng hs;unfold KN;rw[e,lL hm,lL hn,xZ,xZ,xZ,xZ];unfold G4 at hm hn;by_cases M:m<0<;>by_cases N:n<0
 ·rw[BH M,BH N];exact EL (kD E E E E)
 ·rw[BH M,eZ N];exact EL (Fg (aoQ E E E) (AI E E E))
 ·omega
 ·rw[eZ M,eZ N];exact EL (kD E E E E)
theorem akv {m:Int} (hm:G4 m):Kk m s<=KN m s:=by
 obtain⟨e,r1,r2⟩:=Ng hs;unfold Kk KN;rw[e,lL hm,xM,xM,xZ,xZ];unfold G4 at hm;have key:∀ {a b c:Int},0<b->0<c->-4000000000000000000<=a->a<=4000000000000000000->(0<=a->c<=b)->(a<0->b<=c)->bE a b<=bF a c:=λ{a b c} hb hc M N h3 h4=>by
  by_cases h:0<=a
  ·have k1:=Bb hb N h;have k2:=(sZ hb M N).1;have k3:=(lV hc M N).1;refine HT (a:=c) ?_ hc;have:=oo (h3 h) k1;omega
  ·have k1:=aoQ hc M E;have k2:=(sZ hb M N).1;have k3:=(lV hc M N).1;refine HT (a:=b) ?_ hb;have:=Om k1 (h4 E);omega
 by_cases M:m<0
 ·rw[BH M];exact EL (key E E E E (λh=>by omega) (λh=>r2))
 ·rw[eZ M];exact EL (key E E E E (λh=>r2) (λh=>by omega))
end
theorem Mf {R S X:Int} (d:Int) (h:R<=X/\X<=S):(R*d<=X*d/\X*d<=S*d)∨(S*d<=X*d/\X*d<=R*d):=by
 rcases I9 0 d with k|k
 ·exact .inl ⟨Fq h.1 k,Fq h.2 k⟩
 ·exact .inr ⟨Int.mul_le_mul_of_nonpos_right h.2 k,Int.mul_le_mul_of_nonpos_right h.1 k⟩
def yU (x y dx dy:Int):Int:=I (I (x*dy)-I (y*dx))
def yV (x y dx dy:Int):Int:=I (I (x*dx)+I (y*dy))
def BQ (a b c d:Int):Int:=min (min (min (min a a) b) c) d
def AP (a b c d:Int):Int:=max (max (max (max a a) b) c) d
theorem SF :
 dJ R S Z x3 O x5=Kk (BQ (yU R Z O x5) (yU S Z O x5) (yU R x3 O x5) (yU S x3 O x5)) (I (I (O*O)+I (x5*x5))) /\
 fk R S Z x3 O x5=KN (AP (yU R Z O x5) (yU S Z O x5) (yU R x3 O x5) (yU S x3 O x5)) (I (I (O*O)+I (x5*x5))) /\
 dL R S Z x3 O x5=Kk (BQ (yV R Z O x5) (yV S Z O x5) (yV R x3 O x5) (yV S x3 O x5)) (I (I (O*O)+I (x5*x5))) /\
 fe R S Z x3 O x5=KN (AP (yV R Z O x5) (yV S Z O x5) (yV R x3 O x5) (yV S x3 O x5)) (I (I (O*O)+I (x5*x5))):=⟨rfl,rfl,rfl,rfl⟩
section
variable {dx dy:Int} (h:Hd dx dy)
include h
theorem Ao {x y:Int} (hx:Bd x) (hy:Bd y):yU x y dx dy=x*dy-y*dx/\G4 (yU x y dx dy):=by refine⟨?_,Uk h hx hy⟩;have a:=CV hx h.2.1;have b:=CV hy h.1;unfold yU;rw[D5 (x:=x*dy) E E,D5 (x:=y*dx) E E,D5 E E]
theorem Ai {x y:Int} (hx:Bd x) (hy:Bd y):yV x y dx dy=x*dx+y*dy/\G4 (yV x y dx dy):=by refine⟨?_,T7 h hx hy⟩;have a:=CV hx h.1;have b:=CV hy h.2.1;unfold yV;rw[D5 (x:=x*dx) E E,D5 (x:=y*dy) E E,D5 E E]
theorem ak4 {R S y0 y1 X R6:Int} (Uf:Bd R) (Ug:Bd S) (Uh:Bd y0) (Ui:Bd y1) (hx:R<=X/\X<=S) (hy:y0<=R6/\R6<=y1) :
 (BQ (yU R y0 dx dy) (yU S y0 dx dy) (yU R y1 dx dy) (yU S y1 dx dy)<=yU X R6 dx dy/\yU X R6 dx dy<=AP (yU R y0 dx dy) (yU S y0 dx dy) (yU R y1 dx dy) (yU S y1 dx dy)) /\
 BQ (yV R y0 dx dy) (yV S y0 dx dy) (yV R y1 dx dy) (yV S y1 dx dy)<=yV X R6 dx dy/\yV X R6 dx dy<=AP (yV R y0 dx dy) (yV S y0 dx dy) (yV R y1 dx dy) (yV S y1 dx dy):=by
 have bX:Bd X:=by unfold Bd at *;omega
 have bY:Bd R6:=by unfold Bd at *;omega
 rw[(Ao h Uf Uh).1,(Ao h Ug Uh).1,(Ao h Uf Ui).1,(Ao h Ug Ui).1,(Ao h bX bY).1,(Ai h Uf Uh).1,(Ai h Ug Uh).1,(Ai h Uf Ui).1,(Ai h Ug Ui).1,(Ai h bX bY).1];have a:=Mf dy hx;have b:=Mf dx hy;have c:=Mf dx hx;have d:=Mf dy hy;unfold BQ AP;constructor
 ·clear c d;omega
 ·clear a b;omega
theorem ajV {R S y0 y1 X R6:Int} (Uf:Bd R) (Ug:Bd S) (Uh:Bd y0) (Ui:Bd y1) (hx:R<=X/\X<=S) (hy:y0<=R6/\R6<=y1) :
 (dJ R S y0 y1 dx dy<=dJ X X R6 R6 dx dy/\dJ X X R6 R6 dx dy<=fk R S y0 y1 dx dy)/\dL R S y0 y1 dx dy<=dL X X R6 R6 dx dy/\dL X X R6 R6 dx dy<=fe R S y0 y1 dx dy:=by
 have bX:Bd X:=by unfold Bd at *;omega
 have bY:Bd R6:=by unfold Bd at *;omega
 have hs:=KM h;unfold cj at hs;obtain⟨⟨a1,a2⟩,a3,a4⟩:=ak4 h Uf Ug Uh Ui hx hy;have R0:∀{x y:Int},Bd x->Bd y->G4 (yU x y dx dy):=λM N=>(Ao h M N).2;have RG:∀{x y:Int},Bd x->Bd y->G4 (yV x y dx dy):=λM N=>(Ai h M N).2;have B4:∀{a b c d:Int},G4 a->G4 b->G4 c->G4 d->G4 (BQ a b c d)/\G4 (AP a b c d):=λM N h3 h4=>by unfold G4 BQ AP at *;omega
 have e:∀a:Int,BQ a a a a=a/\AP a a a a=a:=λa=>by unfold BQ AP;omega
 obtain⟨p0,p1⟩:=B4 (R0 Uf Uh) (R0 Ug Uh) (R0 Uf Ui) (R0 Ug Ui);obtain⟨q0,q1⟩:=B4 (RG Uf Uh) (RG Ug Uh) (RG Uf Ui) (RG Ug Ui);obtain⟨G,f1,Q,f3⟩:=SF R S y0 y1 dx dy;obtain⟨g0,g1,g2,g3⟩:=SF X X R6 R6 dx dy;rw[(e _).1]at g0 g2;rw[G,f1,Q,f3,g0,g2];exact⟨⟨aas hs p0 (R0 bX bY) a1,Fg (akv hs (R0 bX bY)) (hc' hs (R0 bX bY) p1 a2)⟩,aas hs q0 (RG bX bY) a3,Fg (akv hs (RG bX bY)) (hc' hs (RG bX bY) q1 a4)⟩
theorem OL (R S y0 y1:Int):(-200000<=dJ R S y0 y1 dx dy/\dJ R S y0 y1 dx dy<=200000)/\(-200000<=fk R S y0 y1 dx dy/\fk R S y0 y1 dx dy<=200000)/\(-200000<=dL R S y0 y1 dx dy/\dL R S y0 y1 dx dy<=200000)/\-200000<=fe R S y0 y1 dx dy/\fe R S y0 y1 dx dy<=200000:=by
 have hd:=h;have At:∀m s:Int,(-200000<=Kk m s/\Kk m s<=200000)/\-200000<=KN m s/\KN m s<=200000:=λm s=>by unfold Kk KN;cases decide (m<0)<;>exact⟨anc _,anc _⟩
 obtain⟨G,f1,Q,f3⟩:=SF R S y0 y1 dx dy;rw[G,f1,Q,f3];exact⟨(At _ _).1,(At _ _).2,(At _ _).1,(At _ _).2⟩
end
theorem hag {a b:Int} (h:qn a b 0 1000=true):0<=a/\a<=b/\b<=1000:=by
 unfold qn at h;cases N:decide (a<=b) with
 |false=>rw[N]at h;cases h
 |true=>
   rw[N,cond_true]at h;cases M:bz a 0 1000 with
   |false=>rw[M]at h;cases h
   |true=>rw[M,cond_true]at h;have k1:=qt M;have k2:=qt h;have k3:=Fv N;omega
structure anb (x:List V):Prop where
 ag:0<=ck (ap (ap x))/\ck (ap (ap x))<=ck (ap (ap (ap x)))/\ck (ap (ap (ap x)))<=1000
 di:0<=ck (ap (ap (ap (ap x))))/\ck (ap (ap (ap (ap x))))<=ck (ap (ap (ap (ap (ap x)))))/\ck (ap (ap (ap (ap (ap x)))))<=1000
theorem akL {H:Nat} {Q:bk} {a:Nat} (h:rL H (A al Q) a=0):anb (Q a):=by unfold rL at h;obtain⟨_,h⟩:=iQ h Ej;obtain⟨_,h⟩:=iQ h Ej;unfold WP F1 at h;obtain⟨_,h⟩:=iQ h Ej;obtain⟨_,h⟩:=iQ h Ej;obtain⟨h3,_⟩:=iQ h Ej;have k:=(rN (rN (rN (rN (GI h3)).2).2).2).2;exact⟨hag (rN k).1,hag (rN (rN k).2).1⟩
section
variable {x:List V} (t:nm x) (u:fV (aU (aM (ap x))) (du (aM (ap x)))) (v:fV (aU (aM (ap (ap x)))) (du (aM (ap (ap x)))))
include t
theorem X6:BY (aU (aM (ap x))) (aU (aM (ap (ap x)))) (uQ x):=λi hi k W=>by
 have Rk:i<ET x:=by rw[t.n];exact hi
 have:=t.val i Rk k (by rw[t.row i Rk];exact W);unfold wV;omega
theorem aqy:J0 (eV x):=by have:=t.side;unfold J0;omega
include u v
theorem Dv {d:Int} (hd:1<=d/\d<=30000) (a c e f:Int):J0 (vb x a c e f d)/\J0 (sD x a c e f d) :=
 ajl u v t.u t.v hd (X6 t) (aqy t)
end
theorem Oz {H:Nat} {G:bk} {T:Nat} {Q:bk} {O x5 x6 x7 x8 x9 Ql Qn Qp:Int} (h:CI H G T Q O x5 x6 x7 x8 x9 Ql Qn Qp=0) :
 cD H G T Q O=0/\fj x5 x6 x7=false/\eO x8 x9 Ql Qn Qp=0:=by
 unfold CI at h;cases e:cD H G T Q O==0 with
 |true=>
   rw[e]at h;refine⟨HK e,?_⟩;cases k:fj x5 x6 x7 with
   |true=>rw[k]at h;cases h|false=>rw[k]at h;exact⟨rfl,h⟩
 |false=>rw[e]at h;have h:cD H G T Q O=0:=h;rw[h]at e;cases e
theorem aoB {a b c:Int} (h:fj a b c=false):(0<=a/\a<=200000)/\(0<=b/\b<=600)/\0<=c/\c<=1000:=by
 unfold fj at h;cases M:aw a 0 200000 with
 |false=>rw[M]at h;cases h
 |true=>
   rw[M]at h;cases N:aw b 0 600 with
   |false=>rw[N]at h;cases h
   |true=>rw[N]at h;exact⟨qt (show bz a 0 200000=true from M),qt (show bz b 0 600=true from N),qt (show bz c 0 1000=true from GI h)⟩
section
variable {H:Nat} {G:bk} {T:Nat} {Q:bk} {O:Int}
structure WG (H:Nat) (G:bk) (T:Nat) (Q:bk) (O:Int):Prop where
 tb:nm (G (bP H G T Q O).toNat)
 u:fV (aU (aM (ap (G (bP H G T Q O).toNat)))) (du (aM (ap (G (bP H G T Q O).toNat))))
 v:fV (aU (aM (ap (ap (G (bP H G T Q O).toNat))))) (du (aM (ap (ap (G (bP H G T Q O).toNat)))))
 l:0<=dV H G T Q O/\dV H G T Q O<=1000000
 ag:0<=e7 H G T Q O/\e7 H G T Q O<=fU H G T Q O/\fU H G T Q O<=1000
 di:0<=fi H G T Q O/\fi H G T Q O<=eD H G T Q O/\eD H G T Q O<=1000
theorem wil (h:cD H (A ao G) T (A al Q) O=0):WG H (A ao G) T (A al Q) O:=by
 have hb:=ams h;have l0:=ajD h;have w:=hb.2;rw[db]at w;have u:=VW w;have e:bu H (A ao (A ao G)) T (A al (A al Q))=0:=by
  have:=l0.1;by_cases e:bu H (A ao (A ao G)) T (A al (A al Q))=0
  ·exact e
  ·have At:(bu H (A ao (A ao G)) T (A al (A al Q))!=0)=true:=by simpa using e
   rw[At]at this;cases this
 have c:=kT H (A ao (A ao G)) T (A al (A al Q));have v:yD H (A ao (A ao G)) T (A al (A al Q)):=xI (by have:=congrArg (λp=>p.2.2) c;exact this.symm.trans e);have l2:=v.l2;have r:=Fv (Mm E l0.2);have n19:=v.lm O.toNat E;have lm:=(XE v.l0 n19).lum;have ag:=akL n19;have a3:dV H (A ao G) T (A al Q) O=cH (A al Q O.toNat):=by unfold dV;rw[l0.1,l0.2];rfl
 have yao:e7 H (A ao G) T (A al Q) O=ck (ap (ap (A al Q O.toNat))):=by unfold e7;rw[l0.1,l0.2];rfl
 have yap:fU H (A ao G) T (A al Q) O=ck (ap (ap (ap (A al Q O.toNat)))):=by unfold fU;rw[l0.1,l0.2];rfl
 have a9:fi H (A ao G) T (A al Q) O=ck (ap (ap (ap (ap (A al Q O.toNat))))):=by unfold fi;rw[l0.1,l0.2];rfl
 have a10:eD H (A ao G) T (A al Q) O=ck (ap (ap (ap (ap (ap (A al Q O.toNat)))))):=by unfold eD;rw[l0.1,l0.2];rfl
 have lm:1<=cH (A al Q O.toNat)/\cH (A al Q O.toNat)<=1000000:=lm;refine⟨Ku w,u.1,u.2,by rw[a3];omega,?_,?_⟩
 ·rw[yao,yap];exact ag.ag
 ·rw[a9,a10];exact ag.di
end
section
variable {H:Nat} {G:bk} {T:Nat} {Q:bk} {O x5 x6 x7:Int} (RG:WG H G T Q O) (hu:fj x5 x6 x7=false)
include RG hu
theorem Ov:(0<=Ix (dV H G T Q O) (fU H G T Q O) (eD H G T Q O) x5 x6 x7/\Ix (dV H G T Q O) (fU H G T Q O) (eD H G T Q O) x5 x6 x7<=1000000) /\
 (0<=gP (dV H G T Q O) (e7 H G T Q O) (fi H G T Q O) x5 x6 x7/\gP (dV H G T Q O) (e7 H G T Q O) (fi H G T Q O) x5 x6 x7<=1000000) /\
 Ix (dV H G T Q O) (fU H G T Q O) (eD H G T Q O) x5 x6 x7<=gP (dV H G T Q O) (e7 H G T Q O) (fi H G T Q O) x5 x6 x7:=by
 obtain⟨M,N,h3⟩:=aoB hu;have a:=RG.ag;have b:=RG.di;have u1:yy (fU H G T Q O) (eD H G T Q O) x5 x6 x7:=⟨E,E,M,N,h3⟩;have u0:yy (e7 H G T Q O) (fi H G T Q O) x5 x6 x7:=⟨E,E,M,N,h3⟩;have e1:=O1 RG.l u1;have e0:=O1 RG.l u0;have hA:LG (fU H G T Q O) x5<=LG (e7 H G T Q O) x5:=by have:=Fq a.2.1 M.1;unfold LG;omega
 have hB:LI (eD H G T Q O) x6<=LI (fi H G T Q O) x6:=by have:=Fq b.2.1 N.1;unfold LI;omega
 have m:=(ih7 RG.l u1 u0 hA hB (Ep x7)).2.2;unfold Ix gP;rw[e1.1,e0.2.1];exact⟨e1.2.2.1,e0.2.2.2,m⟩
theorem an5 {d:Int} (hd:1<=d/\d<=30000) (a b c e:Int):(0<=e8 H G T Q O x5 x6 x7 a b c e d/\e8 H G T Q O x5 x6 x7 a b c e d<=1000000000000)/\0<=dR H G T Q O x5 x6 x7 a b c e d/\dR H G T Q O x5 x6 x7 a b c e d<=1000000000000:=by
 have f:=Ov RG hu;have t:=Dv RG.tb RG.u RG.v hd a b c e;unfold e8 dR twL M5;cases CI H G T Q O x5 x6 x7 a b c e d==0 with
 |true=>exact⟨(Nk t.1 f.1).1,(Nk t.2 f.2.1).2⟩|false=>exact⟨⟨Ep 0,by show(0:Int)<=_;decide⟩,Ep 0,by show(0:Int)<=_;decide⟩
end
theorem wT (x:Int):0<=x*x:=by
 rcases I9 0 x with h|h
 ·exact fW h h
 ·exact Int.mul_nonneg_of_nonpos_of_nonpos h h
theorem G6 {p x:Int} (h:0<=p/\p<=x):p*p<=x*x:=j5 h.1 h.2 h.1 h.2
theorem Bl {p:Int} (h:-1000000000<=p/\p<=1000000000):p*p<=1000000000000000000:=by
 rcases I9 0 p with k|k
 ·exact(gC (x:=p) (X:=1000000000) (p:=p) (Qe:=1000000000) ⟨k,h.2⟩ ⟨k,h.2⟩).2
 ·have:=(gC (x:=-p) (X:=1000000000) (p:=-p) (Qe:=1000000000) ⟨E,E⟩ ⟨E,E⟩).2;rw[Ij]at this;exact this
theorem aoS {p At x:Int} (hp:-1000000000<=p/\p<=1000000000) (hq:-1000000000<=At/\At<=1000000000) (h:p<=x/\x<=At):0<=iA p At/\iA p At<=x*x:=by
 have a:=Bl hp;have b:=Bl hq;have a0:=wT p;have b0:=wT At;unfold iA;rw[D5 (x:=p*p) E E,D5 (x:=At*At) E E];by_cases M:p<=0
 ·rw [BH M,cond_true]
  by_cases N:0<=At
  ·rw[BH N,cond_true];exact⟨Ep 0,wT x⟩
  ·rw[eZ N,cond_false];have:=G6 (p:=-At) (x:=-x) ⟨E,E⟩;rw[Ij,Ij]at this;omega
 ·rw[eZ M,cond_false];show 0<=min (p*p) (At*At)/\min (p*p) (At*At)<=x*x;have:=G6 (p:=p) (x:=x) ⟨E,h.1⟩;omega
section
variable {n:Nat} {f:bk} {m:Nat} {g:bk} {w:bk} {Qa RO:Int} (hu:fV n f) (U:fV m g) (hn:2<=n/\n<=12) (hm:2<=m/\m<=12) (hH:1<=Qa/\Qa<=30000) (hw:BY n m w) (h0:0<=RO) (hM:∀i,i<n->∀k,k<m->wV w i k<=RO)
include hu U hn hm hH hw h0 hM
end
theorem aoC {p:Nat->Int} {z:Int}:∀ {n i:Nat},i<n->p i<=vY p z n
 |0,_,h=>absurd h (IG _)
 |n+1,i,h=>by
   show p i<=max (vY p z n) (p n);rcases Nat.lt_succ_iff_lt_or_eq.1 h with k|rfl
   ·have:=aoC (p:=p) (z:=z) k;omega
   ·omega
theorem QH {p:Nat->Int} {z:Int}:∀ n,z<=vY p z n
 |0=>Ep z|n+1=>Fg (QH n) (Int.le_max_left ..)
theorem hbl {l:Nat->Nat} {v:Nat->Nat->Int} {z:Int}:∀ n,z<=JP l v z n
 |0=>Ep z|n+1=>Fg (hbl n) (QH _)
theorem bor {l:Nat->Nat} {v:Nat->Nat->Int} {z:Int}:∀ {n i:Nat},i<n->∀ k,k<l i->v i k<=JP l v z n
 |0,_,h=>absurd h (IG _)
 |n+1,i,h=>λk W=>by
   show v i k<=vY (v n) (JP l v z n) (l n);rcases Nat.lt_succ_iff_lt_or_eq.1 h with At|rfl
   ·exact Fg (bor At k W) (QH _)
   ·exact aoC (p:=v i) W
theorem ala {x:List V} (t:nm x) (z:Int):z<=Ab (ET x) (uQ x) z/\∀ i,i<aU (aM (ap x))->∀ k,k<aU (aM (ap (ap x)))->wV (uQ x) i k<=Ab (ET x) (uQ x) z:=by
 refine⟨hbl _,λi hi k W=>?_⟩;have Rk:i<ET x:=by rw[t.n];exact hi
 exact bor (l:=λi=>aU (aM (uQ x i))) (v:=λi j=>aE (du (aM (uQ x i)) j)) Rk k (by rw[t.row i Rk];exact W)
theorem Km {v a b:Int} (h:a<=v/\v<=b):bz v a b=true:=by unfold bz;rw[BH h.1,BH h.2];rfl
theorem amB {a b c d h:Int} (hh:1<=h/\h<=30000) (ha:-200000<=a/\a<=200000) (hb:-200000<=b/\b<=200000) (hc:-200000<=c/\c<=200000) (hd:-200000<=d/\d<=200000) (M:a<=b) (N:c<=d):eO a b c d h=0:=by rw[sI];unfold mB;rw[show bz h 1 30000=true from Km hh,show fF a=true from Km ha,show fF b=true from Km hb,show fF c=true from Km hc,show fF d=true from Km hd];rw[eZ (show ¬b<a by omega),eZ (show ¬d<c by omega)];rfl
theorem apZ {H:Nat} {G:bk} {T:Nat} {Q:bk} {O x5 x6 x7 a b c d h:Int} (e:cD H G T Q O=0) (u:fj x5 x6 x7=false) (r:eO a b c d h=0):CI H G T Q O x5 x6 x7 a b c d h=0:=by unfold CI;rw[e,u,r];rfl
section
variable {x y n18 d deep:Int} (hf:1<=n18) (M:n18<=deep) (h3:deep<=30000)
include hf M h3
end
theorem btn {a b k:Int} (h:a<=b) (W:0<=k/\k<=255):a<=a+((b-a)*k).tdiv 255/\a+((b-a)*k).tdiv 255<=b:=by have n:0<=(b-a)*k:=fW E W.1;rw[ML n];have q0:0<=(b-a)*k / 255:=Int.ediv_nonneg n Ej;have q1:=Int.ediv_mul_le ((b-a)*k) (b:=255) Ej;have q2:=oo W.2 (show 0<=b-a by omega);omega
end
end Go.Dx
