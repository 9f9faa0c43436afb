/- Part 6 of a proof. No conditions. -/
import Derived.Test.YtllggmkhjhjkpaaGreatDoorLh5
import Derived.Laws.MathBits
set_option maxRecDepth 100000
set_option linter.unusedVariables false
set_option linter.unusedSimpArgs false
namespace Go.Dx
open Go.IntKind (i64 u64 u8)
open Go.Sx Go.Proofs
variable (H:Nat) (G:bk) (R:Int) (s0:ByteArray) (n1:Nat) (f1:bk) (S:Int) (T:Nat) (Q:bk) (Z:Int) (n3:Nat) (f3:bk) (x3 O:Int) (n5:Nat) (f5:bk) (x5 x6:Int) (n7:Nat) (f7:bk) (x7 x8:Int) (b8:Bool) (n9:Nat) (f9:bk) (x9 Ql:Int) (Rx:Bool) (q:Nat) (Y:bk) (Qn Qp:Int) (Qm:Nat) (Qd:bk) (RI Qz:Int) (Qu:Nat) (Qf:bk) (Qy R4 QY:Int) (Rf:ByteArray) (Qi Qk Qr Qt RA R5 RB RE RF Rl:Int)
noncomputable section
def yI:bm:=(89,.inl aqJ u0)::(88,.con aaL)::LQ
theorem fe5:aV Tryz.prog BN D7 yI:=iB Tryz.func89 bw (.con adc (ats))
inductive eS where|L0 (_:Int) (_:Nat) (_ _:Int) (_:Nat)|L2 (_:Int) (_:Nat) (_ _:Int)|L4 (_:Int) (_:Nat) (_ _:Int) (_:Nat) (_:Int) (_:Nat) (_ _:Int)|L5 (_:Int) (_:Nat) (_ _ _:Int) (_:Nat) (_ _ _:Int)
def Cz (l:List A7):List A7:=A7.cells [V.str s0,V.sl n1 (A L f1),V.sl n3 (A L f3),V.sl n5 (A [Ty.sl L] f5),D x7,D x8,V.sl n9 (A L f9),V.sl q (A L Y),D RI] 130::A7.cells [D Qz,D Qy,D R4,D QY] 74::A7.cells G7 40::A7.cells [D (I (1000*R4))] 3::A7.cells [D (I (1000*QY))] 3::A7.cells [D (bc (A [Ty.sl L] f5) n9 (A L f9) q (A L Y) (I (1000*Qz)) (I (1000*QY))),D (aZ (A [Ty.sl L] f5) x7 n9 (A L f9) q (A L Y) (I (1000*Qz)) (I (1000*QY))),D (bc (A [Ty.sl L] f5) n9 (A L f9) q (A L Y) (I (1000*Qy)) (I (1000*R4))),D (aZ (A [Ty.sl L] f5) x7 n9 (A L f9) q (A L Y) (I (1000*Qy)) (I (1000*R4))),D (bc (A [Ty.sl L] f5) n9 (A L f9) q (A L Y) (I (1000*Qy)) (I (1000*QY))),D (aZ (A [Ty.sl L] f5) x7 n9 (A L f9) q (A L Y) (I (1000*Qy)) (I (1000*QY)))] 40::l
def vR:eS->bZ×List A7×Option Ex
 |.L0 Qg Ry Sg Sv _=>([(19,D Qg),(18,D (q:Int)),(17,V.sl q (A L Y)),(16,V.kb false),(15,V.kb false),(14,V.kb true),(13,D (I (1000*QY))),(12,V.yl Ry),(11,V.kb false),(10,V.kb false),(9,V.kb true),(8,D (I (1000*R4))),(7,V.yl Ry),(0,V.yl Ry),(1,V.pl 12 0),(2,V.pl 13 0),(3,V.pl 11 0)],Cz s0 n1 f1 n3 f3 n5 f5 x7 x8 n9 f9 q Y RI Qz Qy R4 QY [A7.cells [D Sg,D Sv] 40,A7.cells [V.sl n9 (A L f9)] 32,A7.cells [D (I (1000*Qz))] 3,A7.cells [D (I (1000*Qy))] 3,A7.cells [D (I (1000*Qz))] 3,A7.cells [V.sl q (A L Y)] 32,A7.cells [D (I (1000*R4))] 3,A7.cells [D (I (1000*QY))] 3],none)|.L2 RN VN Tf Us=>([(19,D RN),(18,D (n9:Int)),(17,V.sl n9 (A L f9)),(16,V.kb false),(15,V.kb false),(14,V.kb true),(13,D (I (1000*Qy))),(12,V.yl VN),(11,V.kb false),(10,V.kb false),(9,V.kb true),(8,D (I (1000*Qz))),(7,V.yl VN),(0,V.yl VN),(1,V.pl 8 0),(2,V.pl 9 0),(3,V.pl 7 0)],Cz s0 n1 f1 n3 f3 n5 f5 x7 x8 n9 f9 q Y RI Qz Qy R4 QY [A7.cells [D Tf,D Us] 40,A7.cells [V.sl n9 (A L f9)] 32,A7.cells [D (I (1000*Qz))] 3,A7.cells [D (I (1000*Qy))] 3],none)|.L4 Rj Si Xi UN ..=>([(19,D Rj),(18,D (q:Int)),(17,V.sl q (A L Y)),(16,V.kb false),(15,V.kb false),(14,V.kb true),(13,D (I (1000*QY))),(12,V.yl Si),(11,V.kb false),(10,V.kb false),(9,V.kb true),(8,D (I (1000*R4))),(7,V.yl Si),(0,V.yl Si),(1,V.pl 16 0),(2,V.pl 17 0),(3,V.pl 15 0)],Cz s0 n1 f1 n3 f3 n5 f5 x7 x8 n9 f9 q Y RI Qz Qy R4 QY [A7.cells [D Xi,D UN] 40,A7.cells [V.sl n9 (A L f9)] 32,A7.cells [D (I (1000*Qz))] 3,A7.cells [D (I (1000*Qy))] 3,A7.cells [D (I (1000*Qz))] 3,A7.cells [V.sl q (A L Y)] 32,A7.cells [D (I (1000*R4))] 3,A7.cells [D (I (1000*QY))] 3,A7.cells [D (I (1000*Qy))] 3,A7.cells [V.sl q (A L Y)] 32,A7.cells [D (I (1000*R4))] 3,A7.cells [D (I (1000*QY))] 3],none)|.L5 RY SZ Xj Tz TW ..=>([(19,D RY),(18,D (q:Int)),(17,V.sl q (A L Y)),(16,V.kb false),(15,V.kb false),(14,V.kb true),(13,D (I (1000*QY))),(12,V.yl SZ),(11,V.kb false),(10,V.kb false),(9,V.kb true),(8,D (I (1000*R4))),(7,V.yl SZ),(0,V.yl SZ),(1,V.pl 12 0),(2,V.pl 13 0),(3,V.pl 11 0)],Cz s0 n1 f1 n3 f3 n5 f5 x7 x8 n9 f9 q Y RI Qz Qy R4 QY [A7.cells [D Xj,D Tz] 40,A7.cells [V.sl n9 (A L f9)] 32,A7.cells [D (I (1000*Qz))] 3,A7.cells [D (I (1000*Qy))] 3,A7.cells [D TW] 3,A7.cells [V.sl q (A L Y)] 32,A7.cells [D (I (1000*R4))] 3,A7.cells [D (I (1000*QY))] 3],none)
def aen:eS->JJ
 |.L0 _ Ry _ _ WB=>(0,[Cx.n WB,Cx.n Ry])|.L2 _ VN ..=>(2,[Cx.n VN])|.L4 _ Si _ _ Xp VY Vl VZ Va=>(4,[Cx.n Xp,Cx.i VY,Cx.n Vl,Cx.i VZ,Cx.i Va,Cx.n Si])|.L5 _ SZ _ _ _ Xr Xl Ut Uw=>(5,[Cx.n Xr,Cx.i Xl,Cx.i Ut,Cx.i Uw,Cx.n SZ])
def fa1:BO (cX JJ):=ba JJ yI u0 xh [V.agg [V.str s0,V.sl n1 (A L f1),V.sl n3 (A L f3),V.sl n5 (A [Ty.sl L] f5),D x7,D x8,V.sl n9 (A L f9),V.sl q (A L Y),D RI],V.agg [D Qz,D Qy,D R4,D QY]]
def xe (cx:List Cx):Lp JJ:=iZ (ik (Je (ik (Je (ik (fa1 s0 n1 f1 n3 f3 n5 f5 x7 x8 n9 f9 q Y RI Qz Qy R4 QY) []) (ge cx 0)) []) (ge cx 1)) IN)
def Dc (cx:List Cx):Lp JJ:=iZ (ik (Je (ik (vE yI u0 (0,[.n (ge cx 0),.n (ge cx 2)]) (xe s0 n1 f1 n3 f3 n5 f5 x7 x8 n9 f9 q Y RI Qz Qy R4 QY [.n (ge cx 0),.n (ge cx 2)]) (vR s0 n1 f1 n3 f3 n5 f5 x7 x8 n9 f9 q Y RI Qz Qy R4 QY (.L0 (c8 cx 1) (ge cx 2) (c8 cx 3) (c8 cx 4) (ge cx 0)))) [false]) (ge cx 5)) IN)
def EQ (cx:List Cx):Lp JJ:=iZ (ik (vE yI u0 (4,[.n (ge cx 0),.i (0:Int),.n 0,.i (0:Int),.i (0:Int),.n 0]) (Dc s0 n1 f1 n3 f3 n5 f5 x7 x8 n9 f9 q Y RI Qz Qy R4 QY [.n (ge cx 0),.i (0:Int),.n 0,.i (0:Int),.i (0:Int),.n 0]) (vR s0 n1 f1 n3 f3 n5 f5 x7 x8 n9 f9 q Y RI Qz Qy R4 QY (.L4 (0:Int) 0 (0:Int) (0:Int) (ge cx 0) (0:Int) 0 (0:Int) (0:Int)))) [false])
def ic11 (cx:List Cx):Lp JJ:=iZ (ik (Je (ik (vE yI u0 (2,[.n (ge cx 0)]) (EQ s0 n1 f1 n3 f3 n5 f5 x7 x8 n9 f9 q Y RI Qz Qy R4 QY [.n (ge cx 0)]) (vR s0 n1 f1 n3 f3 n5 f5 x7 x8 n9 f9 q Y RI Qz Qy R4 QY (.L2 (c8 cx 1) (ge cx 0) (c8 cx 2) (c8 cx 3)))) IN) (ge cx 4)) IN)
def ag5:JJ->Lp JJ
 |(0,cx)=>xe s0 n1 f1 n3 f3 n5 f5 x7 x8 n9 f9 q Y RI Qz Qy R4 QY cx|(2,cx)=>EQ s0 n1 f1 n3 f3 n5 f5 x7 x8 n9 f9 q Y RI Qz Qy R4 QY cx|(4,cx)=>Dc s0 n1 f1 n3 f3 n5 f5 x7 x8 n9 f9 q Y RI Qz Qy R4 QY cx|(5,cx)=>ic11 s0 n1 f1 n3 f3 n5 f5 x7 x8 n9 f9 q Y RI Qz Qy R4 QY cx|(_,cx)=>xe s0 n1 f1 n3 f3 n5 f5 x7 x8 n9 f9 q Y RI Qz Qy R4 QY cx
def amA:LD JJ eS:=⟨aen,ag5 s0 n1 f1 n3 f3 n5 f5 x7 x8 n9 f9 q Y RI Qz Qy R4 QY,vR s0 n1 f1 n3 f3 n5 f5 x7 x8 n9 f9 q Y RI Qz Qy R4 QY⟩
def abq:=A aK (cq [D (bc (A [Ty.sl L] f5) n9 (A L f9) q (A L Y) (I (1000*Qz)) (I (1000*QY))),D (aZ (A [Ty.sl L] f5) x7 n9 (A L f9) q (A L Y) (I (1000*Qz)) (I (1000*QY))),D (bc (A [Ty.sl L] f5) n9 (A L f9) q (A L Y) (I (1000*Qy)) (I (1000*R4))),D (aZ (A [Ty.sl L] f5) x7 n9 (A L f9) q (A L Y) (I (1000*Qy)) (I (1000*R4))),D (bc (A [Ty.sl L] f5) n9 (A L f9) q (A L Y) (I (1000*Qy)) (I (1000*QY))),D (aZ (A [Ty.sl L] f5) x7 n9 (A L f9) q (A L Y) (I (1000*Qy)) (I (1000*QY)))] 0 2)
def fC:=((2:Nat)<=n9/\n9<=(1000:Nat))/\((2:Nat)<=q/\q<=(1000:Nat))/\n9<=n5/\(∀(i:Nat),i<n5->q<=aU (aM (f5 i)))/\(∀(i:Nat),i+(1:Nat)<n9->I (aE (f9 (i+(1:Nat)))-aE (f9 i))≠(0:Int))/\∀(i:Nat),i+(1:Nat)<q->I (aE (Y (i+(1:Nat)))-aE (Y i))≠(0:Int)
def wu:=A aK (cq [D (bc (A [Ty.sl L] f5) n9 (A L f9) q (A L Y) (I (1000*Qy)) (I (1000*R4))),D (aZ (A [Ty.sl L] f5) x7 n9 (A L f9) q (A L Y) (I (1000*Qy)) (I (1000*R4)))] 0 2)
def wc:=A aK (cq [D (bc (A [Ty.sl L] f5) n9 (A L f9) q (A L Y) (I (1000*Qy)) (I (1000*QY))),D (aZ (A [Ty.sl L] f5) x7 n9 (A L f9) q (A L Y) (I (1000*Qy)) (I (1000*QY)))] 0 2)
def wd:=A aK (cq [D (bc (A [Ty.sl L] f5) n9 (A L f9) q (A L Y) (I (1000*Qz)) (I (1000*R4))),D (aZ (A [Ty.sl L] f5) x7 n9 (A L f9) q (A L Y) (I (1000*Qz)) (I (1000*R4)))] 0 2)
def v6:=A aK (cq [D (bc (A [Ty.sl L] f5) n9 (A L f9) q (A L Y) (I (1000*Qz)) (I (1000*QY))),D (aZ (A [Ty.sl L] f5) x7 n9 (A L f9) q (A L Y) (I (1000*Qz)) (I (1000*QY)))] 0 2)
def vW (R4 RN:Int):=A aK (cq [D (bc (A [Ty.sl L] f5) n9 (A L f9) q (A L Y) (aE (f9 RN.toNat)) (I (1000*R4))),D (aZ (A [Ty.sl L] f5) x7 n9 (A L f9) q (A L Y) (aE (f9 RN.toNat)) (I (1000*R4)))] 0 2)
def N5 (QY RN:Int):=A aK (cq [D (bc (A [Ty.sl L] f5) n9 (A L f9) q (A L Y) (aE (f9 RN.toNat)) (I (1000*QY))),D (aZ (A [Ty.sl L] f5) x7 n9 (A L f9) q (A L Y) (aE (f9 RN.toNat)) (I (1000*QY)))] 0 2)
def wB:=dS (aZ (A [Ty.sl L] f5) x7 n9 (A L f9) q (A L Y) (I (1000*Qz)) (I (1000*R4))) 3 (abq f5 x7 n9 f9 q Y Qz Qy R4 QY)
def sC:=dQ (bc (A [Ty.sl L] f5) n9 (A L f9) q (A L Y) (I (1000*Qz)) (I (1000*R4))) 3 (abq f5 x7 n9 f9 q Y Qz Qy R4 QY)
def EG (Qz Qg:Int):=A aK (cq [D (bc (A [Ty.sl L] f5) n9 (A L f9) q (A L Y) (I (1000*Qz)) (aE (Y Qg.toNat))),D (aZ (A [Ty.sl L] f5) x7 n9 (A L f9) q (A L Y) (I (1000*Qz)) (aE (Y Qg.toNat)))] 0 2)
def CZ (Qy Rj:Int):=A aK (cq [D (bc (A [Ty.sl L] f5) n9 (A L f9) q (A L Y) (I (1000*Qy)) (aE (Y Rj.toNat))),D (aZ (A [Ty.sl L] f5) x7 n9 (A L f9) q (A L Y) (I (1000*Qy)) (aE (Y Rj.toNat)))] 0 2)
def EN (RY TW:Int):=A aK (cq [D (bc (A [Ty.sl L] f5) n9 (A L f9) q (A L Y) TW (aE (Y RY.toNat))),D (aZ (A [Ty.sl L] f5) x7 n9 (A L f9) q (A L Y) TW (aE (Y RY.toNat)))] 0 2)
def yJ (R4 QY Qg:Int):=bif decide (I (1000*R4)<aE (Y Qg.toNat)) then decide (aE (Y Qg.toNat)<I (1000*QY)) else false
def yL (R4 QY Rj:Int):=bif decide (I (1000*R4)<aE (Y Rj.toNat)) then decide (aE (Y Rj.toNat)<I (1000*QY)) else false
def yN (R4 QY RY:Int):=bif decide (I (1000*R4)<aE (Y RY.toNat)) then decide (aE (Y RY.toNat)<I (1000*QY)) else false
def xV (Qz Qy RN:Int):=bif decide (I (1000*Qz)<aE (f9 RN.toNat)) then decide (aE (f9 RN.toNat)<I (1000*Qy)) else false
def gU (s0:ByteArray) (n1:Nat) (f1:bk) (n3:Nat) (f3:bk) (n5:Nat) (f5:bk) (x7 x8:Int) (n9:Nat) (f9:bk) (q:Nat) (Y:bk) (RI Qz Qy R4 QY:Int):eS->RT eS
 |.L0 Qg Ry Sg Sv WB=>.br (decide (Qg<(q:Int))) (.ob (dI Qg q) (.ii (.obi (.br (yJ Y R4 QY Qg) (.ob (yJ Y R4 QY Qg) (.ob (yJ Y R4 QY Qg) (.obp (((1:Nat)<=n9/\n9<=(1000:Nat))/\(1:Nat)<=q/\q<=(1000:Nat)) (.obt (.br (bg n9 (A L f9) q (A L Y) (I (1000*Qz)) (aE (Y Qg.toNat))) (.obp (fC n5 f5 n9 f9 q Y) (.obt (.cb (.next (iR 0 14 []) (eS.L0 (I (Qg+1)) Ry (dQ Sg 1 (EG f5 x7 n9 f9 q Y Qz Qg)) (dS Sv 1 (EG f5 x7 n9 f9 q Y Qz Qg)) WB) [])))) (.next (iR 0 14 []) (eS.L0 (I (Qg+1)) Ry Sg Sv WB) [])))))) (.next (iR 0 14 []) (eS.L0 (I (Qg+1)) Ry Sg Sv WB) []))))) (.all (λl_12647=>.obp (((1:Nat)<=n9/\n9<=(1000:Nat))/\(1:Nat)<=q/\q<=(1000:Nat)) (.obt (.br (bg n9 (A L f9) q (A L Y) (I (1000*Qy)) (I (1000*R4))) (.obp (fC n5 f5 n9 f9 q Y) (.obt (.cb (.obp (((1:Nat)<=n9/\n9<=(1000:Nat))/\(1:Nat)<=q/\q<=(1000:Nat)) (.obt (.br (bg n9 (A L f9) q (A L Y) (I (1000*Qy)) (I (1000*QY))) (.obp (fC n5 f5 n9 f9 q Y) (.obt (.cb (.am q (.enter (iR 0 18 []) (eS.L4 0 (l_12647) (dQ (dQ Sg 1 (wu f5 x7 n9 f9 q Y Qy R4)) 1 (wc f5 x7 n9 f9 q Y Qy QY)) (dS (dS Sv 1 (wu f5 x7 n9 f9 q Y Qy R4)) 1 (wc f5 x7 n9 f9 q Y Qy QY)) WB Qg Ry Sg Sv) []))))) (.am q (.enter (iR 0 18 []) (eS.L4 0 (l_12647) (dQ Sg 1 (wu f5 x7 n9 f9 q Y Qy R4)) (dS Sv 1 (wu f5 x7 n9 f9 q Y Qy R4)) WB Qg Ry Sg Sv) [])))))))) (.obp (((1:Nat)<=n9/\n9<=(1000:Nat))/\(1:Nat)<=q/\q<=(1000:Nat)) (.obt (.br (bg n9 (A L f9) q (A L Y) (I (1000*Qy)) (I (1000*QY))) (.obp (fC n5 f5 n9 f9 q Y) (.obt (.cb (.am q (.enter (iR 0 18 []) (eS.L4 0 (l_12647) (dQ Sg 1 (wc f5 x7 n9 f9 q Y Qy QY)) (dS Sv 1 (wc f5 x7 n9 f9 q Y Qy QY)) WB Qg Ry Sg Sv) []))))) (.am q (.enter (iR 0 18 []) (eS.L4 0 (l_12647) Sg Sv WB Qg Ry Sg Sv) [])))))))))|.L2 RN VN Tf Us=>.br (decide (RN<(n9:Int))) (.ob (dI RN n9) (.ii (.obi (.br (xV f9 Qz Qy RN) (.ob (xV f9 Qz Qy RN) (.ob (xV f9 Qz Qy RN) (.all (λl_12833=>.obp (((1:Nat)<=n9/\n9<=(1000:Nat))/\(1:Nat)<=q/\q<=(1000:Nat)) (.obt (.br (bg n9 (A L f9) q (A L Y) (aE (f9 RN.toNat)) (I (1000*R4))) (.obp (fC n5 f5 n9 f9 q Y) (.obt (.cb (.obp (((1:Nat)<=n9/\n9<=(1000:Nat))/\(1:Nat)<=q/\q<=(1000:Nat)) (.obt (.br (bg n9 (A L f9) q (A L Y) (aE (f9 RN.toNat)) (I (1000*QY))) (.obp (fC n5 f5 n9 f9 q Y) (.obt (.cb (.am q (.enter (iR 0 14 []) (eS.L5 0 (l_12833) (dQ (dQ Tf 1 (vW f5 x7 n9 f9 q Y R4 RN)) 1 (N5 f5 x7 n9 f9 q Y QY RN)) (dS (dS Us 1 (vW f5 x7 n9 f9 q Y R4 RN)) 1 (N5 f5 x7 n9 f9 q Y QY RN)) (aE (f9 RN.toNat)) VN RN Tf Us) []))))) (.am q (.enter (iR 0 14 []) (eS.L5 0 (l_12833) (dQ Tf 1 (vW f5 x7 n9 f9 q Y R4 RN)) (dS Us 1 (vW f5 x7 n9 f9 q Y R4 RN)) (aE (f9 RN.toNat)) VN RN Tf Us) [])))))))) (.obp (((1:Nat)<=n9/\n9<=(1000:Nat))/\(1:Nat)<=q/\q<=(1000:Nat)) (.obt (.br (bg n9 (A L f9) q (A L Y) (aE (f9 RN.toNat)) (I (1000*QY))) (.obp (fC n5 f5 n9 f9 q Y) (.obt (.cb (.am q (.enter (iR 0 14 []) (eS.L5 0 (l_12833) (dQ Tf 1 (N5 f5 x7 n9 f9 q Y QY RN)) (dS Us 1 (N5 f5 x7 n9 f9 q Y QY RN)) (aE (f9 RN.toNat)) VN RN Tf Us) []))))) (.am q (.enter (iR 0 14 []) (eS.L5 0 (l_12833) Tf Us (aE (f9 RN.toNat)) VN RN Tf Us) []))))))))))) (.next (iR 0 10 []) (eS.L2 (I (RN+1)) VN Tf Us) []))))) (.ret (V.agg [D Tf,D Us]))|.L4 Rj Si Xi UN Xp VY Vl VZ Va=>.br (decide (Rj<(q:Int))) (.ob (dI Rj q) (.ii (.obi (.br (yL Y R4 QY Rj) (.ob (yL Y R4 QY Rj) (.ob (yL Y R4 QY Rj) (.obp (((1:Nat)<=n9/\n9<=(1000:Nat))/\(1:Nat)<=q/\q<=(1000:Nat)) (.obt (.br (bg n9 (A L f9) q (A L Y) (I (1000*Qy)) (aE (Y Rj.toNat))) (.obp (fC n5 f5 n9 f9 q Y) (.obt (.cb (.next (iR 0 18 []) (eS.L4 (I (Rj+1)) Si (dQ Xi 1 (CZ f5 x7 n9 f9 q Y Qy Rj)) (dS UN 1 (CZ f5 x7 n9 f9 q Y Qy Rj)) Xp VY Vl VZ Va) [])))) (.next (iR 0 18 []) (eS.L4 (I (Rj+1)) Si Xi UN Xp VY Vl VZ Va) [])))))) (.next (iR 0 18 []) (eS.L4 (I (Rj+1)) Si Xi UN Xp VY Vl VZ Va) []))))) (.am n9 (.enter (iR 0 10 []) (eS.L2 0 Xp Xi UN) []))|.L5 RY SZ Xj Tz TW Xr Xl Ut Uw=>.br (decide (RY<(q:Int))) (.ob (dI RY q) (.ii (.obi (.br (yN Y R4 QY RY) (.ob (yN Y R4 QY RY) (.ob (yN Y R4 QY RY) (.obp (((1:Nat)<=n9/\n9<=(1000:Nat))/\(1:Nat)<=q/\q<=(1000:Nat)) (.obt (.br (bg n9 (A L f9) q (A L Y) TW (aE (Y RY.toNat))) (.obp (fC n5 f5 n9 f9 q Y) (.obt (.cb (.next (iR 0 14 []) (eS.L5 (I (RY+1)) SZ (dQ Xj 1 (EN f5 x7 n9 f9 q Y RY TW)) (dS Tz 1 (EN f5 x7 n9 f9 q Y RY TW)) TW Xr Xl Ut Uw) [])))) (.next (iR 0 14 []) (eS.L5 (I (RY+1)) SZ Xj Tz TW Xr Xl Ut Uw) [])))))) (.next (iR 0 14 []) (eS.L5 (I (RY+1)) SZ Xj Tz TW Xr Xl Ut Uw) []))))) (.next (iR 0 10 []) (eS.L2 (I (Xl+1)) Xr Xj Tz) [])
def grR:RT eS:=dm (s0,n1,f1,n3,f3,x8,RI) (.obp (fC n5 f5 n9 f9 q Y) (.obt (.obp (fC n5 f5 n9 f9 q Y) (.obt (.obp (fC n5 f5 n9 f9 q Y) (.obt (.obp (fC n5 f5 n9 f9 q Y) (.obt (.cb (.all (λl_12550=>.all (λl_12551=>.obp (((1:Nat)<=n9/\n9<=(1000:Nat))/\(1:Nat)<=q/\q<=(1000:Nat)) (.obt (.br (bg n9 (A L f9) q (A L Y) (I (1000*Qz)) (I (1000*R4))) (.obp (fC n5 f5 n9 f9 q Y) (.obt (.cb (.obp (((1:Nat)<=n9/\n9<=(1000:Nat))/\(1:Nat)<=q/\q<=(1000:Nat)) (.obt (.br (bg n9 (A L f9) q (A L Y) (I (1000*Qz)) (I (1000*QY))) (.obp (fC n5 f5 n9 f9 q Y) (.obt (.cb (.am q (.enter (iR 0 14 []) (eS.L0 0 (l_12551) (dQ (dQ (sC f5 x7 n9 f9 q Y Qz Qy R4 QY) 1 (wd f5 x7 n9 f9 q Y Qz R4)) 1 (v6 f5 x7 n9 f9 q Y Qz QY)) (dS (dS (wB f5 x7 n9 f9 q Y Qz Qy R4 QY) 1 (wd f5 x7 n9 f9 q Y Qz R4)) 1 (v6 f5 x7 n9 f9 q Y Qz QY)) (l_12550)) []))))) (.am q (.enter (iR 0 14 []) (eS.L0 0 (l_12551) (dQ (sC f5 x7 n9 f9 q Y Qz Qy R4 QY) 1 (wd f5 x7 n9 f9 q Y Qz R4)) (dS (wB f5 x7 n9 f9 q Y Qz Qy R4 QY) 1 (wd f5 x7 n9 f9 q Y Qz R4)) (l_12550)) [])))))))) (.obp (((1:Nat)<=n9/\n9<=(1000:Nat))/\(1:Nat)<=q/\q<=(1000:Nat)) (.obt (.br (bg n9 (A L f9) q (A L Y) (I (1000*Qz)) (I (1000*QY))) (.obp (fC n5 f5 n9 f9 q Y) (.obt (.cb (.am q (.enter (iR 0 14 []) (eS.L0 0 (l_12551) (dQ (sC f5 x7 n9 f9 q Y Qz Qy R4 QY) 1 (v6 f5 x7 n9 f9 q Y Qz QY)) (dS (wB f5 x7 n9 f9 q Y Qz Qy R4 QY) 1 (v6 f5 x7 n9 f9 q Y Qz QY)) (l_12550)) []))))) (.am q (.enter (iR 0 14 []) (eS.L0 0 (l_12551) (sC f5 x7 n9 f9 q Y Qz Qy R4 QY) (wB f5 x7 n9 f9 q Y Qz Qy R4 QY) (l_12550)) [])))))))))))))))))))
theorem nd2:ig yI u0 (amA s0 n1 f1 n3 f3 n5 f5 x7 x8 n9 f9 q Y RI Qz Qy R4 QY) (fa1 s0 n1 f1 n3 f3 n5 f5 x7 x8 n9 f9 q Y RI Qz Qy R4 QY) (grR s0 n1 f1 n3 f3 n5 f5 x7 x8 n9 f9 q Y RI Qz Qy R4 QY) (gU s0 n1 f1 n3 f3 n5 f5 x7 x8 n9 f9 q Y RI Qz Qy R4 QY):=⟨cG,λs=>by cases s<;>exact cG⟩
def NF (u v:Int) (o:Int×Int):Int×Int:=bif bg n9 f9 q Y u v then(min o.1 (bc f5 n9 f9 q Y u v),max o.2 (aZ f5 x7 n9 f9 q Y u v)) else o
def EK (lo hi v:Int):Bool:=bif decide (lo<v) then decide (v<hi) else false
def CJ (f5:bk) (x7:Int) (n9:Nat) (f9:bk) (q:Nat) (Y:bk) (y0 y1 u:Int) (o:Int×Int):Nat->Int×Int
 |0=>o|k+1=>bif EK y0 y1 (aE (Y k)) then NF f5 x7 n9 f9 q Y u (aE (Y k)) (CJ f5 x7 n9 f9 q Y y0 y1 u o k) else CJ f5 x7 n9 f9 q Y y0 y1 u o k
def FD (y0 y1 u:Int) (o:Int×Int):Int×Int:=NF f5 x7 n9 f9 q Y u y1 (NF f5 x7 n9 f9 q Y u y0 o)
def Wk (y0 y1 u:Int) (o:Int×Int):Int×Int:=CJ f5 x7 n9 f9 q Y y0 y1 u (FD f5 x7 n9 f9 q Y y0 y1 u o) q
def Ha (f5:bk) (x7:Int) (n9:Nat) (f9:bk) (q:Nat) (Y:bk) (R S y0 y1:Int) (o:Int×Int):Nat->Int×Int
 |0=>o|k+1=>bif EK R S (aE (f9 k)) then Wk f5 x7 n9 f9 q Y y0 y1 (aE (f9 k)) (Ha f5 x7 n9 f9 q Y R S y0 y1 o k) else Ha f5 x7 n9 f9 q Y R S y0 y1 o k
def Lo (R S y0 y1:Int):Int×Int:=(min (min (min (bc f5 n9 f9 q Y R y0) (bc f5 n9 f9 q Y R y1)) (bc f5 n9 f9 q Y S y0)) (bc f5 n9 f9 q Y S y1),max (max (max (aZ f5 x7 n9 f9 q Y R y0) (aZ f5 x7 n9 f9 q Y R y1)) (aZ f5 x7 n9 f9 q Y S y0)) (aZ f5 x7 n9 f9 q Y S y1))
def Ey (R S y0 y1:Int):Int×Int:=Ha f5 x7 n9 f9 q Y R S y0 y1 (Wk f5 x7 n9 f9 q Y y0 y1 S (Wk f5 x7 n9 f9 q Y y0 y1 R (Lo f5 x7 n9 f9 q Y R S y0 y1))) n9
def iX:Int:=(Ey f5 x7 n9 f9 q Y (I (1000*Qz)) (I (1000*Qy)) (I (1000*R4)) (I (1000*QY))).1
def iY:Int:=(Ey f5 x7 n9 f9 q Y (I (1000*Qz)) (I (1000*Qy)) (I (1000*R4)) (I (1000*QY))).2
theorem qB {f5:bk} {x7:Int} {n9:Nat} {f9:bk} {q:Nat} {Y:bk} {u v:Int} {o:Int×Int} (h:bg n9 f9 q Y u v=true):NF f5 x7 n9 f9 q Y u v o=(min o.1 (bc f5 n9 f9 q Y u v),max o.2 (aZ f5 x7 n9 f9 q Y u v)):=by unfold NF;rw[h];rfl
theorem s8 {f5:bk} {x7:Int} {n9:Nat} {f9:bk} {q:Nat} {Y:bk} {u v:Int} {o:Int×Int} (h:bg n9 f9 q Y u v=false):NF f5 x7 n9 f9 q Y u v o=o:=by unfold NF;rw[h];rfl
theorem xd {f5:bk} {x7:Int} {n9:Nat} {f9:bk} {q:Nat} {Y:bk} {y0 y1 u:Int} {o:Int×Int} {k:Nat} (h:(bif decide (y0<aE (Y k)) then decide (aE (Y k)<y1) else false)=true):CJ f5 x7 n9 f9 q Y y0 y1 u o (k+1)=NF f5 x7 n9 f9 q Y u (aE (Y k)) (CJ f5 x7 n9 f9 q Y y0 y1 u o k):=by show(bif EK _ _ _ then _ else _)=_;rw[show EK y0 y1 (aE (Y k))=true from h];rfl
theorem I7 {f5:bk} {x7:Int} {n9:Nat} {f9:bk} {q:Nat} {Y:bk} {y0 y1 u:Int} {o:Int×Int} {k:Nat} (h:(bif decide (y0<aE (Y k)) then decide (aE (Y k)<y1) else false)=false):CJ f5 x7 n9 f9 q Y y0 y1 u o (k+1)=CJ f5 x7 n9 f9 q Y y0 y1 u o k:=by show(bif EK _ _ _ then _ else _)=_;rw[show EK y0 y1 (aE (Y k))=false from h];rfl
theorem ab6 {f5:bk} {x7:Int} {n9:Nat} {f9:bk} {q:Nat} {Y:bk} {R S y0 y1:Int} {o:Int×Int} {k:Nat} (h:(bif decide (R<aE (f9 k)) then decide (aE (f9 k)<S) else false)=true):Ha f5 x7 n9 f9 q Y R S y0 y1 o (k+1)=Wk f5 x7 n9 f9 q Y y0 y1 (aE (f9 k)) (Ha f5 x7 n9 f9 q Y R S y0 y1 o k):=by show(bif EK _ _ _ then _ else _)=_;rw[show EK R S (aE (f9 k))=true from h];rfl
theorem hW' {f5:bk} {x7:Int} {n9:Nat} {f9:bk} {q:Nat} {Y:bk} {R S y0 y1:Int} {o:Int×Int} {k:Nat} (h:(bif decide (R<aE (f9 k)) then decide (aE (f9 k)<S) else false)=false):Ha f5 x7 n9 f9 q Y R S y0 y1 o (k+1)=Ha f5 x7 n9 f9 q Y R S y0 y1 o k:=by show(bif EK _ _ _ then _ else _)=_;rw[show EK R S (aE (f9 k))=false from h];rfl
theorem Ge {f5:bk} {x7:Int} {n9:Nat} {f9:bk} {q:Nat} {Y:bk} {y0 y1 u:Int} {o:Int×Int} (h:bg n9 f9 q Y u y0=true) (k:bg n9 f9 q Y u y1=true):FD f5 x7 n9 f9 q Y y0 y1 u o=(min (min o.1 (bc f5 n9 f9 q Y u y0)) (bc f5 n9 f9 q Y u y1),max (max o.2 (aZ f5 x7 n9 f9 q Y u y0)) (aZ f5 x7 n9 f9 q Y u y1)):=by unfold FD;rw[qB k,qB h]
theorem F5 {f5:bk} {x7:Int} {n9:Nat} {f9:bk} {q:Nat} {Y:bk} {y0 y1 u:Int} {o:Int×Int} (h:bg n9 f9 q Y u y0=true) (k:bg n9 f9 q Y u y1=false):FD f5 x7 n9 f9 q Y y0 y1 u o=(min o.1 (bc f5 n9 f9 q Y u y0),max o.2 (aZ f5 x7 n9 f9 q Y u y0)):=by unfold FD;rw[s8 k,qB h]
theorem E6 {f5:bk} {x7:Int} {n9:Nat} {f9:bk} {q:Nat} {Y:bk} {y0 y1 u:Int} {o:Int×Int} (h:bg n9 f9 q Y u y0=false) (k:bg n9 f9 q Y u y1=true):FD f5 x7 n9 f9 q Y y0 y1 u o=(min o.1 (bc f5 n9 f9 q Y u y1),max o.2 (aZ f5 x7 n9 f9 q Y u y1)):=by unfold FD;rw[qB k,s8 h]
theorem Gx {f5:bk} {x7:Int} {n9:Nat} {f9:bk} {q:Nat} {Y:bk} {y0 y1 u:Int} {o:Int×Int} (h:bg n9 f9 q Y u y0=false) (k:bg n9 f9 q Y u y1=false):FD f5 x7 n9 f9 q Y y0 y1 u o=o:=by unfold FD;rw[s8 k,s8 h]
section
variable {QZ:Type} {Nx:QZ->V->Prop} {r:V}
include QZ Nx r
theorem FZ {Qa Qe:Prop} {h0 M:Bool} {T11 T10 T01 T00:RT QZ} (hH:Qa) (hQ:Qe) (t11:h0=true->M=true->a6 Nx T11 r) (t10:h0=true->M=false->a6 Nx T10 r) (t01:h0=false->M=true->a6 Nx T01 r) (t00:h0=false->M=false->a6 Nx T00 r) :
 a6 Nx (.obp Qa (.obt (.br h0 (.obp Qe (.obt (.obc (.obt (.obp Qa (.obt (.br M (.obp Qe (.obt (.obc (.obt T11)))) T10))))))) (.obp Qa (.obt (.br M (.obp Qe (.obt (.obc (.obt T01)))) T00)))))) r :=
 aP hH (ak (E2 (λa=>aP hQ (ak (aC (ak (aP hH (ak (E2 (λc=>aP hQ (ak (aC (ak (t11 a c))))) (λc=>t10 a c)))))))) (λa=>aP hH (ak (E2 (λc=>aP hQ (ak (aC (ak (t01 a c))))) (λc=>t00 a c))))))
theorem SI {Qa Qe:Prop} {c0 c d h:Bool} {T1 id4 T3:RT QZ} (hc:c0=true) (hH:Qa) (hQ:Qe) (t1:c=true->h=true->a6 Nx T1 r) (t2:c=true->h=false->a6 Nx id4 r) (t3:c=false->a6 Nx T3 r) :
 a6 Nx (.ob c0 (.obi (.obi (.obi (.br c (.ob c (.ob c (.obp Qa (.obt (.br h (.obp Qe (.obt (.obc (.obt T1)))) id4))))) T3))))) r :=
 aL hc (BK (BK (BK (E2 (λa=>aL a (aL a (aP hH (ak (E2 (λe=>aP hQ (ak (aC (ak (t1 a e))))) (λe=>t2 a e)))))) (λa=>t3 a)))))
theorem aoF {c0 c:Bool} {T1 T3:RT QZ} (hc:c0=true) (t1:c=true->a6 Nx T1 r) (t3:c=false->a6 Nx T3 r) :
 a6 Nx (.ob c0 (.obi (.obi (.obi (.br c (.ob c (.ob c T1)) T3))))) r :=
 aL hc (BK (BK (BK (E2 (λa=>aL a (aL a (t1 a))) t3))))
end
def PM:Int×Int:=Lo (A [Ty.sl L] f5) x7 n9 (A L f9) q (A L Y) (I (1000*Qz)) (I (1000*Qy)) (I (1000*R4)) (I (1000*QY))
def Tl:Int×Int:=Wk (A [Ty.sl L] f5) x7 n9 (A L f9) q (A L Y) (I (1000*R4)) (I (1000*QY)) (I (1000*Qz)) (PM f5 x7 n9 f9 q Y Qz Qy R4 QY)
def Li:Int×Int:=Wk (A [Ty.sl L] f5) x7 n9 (A L f9) q (A L Y) (I (1000*R4)) (I (1000*QY)) (I (1000*Qy)) (Tl f5 x7 n9 f9 q Y Qz Qy R4 QY)
section
variable (s0:ByteArray) (n1:Nat) (f1:bk) (n3:Nat) (f3:bk) (n5:Nat) (f5:bk) (x7:Int) (x8:Int) (n9:Nat) (f9:bk) (q:Nat) (Y:bk) (RI:Int) (Qz:Int) (Qy:Int) (R4:Int) (QY:Int) (hp:om n5 (A [Ty.sl L] f5) n9 (A L f9) q (A L Y))
include hp
theorem mnZ (u i0 o1 o2:Int) (o:Int×Int) (nx:∃ Qo,∀ l1,tz (gU s0 n1 f1 n3 f3 n5 f5 x7 x8 n9 f9 q Y RI Qz Qy R4 QY) Qo (.L2 (I (i0+1)) l1 (CJ (A [Ty.sl L] f5) x7 n9 (A L f9) q (A L Y) (I (1000*R4)) (I (1000*QY)) u o q).1 (CJ (A [Ty.sl L] f5) x7 n9 (A L f9) q (A L Y) (I (1000*R4)) (I (1000*QY)) u o q).2) (.agg [D (iX (A [Ty.sl L] f5) x7 n9 (A L f9) q (A L Y) Qz Qy R4 QY),D (iY (A [Ty.sl L] f5) x7 n9 (A L f9) q (A L Y) Qz Qy R4 QY)])):∀ k,k<=q->∃ Qo,∀ l0 l1,tz (gU s0 n1 f1 n3 f3 n5 f5 x7 x8 n9 f9 q Y RI Qz Qy R4 QY) Qo (.L5 (k:Int) l0 (CJ (A [Ty.sl L] f5) x7 n9 (A L f9) q (A L Y) (I (1000*R4)) (I (1000*QY)) u o k).1 (CJ (A [Ty.sl L] f5) x7 n9 (A L f9) q (A L Y) (I (1000*R4)) (I (1000*QY)) u o k).2 u l1 i0 o1 o2) (.agg [D (iX (A [Ty.sl L] f5) x7 n9 (A L f9) q (A L Y) Qz Qy R4 QY),D (iY (A [Ty.sl L] f5) x7 n9 (A L f9) q (A L Y) Qz Qy R4 QY)]):=by
 refine gE λk W ih=>?_;have hb:=hp.b;by_cases Qw:k<q
 ·have hw:I ((k:Int)+1)=((k+1:Nat):Int):=by rw[D5 E E];omega
  obtain⟨Qo,ih⟩:=ih Qw;refine⟨Qo+1,λl0 l1=>?_⟩;have ih:=ih l0 l1;refine(show a6 (tz (gU s0 n1 f1 n3 f3 n5 f5 x7 x8 n9 f9 q Y RI Qz Qy R4 QY) Qo) _ _ from ?_);refine c9 (BH E) (SI (d:=true) (BH E) (LJ hp) hp (λa e=>bb ?_) (λa e=>bb ?_) (λa=>bb ?_))
  ·rw[hw];have e:bg n9 (A L f9) q (A L Y) u (aE ((A L Y) k))=true:=e;rw[xd (Y:=(A L Y)) (k:=k) a,qB e]at ih;exact ih
  ·rw[hw];have e:bg n9 (A L f9) q (A L Y) u (aE ((A L Y) k))=false:=e;rw[xd (Y:=(A L Y)) (k:=k) a,s8 e]at ih;exact ih
  ·rw[hw];rw[I7 (Y:=(A L Y)) (k:=k) a]at ih;exact ih
 ·have e:k=q:=by omega
  obtain⟨RO,nx⟩:=nx;refine⟨RO+1,λl0 l1=>?_⟩;refine(show a6 (tz (gU s0 n1 f1 n3 f3 n5 f5 x7 x8 n9 f9 q Y RI Qz Qy R4 QY) RO) _ _ from ?_);refine d5 (eZ E) ?_;rw[e];exact bb (nx l1)
theorem iu0:∀ k,k<=n9->∃ Qo,∀ l,tz (gU s0 n1 f1 n3 f3 n5 f5 x7 x8 n9 f9 q Y RI Qz Qy R4 QY) Qo (.L2 (k:Int) l (Ha (A [Ty.sl L] f5) x7 n9 (A L f9) q (A L Y) (I (1000*Qz)) (I (1000*Qy)) (I (1000*R4)) (I (1000*QY)) (Li f5 x7 n9 f9 q Y Qz Qy R4 QY) k).1 (Ha (A [Ty.sl L] f5) x7 n9 (A L f9) q (A L Y) (I (1000*Qz)) (I (1000*Qy)) (I (1000*R4)) (I (1000*QY)) (Li f5 x7 n9 f9 q Y Qz Qy R4 QY) k).2) (.agg [D (iX (A [Ty.sl L] f5) x7 n9 (A L f9) q (A L Y) Qz Qy R4 QY),D (iY (A [Ty.sl L] f5) x7 n9 (A L f9) q (A L Y) Qz Qy R4 QY)]):=by
 refine gE λk W ih=>?_;have ha:=hp.a;by_cases Qw:k<n9
 ·have hw:I ((k:Int)+1)=((k+1:Nat):Int):=by rw[D5 E E];omega
  have ih:=ih Qw;rw[← hw]at ih;by_cases hc:(bif decide ((I (1000*Qz))<aE ((A L f9) k)) then decide (aE ((A L f9) k)<(I (1000*Qy))) else false)=true
  ·rw [ab6 hc]at ih
   obtain⟨Qo,nx⟩:=mnZ s0 n1 f1 n3 f3 n5 f5 x7 x8 n9 f9 q Y RI Qz Qy R4 QY hp (aE (f9 k)) (k:Int) (Ha (A [Ty.sl L] f5) x7 n9 (A L f9) q (A L Y) (I (1000*Qz)) (I (1000*Qy)) (I (1000*R4)) (I (1000*QY)) (Li f5 x7 n9 f9 q Y Qz Qy R4 QY) k).1 (Ha (A [Ty.sl L] f5) x7 n9 (A L f9) q (A L Y) (I (1000*Qz)) (I (1000*Qy)) (I (1000*R4)) (I (1000*QY)) (Li f5 x7 n9 f9 q Y Qz Qy R4 QY) k).2 (FD (A [Ty.sl L] f5) x7 n9 (A L f9) q (A L Y) (I (1000*R4)) (I (1000*QY)) (aE (f9 k)) (Ha (A [Ty.sl L] f5) x7 n9 (A L f9) q (A L Y) (I (1000*Qz)) (I (1000*Qy)) (I (1000*R4)) (I (1000*QY)) (Li f5 x7 n9 f9 q Y Qz Qy R4 QY) k)) ih 0 (GG _);refine⟨Qo+1,λl=>?_⟩;refine(show a6 (tz (gU s0 n1 f1 n3 f3 n5 f5 x7 x8 n9 f9 q Y RI Qz Qy R4 QY) Qo) _ _ from ?_);refine c9 (BH E) (aoF (BH E) (λa=>zH λl5=>?_) (λa=>?_))
   ·rw [GR]
    exact(FZ (LJ hp) hp (λh0 M=>cg λ_=>aS (by
     have At:=nx l5 l;rw[Ge h0 M]at At;exact At)) (λh0 M=>cg λ_=>aS (by
     have At:=nx l5 l;rw[F5 h0 M]at At;exact At)) (λh0 M=>cg λ_=>aS (by
     have At:=nx l5 l;rw[E6 h0 M]at At;exact At)) (λh0 M=>cg λ_=>aS (by
     have At:=nx l5 l;rw[Gx h0 M]at At;exact At)))
   ·exact absurd (hc.symm.trans a) Ej
  ·have hc:=Bool.eq_false_iff.2 hc;rw[hW' hc]at ih;obtain⟨Qo,ih⟩:=ih;refine⟨Qo+1,λl=>?_⟩;refine(show a6 (tz (gU s0 n1 f1 n3 f3 n5 f5 x7 x8 n9 f9 q Y RI Qz Qy R4 QY) Qo) _ _ from ?_);refine c9 (BH E) (aoF (BH E) (λa=>?_) (λa=>bb (ih l)));exact absurd (hc.symm.trans a) Ej
 ·have e:k=n9:=by omega
  refine⟨1,λl=>?_⟩;refine(show a6 (tz (gU s0 n1 f1 n3 f3 n5 f5 x7 x8 n9 f9 q Y RI Qz Qy R4 QY) 0) _ _ from ?_);refine d5 (eZ E) ?_;rw[e];exact aA rfl
theorem iw7 :∀ k,k<=q->∃ Qo,∀ l0 n4 i5 n6 i7 i8,tz (gU s0 n1 f1 n3 f3 n5 f5 x7 x8 n9 f9 q Y RI Qz Qy R4 QY) Qo (.L4 (k:Int) l0 (CJ (A [Ty.sl L] f5) x7 n9 (A L f9) q (A L Y) (I (1000*R4)) (I (1000*QY)) (I (1000*Qy)) (FD (A [Ty.sl L] f5) x7 n9 (A L f9) q (A L Y) (I (1000*R4)) (I (1000*QY)) (I (1000*Qy)) (Tl f5 x7 n9 f9 q Y Qz Qy R4 QY)) k).1 (CJ (A [Ty.sl L] f5) x7 n9 (A L f9) q (A L Y) (I (1000*R4)) (I (1000*QY)) (I (1000*Qy)) (FD (A [Ty.sl L] f5) x7 n9 (A L f9) q (A L Y) (I (1000*R4)) (I (1000*QY)) (I (1000*Qy)) (Tl f5 x7 n9 f9 q Y Qz Qy R4 QY)) k).2 n4 i5 n6 i7 i8) (.agg [D (iX (A [Ty.sl L] f5) x7 n9 (A L f9) q (A L Y) Qz Qy R4 QY),D (iY (A [Ty.sl L] f5) x7 n9 (A L f9) q (A L Y) Qz Qy R4 QY)]):=by
 refine gE λk W ih=>?_;have hb:=hp.b;by_cases Qw:k<q
 ·have hw:I ((k:Int)+1)=((k+1:Nat):Int):=by rw[D5 E E];omega
  obtain⟨Qo,ih⟩:=ih Qw;refine⟨Qo+1,λl0 n4 i5 n6 i7 i8=>?_⟩;have ih:=ih l0 n4 i5 n6 i7 i8;refine(show a6 (tz (gU s0 n1 f1 n3 f3 n5 f5 x7 x8 n9 f9 q Y RI Qz Qy R4 QY) Qo) _ _ from ?_);refine c9 (BH E) (SI (d:=true) (BH E) (LJ hp) hp (λa e=>bb ?_) (λa e=>bb ?_) (λa=>bb ?_))
  ·rw[hw];have e:bg n9 (A L f9) q (A L Y) (I (1000*Qy)) (aE ((A L Y) k))=true:=e;rw[xd (Y:=(A L Y)) (k:=k) a,qB e]at ih;exact ih
  ·rw[hw];have e:bg n9 (A L f9) q (A L Y) (I (1000*Qy)) (aE ((A L Y) k))=false:=e;rw[xd (Y:=(A L Y)) (k:=k) a,s8 e]at ih;exact ih
  ·rw[hw];rw[I7 (Y:=(A L Y)) (k:=k) a]at ih;exact ih
 ·have e:k=q:=by omega
  obtain⟨RO,nx⟩:=iu0 s0 n1 f1 n3 f3 n5 f5 x7 x8 n9 f9 q Y RI Qz Qy R4 QY hp 0 (GG _);refine⟨RO+1,λl0 n4 i5 n6 i7 i8=>?_⟩;refine(show a6 (tz (gU s0 n1 f1 n3 f3 n5 f5 x7 x8 n9 f9 q Y RI Qz Qy R4 QY) RO) _ _ from ?_);refine d5 (eZ E) ?_;rw[e];exact cg λ_=>aS (nx n4)
theorem if9 :∀ k,k<=q->∃ Qo,∀ l0 n4,tz (gU s0 n1 f1 n3 f3 n5 f5 x7 x8 n9 f9 q Y RI Qz Qy R4 QY) Qo (.L0 (k:Int) l0 (CJ (A [Ty.sl L] f5) x7 n9 (A L f9) q (A L Y) (I (1000*R4)) (I (1000*QY)) (I (1000*Qz)) (FD (A [Ty.sl L] f5) x7 n9 (A L f9) q (A L Y) (I (1000*R4)) (I (1000*QY)) (I (1000*Qz)) (PM f5 x7 n9 f9 q Y Qz Qy R4 QY)) k).1 (CJ (A [Ty.sl L] f5) x7 n9 (A L f9) q (A L Y) (I (1000*R4)) (I (1000*QY)) (I (1000*Qz)) (FD (A [Ty.sl L] f5) x7 n9 (A L f9) q (A L Y) (I (1000*R4)) (I (1000*QY)) (I (1000*Qz)) (PM f5 x7 n9 f9 q Y Qz Qy R4 QY)) k).2 n4) (.agg [D (iX (A [Ty.sl L] f5) x7 n9 (A L f9) q (A L Y) Qz Qy R4 QY),D (iY (A [Ty.sl L] f5) x7 n9 (A L f9) q (A L Y) Qz Qy R4 QY)]):=by
 refine gE λk W ih=>?_;have hb:=hp.b;by_cases Qw:k<q
 ·have hw:I ((k:Int)+1)=((k+1:Nat):Int):=by rw[D5 E E];omega
  obtain⟨Qo,ih⟩:=ih Qw;refine⟨Qo+1,λl0 n4=>?_⟩;have ih:=ih l0 n4;refine(show a6 (tz (gU s0 n1 f1 n3 f3 n5 f5 x7 x8 n9 f9 q Y RI Qz Qy R4 QY) Qo) _ _ from ?_);refine c9 (BH E) (SI (d:=true) (BH E) (LJ hp) hp (λa e=>bb ?_) (λa e=>bb ?_) (λa=>bb ?_))
  ·rw[hw];have e:bg n9 (A L f9) q (A L Y) (I (1000*Qz)) (aE ((A L Y) k))=true:=e;rw[xd (Y:=(A L Y)) (k:=k) a,qB e]at ih;exact ih
  ·rw[hw];have e:bg n9 (A L f9) q (A L Y) (I (1000*Qz)) (aE ((A L Y) k))=false:=e;rw[xd (Y:=(A L Y)) (k:=k) a,s8 e]at ih;exact ih
  ·rw[hw];rw[I7 (Y:=(A L Y)) (k:=k) a]at ih;exact ih
 ·have e:k=q:=by omega
  obtain⟨RO,nx⟩:=iw7 s0 n1 f1 n3 f3 n5 f5 x7 x8 n9 f9 q Y RI Qz Qy R4 QY hp 0 (GG _);refine⟨RO+1,λl0 n4=>?_⟩;refine(show a6 (tz (gU s0 n1 f1 n3 f3 n5 f5 x7 x8 n9 f9 q Y RI Qz Qy R4 QY) RO) _ _ from ?_);refine d5 (eZ E) ?_;rw[e];exact zH λl4=>(FZ (LJ hp) hp (λh0 M=>cg λ_=>aS (by
   have At:=nx l4 n4 (q:Int) l0 (Tl f5 x7 n9 f9 q Y Qz Qy R4 QY).1 (Tl f5 x7 n9 f9 q Y Qz Qy R4 QY).2;rw[Ge h0 M]at At;exact At)) (λh0 M=>cg λ_=>aS (by
   have At:=nx l4 n4 (q:Int) l0 (Tl f5 x7 n9 f9 q Y Qz Qy R4 QY).1 (Tl f5 x7 n9 f9 q Y Qz Qy R4 QY).2;rw[F5 h0 M]at At;exact At)) (λh0 M=>cg λ_=>aS (by
   have At:=nx l4 n4 (q:Int) l0 (Tl f5 x7 n9 f9 q Y Qz Qy R4 QY).1 (Tl f5 x7 n9 f9 q Y Qz Qy R4 QY).2;rw[E6 h0 M]at At;exact At)) (λh0 M=>cg λ_=>aS (by
   have At:=nx l4 n4 (q:Int) l0 (Tl f5 x7 n9 f9 q Y Qz Qy R4 QY).1 (Tl f5 x7 n9 f9 q Y Qz Qy R4 QY).2;rw[Gx h0 M]at At;exact At)))
end
theorem afG (hp:om n5 (A [.sl L] f5) n9 (A L f9) q (A L Y)):a6 (Ev (gU s0 n1 f1 n3 f3 n5 f5 x7 x8 n9 f9 q Y RI Qz Qy R4 QY)) (grR s0 n1 f1 n3 f3 n5 f5 x7 x8 n9 f9 q Y RI Qz Qy R4 QY) (.agg [D (iX (A [.sl L] f5) x7 n9 (A L f9) q (A L Y) Qz Qy R4 QY),D (iY (A [.sl L] f5) x7 n9 (A L f9) q (A L Y) Qz Qy R4 QY)]):=by
 obtain⟨Qo,hN⟩:=if9 s0 n1 f1 n3 f3 n5 f5 x7 x8 n9 f9 q Y RI Qz Qy R4 QY hp 0 (GG _);exact aP hp (ak (aP hp (ak (aP hp (ak (aP hp (ak (aC (ak (zH λl4=>zH λl0=>(FZ (LJ hp) hp (λh0 M=>cg λ_=>aS (by
  have At:=hN l0 l4;rw[Ge h0 M]at At;exact⟨Qo,At⟩)) (λh0 M=>cg λ_=>aS (by
  have At:=hN l0 l4;rw[F5 h0 M]at At;exact⟨Qo,At⟩)) (λh0 M=>cg λ_=>aS (by
  have At:=hN l0 l4;rw[E6 h0 M]at At;exact⟨Qo,At⟩)) (λh0 M=>cg λ_=>aS (by
  have At:=hN l0 l4;rw[Gx h0 M]at At;exact⟨Qo,At⟩)))))))))))))
def aay:aD:=cK [.agg [.str,.sl L,.sl L,.sl [.sl L],tI,tI,.sl L,.sl L,tI],.agg kp] (λ
 |[.agg [.str s0,.sl n1 f1,.sl n3 f3,.sl n5 f5,.int _ x7,.int _ x8,.sl n9 f9,.sl q Y,.int _ RI],.agg [.int _ Qz,.int _ Qy,.int _ R4,.int _ QY]]=>om n5 f5 n9 f9 q Y|_=>False) λ
 |[.agg [.str s0,.sl n1 f1,.sl n3 f3,.sl n5 f5,.int _ x7,.int _ x8,.sl n9 f9,.sl q Y,.int _ RI],.agg [.int _ Qz,.int _ Qy,.int _ R4,.int _ QY]]=>.agg [D (iX f5 x7 n9 f9 q Y Qz Qy R4 QY),D (iY f5 x7 n9 f9 q Y Qz Qy R4 QY)]|_=>.any
theorem agD:c7 aay 50:=bo fe5 λ_ hp=>qV (nd2 ..) (afG _ _ _ _ _ _ _ _ _ _ _ _ _ _ _ _ _ _ hp)
def MP:bm:=(50,.con aay)::yI
theorem aoG:aV Tryz.prog BN D7 MP:=.con agD (fe5)
def hdS:RT Empty:=dm (s0,S,Z,O,x5,x6,Qn,Qp,RI) (.cb (.cb (.ret (V.agg [D (m7 x3 x8 Ql Qz Qy R4),D (m9 x3 x7 x9 Qz Qy R4)]))))
theorem ip0:dZ d7 (ba JJ MP u0 fu4 [V.agg [V.str s0,D S,D Z,D x3,D O,D x5,D x6,D x7,D x8,D x9,D Ql,D Qn,D Qp,D RI],V.agg [D Qz,D Qy,D R4]]) (hdS s0 S Z x3 O x5 x6 x7 x8 x9 Ql Qn Qp RI Qz Qy R4):=cG
def Ix:Int:=m7 x3 x8 Ql Qz Qy R4
def gP:Int:=m9 x3 x7 x9 Qz Qy R4
def Pl:V:=dm (s0,S,Z,O,x5,x6,Qn,Qp,RI) (.agg [D (Ix x3 x8 Ql Qz Qy R4),D (gP x3 x7 x9 Qz Qy R4)])
theorem adk:a6 dK (hdS s0 S Z x3 O x5 x6 x7 x8 x9 Ql Qn Qp RI Qz Qy R4) (Pl s0 S Z x3 O x5 x6 x7 x8 x9 Ql Qn Qp RI Qz Qy R4):=aC (ak (aC (ak (aA (by unfold Pl Ix gP;rfl)))))
def hcs:aD:=cK [.agg al,.agg CE] (λ_=>True) λ|[.agg [.str s0,.int _ S,.int _ Z,.int _ x3,.int _ O,.int _ x5,.int _ x6,.int _ x7,.int _ x8,.int _ x9,.int _ Ql,.int _ Qn,.int _ Qp,.int _ RI],.agg [.int _ Qz,.int _ Qy,.int _ R4]]=>Pl s0 S Z x3 O x5 x6 x7 x8 x9 Ql Qn Qp RI Qz Qy R4|_=>.any
theorem ah4:c7 hcs 48:=bo aoG λ_ hp=>er (ip0 ..) (adk _ _ _ _ _ _ _ _ _ _ _ _ _ _ _ _ _)
def Hy:bm:=(48,.con hcs)::MP
theorem Ft:aV Tryz.prog BN D7 Hy:=.con ah4 (aoG)
def aa5:RT Empty:=.obp ((aI H G)/\aI T Q) (.obt (.ii (.asm ((bu H (A ao G) T (A al Q)==0)=true->H<=9223372036854775807) (.obi (.br (bu H (A ao G) T (A al Q)==0) (.ob (bu H (A ao G) T (A al Q)==0) (.ob (bu H (A ao G) T (A al Q)==0) (.cb (.br (!aw O 0 (I ((H:Int)-1))) (.ret (D 4)) (.ret (D (bu H (A ao G) T (A al Q)))))))) (.ret (D (bu H (A ao G) T (A al Q)))))))))
theorem io6:dZ d7 (ba JJ Hy u0 evM [V.agg [V.sl H (A ao G),V.sl T (A al Q)],D O]) (aa5 H G T Q O):=cG
def kL:Int:=bif bu H (A ao G) T (A al Q)==0 then bif !aw O 0 (I ((H:Int)-1)) then 4 else bu H (A ao G) T (A al Q) else bu H (A ao G) T (A al Q)
def Dp:V:=D (kL H G T Q O)
theorem ahy (hp:aI H G/\aI T Q):a6 dK (aa5 H G T Q O) (Dp H G T Q O):=aP (by first|assumption|(exact hp)) (ak (BK (BK (FW (λa0=>BK (E2 (λh0=>aL (by first|assumption|(fail)) (aL (by first|assumption|(fail)) (aC (ak (E2 (λM=>aA (by unfold Dp kL;try rw[h0];try rw[M];rfl)) (λM=>aA (by unfold Dp kL;try rw[h0];try rw[M];rfl))))))) (λh0=>aA (by unfold Dp kL;try rw[h0];rfl))))))))
def abI:aD:=cK [.agg [.sl ao,.sl al],tI] (λ
 |[.agg [.sl H G,.sl T Q],.int _ O]=>aI H G/\aI T Q|_=>False) λ
 |[.agg [.sl H G,.sl T Q],.int _ O]=>Dp H G T Q O|_=>.any
theorem agS:c7 abI 94:=bo Ft λ_ hp=>er (io6 ..) (ahy _ _ _ _ _ hp)
def ff:Int:=bif dA H (A ao G) T (A al Q)==0 then bif !bz O 0 (I ((H:Int)-1)) then 4 else dA H (A ao G) T (A al Q) else dA H (A ao G) T (A al Q)
def Cc:Int:=bif dA H (A ao G) T (A al Q)==0 then bif !bz O 0 (I ((T:Int)-1)) then 4 else dA H (A ao G) T (A al Q) else dA H (A ao G) T (A al Q)
theorem Mm {x:Int} {n:Nat} (hn:n<=9223372036854775807) (h:(!aw x 0 (I ((n:Int)-1)))=false):decide (0<=x/\x<(n:Int))=true:=by
 rw[D5 E E]at h;unfold aw at h;refine BH ?_;by_cases M:0<=x
 ·by_cases N:x<=(n:Int)-1
  ·omega
  ·rw[BH M,eZ N]at h;simp at h
 ·rw[eZ M]at h;simp at h
def abe:RT Empty:=.obp ((aI H G)/\aI T Q) (.obt (.br (bu H (A ao G) T (A al Q)!=0) (.ret (V.tup [V.agg [V.str (ByteArray.mk (Array.mk [])),D 0,D 0,D 0,D 0,D 0,D 0,D 0,D 0,D 0,D 0,D 0,D 0,D 0],D (bu H (A ao G) T (A al Q))])) (.am T (.cb (.br (!aw O 0 (I ((T:Int)-1))) (.ret (V.tup [V.agg [V.str (ByteArray.mk (Array.mk [])),D 0,D 0,D 0,D 0,D 0,D 0,D 0,D 0,D 0,D 0,D 0,D 0,D 0],D 4])) (.ob (dI O T) (.ret (V.tup [V.agg [V.str (sv (aM (Q O.toNat))),D (bM (Q O.toNat)),D (d9 (Q O.toNat)),D (cH (Q O.toNat)),D (eV (Q O.toNat)),D (ck (Q O.toNat)),D (ck (ap (Q O.toNat))),D (ck (ap (ap (Q O.toNat)))),D (ck (ap (ap (ap (Q O.toNat))))),D (ck (ap (ap (ap (ap (Q O.toNat)))))),D (ck (ap (ap (ap (ap (ap (Q O.toNat))))))),D (ck (ap (ap (ap (ap (ap (ap (Q O.toNat)))))))),D (ck (ap (ap (ap (ap (ap (ap (ap (Q O.toNat))))))))),D (ck (ap (ap (ap (ap (ap (ap (ap (ap (Q O.toNat))))))))))],D 0]))))))))
theorem scV:dZ d7 (ba JJ Hy u0 fe1 [V.agg [V.sl H (A ao G),V.sl T (A al Q)],D O]) (abe H G T Q O):=cG
def vO:ByteArray:=bif bu H (A ao G) T (A al Q)!=0 then ByteArray.mk (Array.mk []) else bif !aw O 0 (I ((T:Int)-1)) then ByteArray.mk (Array.mk []) else sv (aM (Q O.toNat))
def bP:Int:=bif bu H (A ao G) T (A al Q)!=0 then 0 else bif !aw O 0 (I ((T:Int)-1)) then 0 else bM (Q O.toNat)
def wo:Int:=bif bu H (A ao G) T (A al Q)!=0 then 0 else bif !aw O 0 (I ((T:Int)-1)) then 0 else d9 (Q O.toNat)
def dV:Int:=bif bu H (A ao G) T (A al Q)!=0 then 0 else bif !aw O 0 (I ((T:Int)-1)) then 0 else cH (Q O.toNat)
def vX:Int:=bif bu H (A ao G) T (A al Q)!=0 then 0 else bif !aw O 0 (I ((T:Int)-1)) then 0 else eV (Q O.toNat)
def vJ:Int:=bif bu H (A ao G) T (A al Q)!=0 then 0 else bif !aw O 0 (I ((T:Int)-1)) then 0 else ck (Q O.toNat)
def v8:Int:=bif bu H (A ao G) T (A al Q)!=0 then 0 else bif !aw O 0 (I ((T:Int)-1)) then 0 else ck (ap (Q O.toNat))
def e7:Int:=bif bu H (A ao G) T (A al Q)!=0 then 0 else bif !aw O 0 (I ((T:Int)-1)) then 0 else ck (ap (ap (Q O.toNat)))
def fU:Int:=bif bu H (A ao G) T (A al Q)!=0 then 0 else bif !aw O 0 (I ((T:Int)-1)) then 0 else ck (ap (ap (ap (Q O.toNat))))
def fi:Int:=bif bu H (A ao G) T (A al Q)!=0 then 0 else bif !aw O 0 (I ((T:Int)-1)) then 0 else ck (ap (ap (ap (ap (Q O.toNat)))))
def eD:Int:=bif bu H (A ao G) T (A al Q)!=0 then 0 else bif !aw O 0 (I ((T:Int)-1)) then 0 else ck (ap (ap (ap (ap (ap (Q O.toNat))))))
def tl:Int:=bif bu H (A ao G) T (A al Q)!=0 then 0 else bif !aw O 0 (I ((T:Int)-1)) then 0 else ck (ap (ap (ap (ap (ap (ap (Q O.toNat)))))))
def tc:Int:=bif bu H (A ao G) T (A al Q)!=0 then 0 else bif !aw O 0 (I ((T:Int)-1)) then 0 else ck (ap (ap (ap (ap (ap (ap (ap (Q O.toNat))))))))
def rS:Int:=bif bu H (A ao G) T (A al Q)!=0 then 0 else bif !aw O 0 (I ((T:Int)-1)) then 0 else ck (ap (ap (ap (ap (ap (ap (ap (ap (Q O.toNat)))))))))
def cD:Int:=bif bu H (A ao G) T (A al Q)!=0 then bu H (A ao G) T (A al Q) else bif !aw O 0 (I ((T:Int)-1)) then 4 else 0
def Ez:V:=.tup [.agg [.str (vO H G T Q O),D (bP H G T Q O),D (wo H G T Q O),D (dV H G T Q O),D (vX H G T Q O),D (vJ H G T Q O),D (v8 H G T Q O),D (e7 H G T Q O),D (fU H G T Q O),D (fi H G T Q O),D (eD H G T Q O),D (tl H G T Q O),D (tc H G T Q O),D (rS H G T Q O)],D (cD H G T Q O)]
theorem afU (hp:aI H G/\aI T Q):a6 dK (abe H G T Q O) (Ez H G T Q O):=aP (by first|assumption|(exact hp)) (ak (E2 (λh0=>aA (by unfold Ez vO bP wo dV vX vJ v8 e7 fU fi eD tl tc rS cD;try rw[h0];rfl)) (λh0=>FW (λa1=>aC (ak (E2 (λM=>aA (by unfold Ez vO bP wo dV vX vJ v8 e7 fU fi eD tl tc rS cD;try rw[h0];try rw[M];rfl)) (λM=>aL (by first|assumption|((exact Mm (a1 rfl) M))) (aA (by unfold Ez vO bP wo dV vX vJ v8 e7 fU fi eD tl tc rS cD;try rw[h0];try rw[M];rfl)))))))))
def abg:aD:=cK [.agg [.sl ao,.sl al],tI] (λ
 |[.agg [.sl H G,.sl T Q],.int _ O]=>aI H G/\aI T Q|_=>False) λ
 |[.agg [.sl H G,.sl T Q],.int _ O]=>Ez H G T Q O|_=>.any
theorem ahB:c7 abg 45:=bo Ft λ_ hp=>er (scV ..) (afU _ _ _ _ _ hp)
structure fV (n:Nat) (f:bk):Prop where
 r:∀i,i<n->-5000<=aE (f i)/\aE (f i)<=5000
 u:∀i,i+1<n->aE (f i)<aE (f (i+1))
theorem akJ {n:Nat} {f g:bk} (hn:n<=12) (e:∀ i,aE (g i)=aE (f i)) (M:IX n g=true) (N:jt n g=true):fV n f:=by
 refine⟨λi hi=>?_,λi hi=>?_⟩
 ·have:=dh M i hi;have:=qt this;rw[e]at this;exact this
 ·have:=dh N (i+1) hi
  have:decide (aE (g i)<aE (g (i+1)))=true:=by unfold Ja at this;rw[D5 E E,show((((i+1:Nat):Int)==0)=false) from by simp;omega]at this;have h3:decide (aE (g ((((i+1:Nat):Int)-1).toNat))<aE (g (((i+1:Nat):Int).toNat)))=true:=this;rw[show(((i+1:Nat):Int)-1).toNat=i by omega,show((i+1:Nat):Int).toNat=i+1 by omega]at h3;exact h3
  have:=Fv this;rw[e,e]at this;exact this
theorem VW {G:bk} {a:Nat} (h:oB (A ao G) a=0):fV (aU (aM (ap (G a)))) (du (aM (ap (G a))))/\fV (aU (aM (ap (ap (G a))))) (du (aM (ap (ap (G a))))):=by have t:=Ku h;unfold oB at h;obtain⟨_,h⟩:=iQ h Ej;obtain⟨_,h⟩:=iQ h Ej;unfold OI at h;obtain⟨_,h⟩:=iQ h Ej;obtain⟨M,h⟩:=iQ h Ej;obtain⟨N,_⟩:=iQ h Ej;obtain⟨r1,r2⟩:=M2 M;obtain⟨u1,u2⟩:=M2 N;exact⟨akJ t.u.2 (λi=>rfl) r1 u1,akJ t.v.2 (λi=>rfl) r2 u2⟩
theorem anz {x:List V} {Qa:Int} (t:nm x) (u:fV (aU (aM (ap x))) (du (aM (ap x)))) (v:fV (aU (aM (ap (ap x)))) (du (aM (ap (ap x))))) (h:1<=Qa/\Qa<=30000) :
 om (ET x) (uQ x) (aU (aM (ap x))) (bp (du (aM (ap x))) Qa) (aU (aM (ap (ap x)))) (bp (du (aM (ap (ap x)))) Qa):=by
 have key:∀ {n:Nat} {f:bk},fV n f->∀ i:Nat,i+1<n->I (aE (bp f Qa (i+1))-aE (bp f Qa i))≠0:=by
  intro n f w i hi;have hu:=w.u i hi;have r0:=w.r i E;have r1:=w.r (i+1) hi;have b:∀a:Int,-5000<=a/\a<=5000->-150000000<=a*Qa/\a*Qa<=150000000:=λa ha=>by have M:a*Qa<=5000*Qa:=Fq ha.2 E;have N:(-5000)*Qa<=a*Qa:=Fq ha.1 E;omega
  have b0:=b _ r0;have b1:=b _ r1;have e:∀j,aE (bp f Qa j)=I (aE (f j)*Qa):=λj=>rfl;rw[e,e,D5 (x:=aE (f i)*Qa) E E,D5 (x:=aE (f (i+1))*Qa) E E,D5 E E];have:aE (f i)*Qa<aE (f (i+1))*Qa:=Of hu E;omega
 refine⟨⟨t.u.1,by have:=t.u.2;omega⟩,⟨t.v.1,by have:=t.v.2;omega⟩,by rw[t.n];exact Em _,λi hi=>?_,key u,key v⟩;have:=t.row i hi;show _<=aU (aM (uQ x i));omega
theorem ams {H:Nat} {G:bk} {T:Nat} {Q:bk} {O:Int} (h:cD H G T Q O=0) :
 (0<=bP H G T Q O/\bP H G T Q O<(H:Int))/\oB (A ao (A ao G)) (bP H G T Q O).toNat=0:=by
 unfold cD at h;have e:bu H (A ao G) T (A al Q)=0:=by
  by_cases e:bu H (A ao G) T (A al Q)=0
  ·exact e
  ·have:(bu H (A ao G) T (A al Q)!=0)=true:=by simpa using e
   rw[this]at h;exact h
 have c:=kT H (A ao G) T (A al Q);have v:yD H (A ao G) T (A al Q):=xI (by have:=congrArg (λp=>p.2.2) c;exact this.symm.trans e);have ne:(bu H (A ao G) T (A al Q)!=0)=false:=by rw[e];rfl
 rw[ne]at h;have hb:(!aw O 0 (I ((T:Int)-1)))=false:=by
  cases hh:(!aw O 0 (I ((T:Int)-1))) with
  |false=>rfl|true=>rw[hh]at h;cases h
 have l2:=v.l2;have r:=Fv (Mm E hb);have yax:bP H G T Q O=bM (Q O.toNat):=by unfold bP;rw[ne,hb];rfl
 have lm:=(XE (a:=O.toNat) v.l0 (v.lm O.toNat E)).t;have lm:0<=bM (Q O.toNat)/\bM (Q O.toNat)<(H:Int):=lm;rw[yax];exact⟨lm,v.tb _ E⟩
def Rm:bm:=(94,.con abI)::(45,.con abg)::Hy
theorem asj:aV Tryz.prog BN D7 Rm:=.con agS (.con ahB (Ft))
def wk:=λi=>au L (du (aM (ap (G (bP H (A ao G) T (A al Q) O).toNat))) i)
def wC:=λi=>au L (du (aM (ap (ap (G (bP H (A ao G) T (A al Q) O).toNat)))) i)
def Co:=((2:Nat)<=aU (aM (ap (G (bP H (A ao G) T (A al Q) O).toNat)))/\aU (aM (ap (G (bP H (A ao G) T (A al Q) O).toNat)))<=(1000:Nat))/\((2:Nat)<=aU (aM (ap (ap (G (bP H (A ao G) T (A al Q) O).toNat))))/\aU (aM (ap (ap (G (bP H (A ao G) T (A al Q) O).toNat))))<=(1000:Nat))/\aU (aM (ap (G (bP H (A ao G) T (A al Q) O).toNat)))<=aU (aM (ap (ap (ap (G (bP H (A ao G) T (A al Q) O).toNat)))))/\(∀(i:Nat),i<aU (aM (ap (ap (ap (G (bP H (A ao G) T (A al Q) O).toNat)))))->aU (aM (ap (ap (G (bP H (A ao G) T (A al Q) O).toNat))))<=aU (aM (du (aM (ap (ap (ap (G (bP H (A ao G) T (A al Q) O).toNat))))) i)))/\(∀(i:Nat),i+(1:Nat)<aU (aM (ap (G (bP H (A ao G) T (A al Q) O).toNat)))->I (aE (bp (wk H G T Q O) Qp (i+(1:Nat)))-aE (bp (wk H G T Q O) Qp i))≠(0:Int))/\∀(i:Nat),i+(1:Nat)<aU (aM (ap (ap (G (bP H (A ao G) T (A al Q) O).toNat))))->I (aE (bp (wC H G T Q O) Qp (i+(1:Nat)))-aE (bp (wC H G T Q O) Qp i))≠(0:Int)
def vV:RT Empty:=.obp (nz 1000) (.obt (.obp (nz 1000) (.obt (.ret (V.tup [V.agg [D (bE (I (iX (λi=>au [Ty.sl L] (du (aM (ap (ap (ap (G (bP H (A ao G) T (A al Q) O).toNat))))) i)) (eV (G (bP H (A ao G) T (A al Q) O).toNat)) (aU (aM (ap (G (bP H (A ao G) T (A al Q) O).toNat)))) (A L (bp (wk H G T Q O) Qp)) (aU (aM (ap (ap (G (bP H (A ao G) T (A al Q) O).toNat))))) (A L (bp (wC H G T Q O) Qp)) x8 x9 Ql Qn*Ix (dV H (A ao G) T (A al Q) O) (fU H (A ao G) T (A al Q) O) (eD H (A ao G) T (A al Q) O) x5 x6 x7)) 1000),D (bF (I (iY (λi=>au [Ty.sl L] (du (aM (ap (ap (ap (G (bP H (A ao G) T (A al Q) O).toNat))))) i)) (eV (G (bP H (A ao G) T (A al Q) O).toNat)) (aU (aM (ap (G (bP H (A ao G) T (A al Q) O).toNat)))) (A L (bp (wk H G T Q O) Qp)) (aU (aM (ap (ap (G (bP H (A ao G) T (A al Q) O).toNat))))) (A L (bp (wC H G T Q O) Qp)) x8 x9 Ql Qn*gP (dV H (A ao G) T (A al Q) O) (e7 H (A ao G) T (A al Q) O) (fi H (A ao G) T (A al Q) O) x5 x6 x7)) 1000)],D 0])))))
def jL:RT Empty:=.obp (Co H G T Q O Qp) (.obt (vV H G T Q O x5 x6 x7 x8 x9 Ql Qn Qp))
def pN:=aU (aM (ap (G (bP H (A ao G) T (A al Q) O).toNat)))<=(1000:Nat)/\aU (aM (ap (ap (G (bP H (A ao G) T (A al Q) O).toNat))))<=(1000:Nat)
def sH:RT Empty:=.und (.obp (pN H G T Q O) (.obt (.und (jL H G T Q O x5 x6 x7 x8 x9 Ql Qn Qp) (jL H G T Q O x5 x6 x7 x8 x9 Ql Qn Qp)))) (.obp (pN H G T Q O) (.obt (jL H G T Q O x5 x6 x7 x8 x9 Ql Qn Qp)))
def Bj:RT Empty:=.ob (dI (bP H (A ao G) T (A al Q) O) H) (.und (.cb (.und (.obp (pN H G T Q O) (.obt (.und (.obp (Co H G T Q O Qp) (.obt (.und (vV H G T Q O x5 x6 x7 x8 x9 Ql Qn Qp) (vV H G T Q O x5 x6 x7 x8 x9 Ql Qn Qp)))) (.und (.und (jL H G T Q O x5 x6 x7 x8 x9 Ql Qn Qp) (jL H G T Q O x5 x6 x7 x8 x9 Ql Qn Qp)) (.und (jL H G T Q O x5 x6 x7 x8 x9 Ql Qn Qp) (jL H G T Q O x5 x6 x7 x8 x9 Ql Qn Qp)))))) (.und (sH H G T Q O x5 x6 x7 x8 x9 Ql Qn Qp) (sH H G T Q O x5 x6 x7 x8 x9 Ql Qn Qp)))) (.und (.und (.cb (sH H G T Q O x5 x6 x7 x8 x9 Ql Qn Qp)) (.cb (.obp (pN H G T Q O) (.obt (jL H G T Q O x5 x6 x7 x8 x9 Ql Qn Qp))))) (.und (.cb (sH H G T Q O x5 x6 x7 x8 x9 Ql Qn Qp)) (.cb (.obp (pN H G T Q O) (.obt (jL H G T Q O x5 x6 x7 x8 x9 Ql Qn Qp)))))))
def Cj:RT Empty:=.br (cD H (A ao G) T (A al Q) O==0) (.cb (.br (eO x8 x9 Ql Qn Qp !=0) (.ret (V.tup [V.agg G7,D (eO x8 x9 Ql Qn Qp)])) (Bj H G T Q O x5 x6 x7 x8 x9 Ql Qn Qp))) (.br (cD H (A ao G) T (A al Q) O !=0) (.ret (V.tup [V.agg G7,D (cD H (A ao G) T (A al Q) O)])) (Bj H G T Q O x5 x6 x7 x8 x9 Ql Qn Qp))
def fz3:RT Empty:=.obp ((aI H G)/\aI T Q) (.obt (.br (cD H (A ao G) T (A al Q) O==0) (.ob (cD H (A ao G) T (A al Q) O==0) (.cb (.br (fj x5 x6 x7) (.brf (.brt (.ret (V.tup [V.agg G7,D 7])))) (Cj H G T Q O x5 x6 x7 x8 x9 Ql Qn Qp)))) (Cj H G T Q O x5 x6 x7 x8 x9 Ql Qn Qp)))
theorem jcm:dZ d7 (ba JJ Rm u0 Bz [V.agg [V.sl H (A ao G),V.sl T (A al Q)],D O,V.agg [D x5,D x6,D x7],V.agg [D x8,D x9,D Ql,D Qn],D Qp]) (fz3 H G T Q O x5 x6 x7 x8 x9 Ql Qn Qp):=cG
def vb (x:List V) (a c d e h:Int):Int:=iX (uQ x) (eV x) (aU (aM (ap x))) (A L (bp (du (aM (ap x))) h)) (aU (aM (ap (ap x)))) (A L (bp (du (aM (ap (ap x)))) h)) a c d e
def sD (x:List V) (a c d e h:Int):Int:=iY (uQ x) (eV x) (aU (aM (ap x))) (A L (bp (du (aM (ap x))) h)) (aU (aM (ap (ap x)))) (A L (bp (du (aM (ap (ap x)))) h)) a c d e
def CI:Int:=bif cD H G T Q O==0 then bif fj x5 x6 x7 then 7 else eO x8 x9 Ql Qn Qp else cD H G T Q O
def twL:Int:=bE (I (vb (G (bP H G T Q O).toNat) x8 x9 Ql Qn Qp*Ix (dV H G T Q O) (fU H G T Q O) (eD H G T Q O) x5 x6 x7)) 1000
def M5:Int:=bF (I (sD (G (bP H G T Q O).toNat) x8 x9 Ql Qn Qp*gP (dV H G T Q O) (e7 H G T Q O) (fi H G T Q O) x5 x6 x7)) 1000
def e8:Int:=bif CI H G T Q O x5 x6 x7 x8 x9 Ql Qn Qp==0 then twL H G T Q O x5 x6 x7 x8 x9 Ql Qn Qp else 0
def dR:Int:=bif CI H G T Q O x5 x6 x7 x8 x9 Ql Qn Qp==0 then M5 H G T Q O x5 x6 x7 x8 x9 Ql Qn Qp else 0
def jH:Int:=CI H G T Q O x5 x6 x7 x8 x9 Ql Qn Qp
theorem acC (hp:aI H (A ao G)/\aI T (A al Q)):a6 dK (fz3 H G T Q O x5 x6 x7 x8 x9 Ql Qn Qp) (.tup [.agg [D (e8 H (A ao G) T (A al Q) O x5 x6 x7 x8 x9 Ql Qn Qp),D (dR H (A ao G) T (A al Q) O x5 x6 x7 x8 x9 Ql Qn Qp)],D (jH H (A ao G) T (A al Q) O x5 x6 x7 x8 x9 Ql Qn Qp)]):=by
 have leaf:CI H (A ao G) T (A al Q) O x5 x6 x7 x8 x9 Ql Qn Qp=0->a6 dK (vV H G T Q O x5 x6 x7 x8 x9 Ql Qn Qp) (.tup [.agg [D (e8 H (A ao G) T (A al Q) O x5 x6 x7 x8 x9 Ql Qn Qp),D (dR H (A ao G) T (A al Q) O x5 x6 x7 x8 x9 Ql Qn Qp)],D (jH H (A ao G) T (A al Q) O x5 x6 x7 x8 x9 Ql Qn Qp)]):=λh=>aP Ej (ak (aP Ej (ak (aA (by unfold e8 dR jH;rw[h];rfl)))));have bad:∀ {e:Int},CI H (A ao G) T (A al Q) O x5 x6 x7 x8 x9 Ql Qn Qp=e->e≠0->a6 dK (.ret (V.tup [V.agg [D 0,D 0],D e])) (.tup [.agg [D (e8 H (A ao G) T (A al Q) O x5 x6 x7 x8 x9 Ql Qn Qp),D (dR H (A ao G) T (A al Q) O x5 x6 x7 x8 x9 Ql Qn Qp)],D (jH H (A ao G) T (A al Q) O x5 x6 x7 x8 x9 Ql Qn Qp)]):=λh h0=>aA (by unfold e8 dR jH;rw[h,show(_==(0:Int))=false from by simpa using h0];rfl);have L7:(cD H (A ao G) T (A al Q) O=0->fj x5 x6 x7=false)->a6 dK (Cj H G T Q O x5 x6 x7 x8 x9 Ql Qn Qp) (.tup [.agg [D (e8 H (A ao G) T (A al Q) O x5 x6 x7 x8 x9 Ql Qn Qp),D (dR H (A ao G) T (A al Q) O x5 x6 x7 x8 x9 Ql Qn Qp)],D (jH H (A ao G) T (A al Q) O x5 x6 x7 x8 x9 Ql Qn Qp)]):=λhw=>by
  have L2:cD H (A ao G) T (A al Q) O=0->eO x8 x9 Ql Qn Qp=0->a6 dK (Bj H G T Q O x5 x6 x7 x8 x9 Ql Qn Qp) (.tup [.agg [D (e8 H (A ao G) T (A al Q) O x5 x6 x7 x8 x9 Ql Qn Qp),D (dR H (A ao G) T (A al Q) O x5 x6 x7 x8 x9 Ql Qn Qp)],D (jH H (A ao G) T (A al Q) O x5 x6 x7 x8 x9 Ql Qn Qp)]):=λh0 hr=>by
   have ht:CI H (A ao G) T (A al Q) O x5 x6 x7 x8 x9 Ql Qn Qp=0:=by unfold CI;rw[h0,hw h0,hr];rfl
   have hb:=ams h0;have tb:=Ku hb.2;have up:=VW hb.2;have hH:1<=Qp/\Qp<=30000:=by
    unfold eO at hr;cases hh:aw Qp 1 30000 with
    |true=>exact qt hh|false=>rw[hh]at hr;cases hr
   have vw:=anz (Qa:=Qp) tb up.1 up.2 hH;have c4:Co H G T Q O Qp:=vw;have c6:pN H G T Q O:=⟨vw.1.2,vw.2.1.2⟩;have L3:=leaf ht;have L1:a6 dK (jL H G T Q O x5 x6 x7 x8 x9 Ql Qn Qp) (.tup [.agg [D (e8 H (A ao G) T (A al Q) O x5 x6 x7 x8 x9 Ql Qn Qp),D (dR H (A ao G) T (A al Q) O x5 x6 x7 x8 x9 Ql Qn Qp)],D (jH H (A ao G) T (A al Q) O x5 x6 x7 x8 x9 Ql Qn Qp)]):=aP c4 (ak L3);have L5:a6 dK (sH H G T Q O x5 x6 x7 x8 x9 Ql Qn Qp) (.tup [.agg [D (e8 H (A ao G) T (A al Q) O x5 x6 x7 x8 x9 Ql Qn Qp),D (dR H (A ao G) T (A al Q) O x5 x6 x7 x8 x9 Ql Qn Qp)],D (jH H (A ao G) T (A al Q) O x5 x6 x7 x8 x9 Ql Qn Qp)]):=⟨aP c6 (ak ⟨L1,L1⟩),aP c6 (ak L1)⟩;refine aL (BH hb.1) ?_
   repeat' (first|exact L3|exact L1|exact L5|refine ak ?_|refine aC ?_|refine aP c4 ?_|refine aP c6 ?_|constructor)
  refine E2 (λh=>aC (ak (E2 (λN=>?_) (λN=>L2 (HK h) (by simpa using N)))) ) (λh=>E2 (λN=>?_) (λN=>?_))
  ·exact bad (by unfold CI;rw[h,hw (HK h)];rfl) (by simpa using N)
  ·exact bad (by unfold CI;rw[h];rfl) (by simpa using N)
  ·exact absurd (by simpa using N:cD H (A ao G) T (A al Q) O=0) (by simpa using h)
 refine aP hp (ak (E2 (λh=>aL h (aC (ak (E2 (λN=>r8 (kr (bad (by unfold CI;rw[h,N];rfl) Ej))) (λN=>L7 λ_=>N))))) (λh=>L7 λN=>?_)));exact absurd N (by simpa using h)
def abM:aD:=cK [.agg [.sl ao,.sl al],tI,.agg CE,.agg kp,tI] (λ
 |[.agg [.sl H G,.sl T Q],.int _ O,.agg [.int _ x5,.int _ x6,.int _ x7],.agg [.int _ x8,.int _ x9,.int _ Ql,.int _ Qn],.int _ Qp]=>aI H G/\aI T Q|_=>False) λ
 |[.agg [.sl H G,.sl T Q],.int _ O,.agg [.int _ x5,.int _ x6,.int _ x7],.agg [.int _ x8,.int _ x9,.int _ Ql,.int _ Qn],.int _ Qp]=>.tup [.agg [D (e8 H G T Q O x5 x6 x7 x8 x9 Ql Qn Qp),D (dR H G T Q O x5 x6 x7 x8 x9 Ql Qn Qp)],D (jH H G T Q O x5 x6 x7 x8 x9 Ql Qn Qp)]|_=>.any
theorem acZ:c7 abM 19:=bo asj λ_ hp=>er (jcm ..) (acC _ _ _ _ _ _ _ _ _ _ _ _ _ hp)
set_option maxHeartbeats 0
set_option linter.unusedSectionVars false
def Kq (h:Int):Prop:=(2<=n1/\n1<=1000)/\(2<=n3/\n3<=1000)/\n1<=n5/\(∀i:Nat,i<n5->n3<=aU (aM (f5 i)))/\(∀i:Nat,i+1<n1->I (I (aE (f1 (i+1))-aE (f1 i))*h)≠0)/\(∀i:Nat,i+1<n3->I (I (aE (f3 (i+1))-aE (f3 i))*h)≠0)
theorem Kq.a {n1:Nat} {f1:bk} {n3:Nat} {f3:bk} {n5:Nat} {f5:bk} {h:Int} (hp:Kq n1 f1 n3 f3 n5 f5 h):2<=n1/\n1<=1000:=hp.1
theorem Kq.b {n1:Nat} {f1:bk} {n3:Nat} {f3:bk} {n5:Nat} {f5:bk} {h:Int} (hp:Kq n1 f1 n3 f3 n5 f5 h):2<=n3/\n3<=1000:=hp.2.1
section
variable {n1:Nat} {f1:bk} {n3:Nat} {f3:bk} {n5:Nat} {f5:bk} {h p At:Int} (hp:Kq n1 f1 n3 f3 n5 f5 h) (a:0<=p/\p+1<(n1:Int)) (c:0<=At/\At+1<(n3:Int))
include hp a c
end
section
variable (s0:ByteArray) (n1:Nat) (f1:bk) (n3:Nat) (f3:bk) (n5:Nat) (f5:bk) (x7:Int) (x8:Int) (x9:Int) (Ql:Int) (Qn:Int) (Qp:Int) (RI:Int) (hp:Kq n1 (A L f1) n3 (A L f3) n5 (A [Ty.sl L] f5) RI)
include hp
end
end
noncomputable section
theorem iw1 (x:Int):cD H G T Q x=Cc H G T Q x:=by
 have c:bu H (A ao G) T (A al Q)=dA H (A ao G) T (A al Q):=congrArg (λp=>p.2.2) (kT H (A ao G) T (A al Q));unfold cD Cc;rw[c];generalize dA H (A ao G) T (A al Q)=e;by_cases he:e=0
 ·subst he;rfl
 ·rw[show(e !=0)=true from by simpa using he,show(e==0)=false from by simpa using he];rfl
def Lk (QZ:Int->Int->Prop) (g0 g1:Int->Int->Int) (o:Int×Int):Prop:=(∃u v,QZ u v/\g0 u v=o.1)/\∃u v,QZ u v/\g1 u v=o.2
def yQ (g0 g1:Int->Int->Int) (u v:Int) (o:Int×Int):Prop:=o.1<=g0 u v/\g1 u v<=o.2
def Ci (a b:Int×Int):Prop:=a.1<=b.1/\b.2<=a.2
theorem Ci.refl (a:Int×Int):Ci a a:=⟨Ep _,Ep _⟩
theorem Ci.trans {a b c:Int×Int} (h:Ci a b) (k:Ci b c):Ci a c:=⟨Fg h.1 k.1,Fg k.2 h.2⟩
theorem yQ.le {g0 g1:Int->Int->Int} {u v:Int} {o p:Int×Int} (h:yQ g0 g1 u v o) (k:Ci p o):yQ g0 g1 u v p:=⟨Fg k.1 h.1,Fg h.2 k.2⟩
theorem vU {QZ:Int->Int->Prop} {g0 g1:Int->Int->Int} {o:Int×Int} {u v:Int} (h:Lk QZ g0 g1 o) (s:QZ u v):Lk QZ g0 g1 (min o.1 (g0 u v),max o.2 (g1 u v)):=by
 obtain⟨⟨a,b,s1,e1⟩,⟨c,d,s2,e2⟩⟩:=h;refine⟨?_,?_⟩
 ·show ∃ u' v',QZ u' v'/\g0 u' v'=min o.1 (g0 u v)
  rw[Int.min_def];split
  ·exact⟨a,b,s1,e1⟩
  ·exact⟨u,v,s,rfl⟩
 ·show ∃ u' v',QZ u' v'/\g1 u' v'=max o.2 (g1 u v)
  rw[Int.max_def];split
  ·exact⟨u,v,s,rfl⟩
  ·exact⟨c,d,s2,e2⟩
theorem aip {g0 g1:Int->Int->Int} {o:Int×Int} {u v:Int}:Ci (min o.1 (g0 u v),max o.2 (g1 u v)) o/\yQ g0 g1 u v (min o.1 (g0 u v),max o.2 (g1 u v)) :=
 ⟨⟨Int.min_le_left _ _,Int.le_max_left _ _⟩,⟨Int.min_le_right _ _,Int.le_max_right _ _⟩⟩
section
variable (f5:bk) (x7:Int) (n9:Nat) (f9:bk) (q:Nat) (Y:bk)
def JQ (n:Nat) (f:bk) (a b u:Int):Prop:=u=a∨u=b∨∃j,j<n/\EK a b (aE (f j))=true/\u=aE (f j)
theorem FL {QZ:Int->Int->Prop} {u v:Int} {o:Int×Int} (h:Lk QZ (bc f5 n9 f9 q Y) (aZ f5 x7 n9 f9 q Y) o) (s:bg n9 f9 q Y u v=true->QZ u v):Lk QZ (bc f5 n9 f9 q Y) (aZ f5 x7 n9 f9 q Y) (NF f5 x7 n9 f9 q Y u v o):=by
 cases hb:bg n9 f9 q Y u v with
 |true=>rw[qB hb];exact vU h (s hb)|false=>rw[s8 hb];exact h
theorem wW (u v:Int) (o:Int×Int):Ci (NF f5 x7 n9 f9 q Y u v o) o:=by
 cases hb:bg n9 f9 q Y u v with
 |true=>rw[qB hb];exact(aip (g0:=bc f5 n9 f9 q Y) (g1:=aZ f5 x7 n9 f9 q Y)).1|false=>rw[s8 hb];exact Ci.refl o
theorem FB (u v:Int) (o:Int×Int) (hb:bg n9 f9 q Y u v=true):yQ (bc f5 n9 f9 q Y) (aZ f5 x7 n9 f9 q Y) u v (NF f5 x7 n9 f9 q Y u v o):=by rw[qB hb];exact(aip (g0:=bc f5 n9 f9 q Y) (g1:=aZ f5 x7 n9 f9 q Y)).2
theorem wl {y0 y1 u:Int} {o:Int×Int}:∀ k,k<=q ->
 (∀QZ:Int->Int->Prop,Lk QZ (bc f5 n9 f9 q Y) (aZ f5 x7 n9 f9 q Y) o->(∀v,JQ q Y y0 y1 v->bg n9 f9 q Y u v=true->QZ u v)->Lk QZ (bc f5 n9 f9 q Y) (aZ f5 x7 n9 f9 q Y) (CJ f5 x7 n9 f9 q Y y0 y1 u o k)) /\
 Ci (CJ f5 x7 n9 f9 q Y y0 y1 u o k) o /\
 ∀j,j<k->EK y0 y1 (aE (Y j))=true->bg n9 f9 q Y u (aE (Y j))=true->yQ (bc f5 n9 f9 q Y) (aZ f5 x7 n9 f9 q Y) u (aE (Y j)) (CJ f5 x7 n9 f9 q Y y0 y1 u o k)
 |0,_=>⟨λQZ h _=>h,Ci.refl o,λj hj=>absurd hj (IG j)⟩
 |k+1,W=>by
   obtain⟨M,N,h3⟩:=wl (y0:=y0) (y1:=y1) (u:=u) (o:=o) k E;cases hb:EK y0 y1 (aE (Y k)) with
   |false=>
     rw[I7 hb];refine⟨M,N,λj hj a b=>?_⟩;rcases Nat.lt_succ_iff_lt_or_eq.1 hj with h|h
     ·exact h3 j h a b
     ·subst h;rw[hb]at a;cases a
   |true=>
     rw[xd hb];refine⟨λQZ h s=>FL f5 x7 n9 f9 q Y (M QZ h s) (s _ (.inr (.inr ⟨k,E,hb,rfl⟩))),Ci.trans (wW ..) N,λj hj a b=>?_⟩;rcases Nat.lt_succ_iff_lt_or_eq.1 hj with h|h
     ·exact yQ.le (h3 j h a b) (wW ..)
     ·subst h;exact FB _ _ _ _ _ _ _ _ _ b
theorem yu {y0 y1 u:Int} {o:Int×Int} {QZ:Int->Int->Prop} (h:Lk QZ (bc f5 n9 f9 q Y) (aZ f5 x7 n9 f9 q Y) o) (s:∀ v,JQ q Y y0 y1 v->bg n9 f9 q Y u v=true->QZ u v):Lk QZ (bc f5 n9 f9 q Y) (aZ f5 x7 n9 f9 q Y) (Wk f5 x7 n9 f9 q Y y0 y1 u o) :=
 (wl f5 x7 n9 f9 q Y q (Em _)).1 QZ (FL _ _ _ _ _ _ (FL _ _ _ _ _ _ h (s _ (.inl rfl))) (s _ (.inr (.inl rfl)))) s
theorem w6 (y0 y1 u:Int) (o:Int×Int):Ci (Wk f5 x7 n9 f9 q Y y0 y1 u o) o :=
 Ci.trans (wl f5 x7 n9 f9 q Y q (Em _)).2.1 (Ci.trans (wW ..) (wW ..))
theorem Fx {y0 y1 u v:Int} {o:Int×Int} (U:JQ q Y y0 y1 v) (hb:bg n9 f9 q Y u v=true):yQ (bc f5 n9 f9 q Y) (aZ f5 x7 n9 f9 q Y) u v (Wk f5 x7 n9 f9 q Y y0 y1 u o):=by
 have k:=wl f5 x7 n9 f9 q Y (y0:=y0) (y1:=y1) (u:=u) (o:=FD f5 x7 n9 f9 q Y y0 y1 u o) q (Em _);rcases U with h|h|⟨j,hj,a,e⟩
 ·subst h;exact yQ.le (yQ.le (FB _ _ _ _ _ _ _ _ _ hb) (wW ..)) k.2.1
 ·subst h;exact yQ.le (FB _ _ _ _ _ _ _ _ _ hb) k.2.1
 ·subst e;exact k.2.2 j hj a hb
def Av (R S y0 y1 u v:Int):Prop:=((u=R∨u=S)/\(v=y0∨v=y1))∨(JQ n9 f9 R S u/\JQ q Y y0 y1 v/\bg n9 f9 q Y u v=true)
theorem Bq {R S y0 y1:Int} {o:Int×Int} (ho:Lk (Av n9 f9 q Y R S y0 y1) (bc f5 n9 f9 q Y) (aZ f5 x7 n9 f9 q Y) o):∀ k,k<=n9 ->
 Lk (Av n9 f9 q Y R S y0 y1) (bc f5 n9 f9 q Y) (aZ f5 x7 n9 f9 q Y) (Ha f5 x7 n9 f9 q Y R S y0 y1 o k) /\
 Ci (Ha f5 x7 n9 f9 q Y R S y0 y1 o k) o /\
 ∀j,j<k->EK R S (aE (f9 j))=true->∀v,JQ q Y y0 y1 v->bg n9 f9 q Y (aE (f9 j)) v=true->yQ (bc f5 n9 f9 q Y) (aZ f5 x7 n9 f9 q Y) (aE (f9 j)) v (Ha f5 x7 n9 f9 q Y R S y0 y1 o k)
 |0,_=>⟨ho,Ci.refl o,λj hj=>absurd hj (IG j)⟩
 |k+1,W=>by
   obtain⟨M,N,h3⟩:=Bq ho k E;cases hb:EK R S (aE (f9 k)) with
   |false=>
     rw[hW' hb];refine⟨M,N,λj hj a v U b=>?_⟩;rcases Nat.lt_succ_iff_lt_or_eq.1 hj with h|h
     ·exact h3 j h a v U b
     ·subst h;rw[hb]at a;cases a
   |true=>
     rw[ab6 hb];refine⟨yu _ _ _ _ _ _ M (λv U hh=>.inr ⟨.inr (.inr ⟨k,E,hb,rfl⟩),U,hh⟩),Ci.trans (w6 ..) N,λj hj a v U b=>?_⟩;rcases Nat.lt_succ_iff_lt_or_eq.1 hj with h|h
     ·exact yQ.le (h3 j h a v U b) (w6 ..)
     ·subst h;exact Fx _ _ _ _ _ _ U b
theorem bx1 (R S y0 y1:Int):Lk (Av n9 f9 q Y R S y0 y1) (bc f5 n9 f9 q Y) (aZ f5 x7 n9 f9 q Y) (Lo f5 x7 n9 f9 q Y R S y0 y1) :=
 have a:Lk (Av n9 f9 q Y R S y0 y1) (bc f5 n9 f9 q Y) (aZ f5 x7 n9 f9 q Y) (bc f5 n9 f9 q Y R y0,aZ f5 x7 n9 f9 q Y R y0):=⟨⟨R,y0,.inl ⟨.inl rfl,.inl rfl⟩,rfl⟩,⟨R,y0,.inl ⟨.inl rfl,.inl rfl⟩,rfl⟩⟩
 vU (vU (vU a (.inl ⟨.inl rfl,.inr rfl⟩)) (.inl ⟨.inr rfl,.inl rfl⟩)) (.inl ⟨.inr rfl,.inr rfl⟩)
theorem aga {R S y0 y1 u v:Int} (hu:u=R∨u=S) (U:v=y0∨v=y1):yQ (bc f5 n9 f9 q Y) (aZ f5 x7 n9 f9 q Y) u v (Lo f5 x7 n9 f9 q Y R S y0 y1):=by unfold yQ Lo;rcases hu with rfl|rfl<;>rcases U with rfl|rfl<;>dsimp only<;>omega
theorem aqA (R S y0 y1:Int):Lk (Av n9 f9 q Y R S y0 y1) (bc f5 n9 f9 q Y) (aZ f5 x7 n9 f9 q Y) (Ey f5 x7 n9 f9 q Y R S y0 y1) :=
 (Bq f5 x7 n9 f9 q Y (yu _ _ _ _ _ _ (yu _ _ _ _ _ _ (bx1 ..) (λv U hh=>.inr ⟨.inl rfl,U,hh⟩)) (λv U hh=>.inr ⟨.inr (.inl rfl),U,hh⟩)) n9 (Em _)).1
theorem asL {R S y0 y1 u v:Int} (h:Av n9 f9 q Y R S y0 y1 u v):yQ (bc f5 n9 f9 q Y) (aZ f5 x7 n9 f9 q Y) u v (Ey f5 x7 n9 f9 q Y R S y0 y1):=by
 have k:=Bq f5 x7 n9 f9 q Y (yu _ _ _ _ _ _ (yu _ _ _ _ _ _ (bx1 f5 x7 n9 f9 q Y R S y0 y1) (λv U hh=>.inr ⟨.inl rfl,U,hh⟩)) (λv U hh=>.inr ⟨.inr (.inl rfl),U,hh⟩)) n9 (Em _);rcases h with ⟨hu,U⟩|⟨hu,U,hb⟩
 ·exact yQ.le (yQ.le (yQ.le (aga _ _ _ _ _ _ hu U) (w6 ..)) (w6 ..)) k.2.1
 ·rcases hu with h|h|⟨j,hj,a,e⟩
  ·subst h;exact yQ.le (yQ.le (Fx _ _ _ _ _ _ U hb) (w6 ..)) k.2.1
  ·subst h;exact yQ.le (Fx _ _ _ _ _ _ U hb) k.2.1
  ·subst e;exact k.2.2 j hj a v U hb
end
theorem xP {f:Nat->Int} {t:Int} {n:Nat} (hm:∀ a b,a<b->b<n->f a<f b):∀ d i j:Nat,j-i<=d->i<=j->j<=n->(∀ a,a<i->f a<t)->(∀ a,j<=a->a<n->t<=f a) ->
 (EU f t d i j<=n/\∀a,a<n->(f a<t↔a<EU f t d i j))
 |0,i,j,hd,VQ,hj,M,N=>by
   have:i=j:=by omega
   subst this;refine⟨hj,λa ha=>⟨λh=>?_,λh=>M a h⟩⟩;have e:EU f t 0 i i=i:=rfl;rw[e];rcases Hl a i with At|At
   ·exact At
   ·have:=N a At ha;omega
 |d+1,i,j,hd,VQ,hj,M,N=>by
   unfold EU;cases hb:Nat.blt i j with
   |false=>
     have hn:¬i<j:=λh=>by rw[Nat.blt_eq.mpr h]at hb;cases hb
     have:i=j:=by omega
     subst this;refine⟨hj,λa ha=>⟨λh=>?_,λh=>M a h⟩⟩;show a<i;rcases Hl a i with At|At
     ·exact At
     ·have:=N a At ha;omega
   |true=>
     have Qw:i<j:=Nat.blt_eq.mp hb;show(bif decide (f ((i+j) / 2)<t) then EU f t d ((i+j) / 2+1) j else EU f t d i ((i+j) / 2))<=n/\∀a,a<n->(f a<t↔a<(bif decide (f ((i+j) / 2)<t) then EU f t d ((i+j) / 2+1) j else EU f t d i ((i+j) / 2)));by_cases hc:f ((i+j) / 2)<t
     ·rw [BH hc]
      refine xP hm d _ j E E hj (λa ha=>?_) N;rcases Hl a ((i+j) / 2) with At|At
      ·have:=hm a _ At E;omega
      ·have:a=(i+j) / 2:=by omega
       subst this;exact hc
     ·rw [eZ hc]
      refine xP hm d i _ E E E M (λa ha hn=>?_);rcases Hl ((i+j) / 2) a with At|At
      ·have:=hm _ a At hn;omega
      ·have:a=(i+j) / 2:=by omega
       subst this;omega
theorem Sa {n:Nat} {f:Nat->Int} (h:∀ i,i+1<n->f i<f (i+1)):∀ a b,a<b->b<n->f a<f b
 |a,0,Sq,_=>absurd Sq (IG a)
 |a,b+1,Sq,hb=>by
   have M:=h b hb;rcases Nat.lt_succ_iff_lt_or_eq.1 Sq with At|At
   ·have:=Sa h a b At E;omega
   ·subst At;exact M
section
variable {n:Nat} {f:bk} {Qa:Int} (u:fV n f) (hn:2<=n/\n<=12) (hH:1<=Qa/\Qa<=30000)
include u hn hH
theorem gI (i:Nat) (hi:i<n):I (aE (f i)*Qa)=aE (f i)*Qa/\-150000000<=aE (f i)*Qa/\aE (f i)*Qa<=150000000:=by have _:=hn;have r:=u.r i hi;have M:aE (f i)*Qa<=5000*Qa:=Fq r.2 E;have N:(-5000)*Qa<=aE (f i)*Qa:=Fq r.1 E;exact⟨D5 E E,E,E⟩
theorem acg (i:Nat) (hi:i+1<n):I (aE (f i)*Qa)<I (aE (f (i+1))*Qa):=by rw[(gI u hn hH i E).1,(gI u hn hH (i+1) hi).1];exact Of (u.u i hi) E
end
section
variable {n:Nat} {f:bk} {m:Nat} {g:bk} {w:bk} {Qa:Int} (hu:fV n f) (U:fV m g) (hn:2<=n/\n<=12) (hm:2<=m/\m<=12) (hH:1<=Qa/\Qa<=30000)
include hu U hn hm hH
end
theorem sI (a b c d h:Int):eO a b c d h=mB a b c d h:=by unfold eO mB;rw[qf];rw[show(fM 4 λi=>bz (aE (A L (cq [D a,D b,D c,D d] 0 1) i)) (-200000) 200000)=((((true&&fF a)&&fF b)&&fF c)&&fF d) from rfl,show aw h 1 30000=bz h 1 30000 from rfl];generalize fF a=p;generalize fF b=At;generalize fF c=r;generalize fF d=s;cases p<;>cases At<;>cases r<;>cases s<;>rfl
theorem Mo {b:Bool} {z:Int} (h:(bif !!b then z else 7)=0):b=true/\z=0:=by
 cases b with
 |true=>exact⟨rfl,h⟩|false=>cases h
theorem Vo {a b c d h:Int} (e:mB a b c d h=0):(1<=h/\h<=30000)/\(-200000<=a/\a<=200000)/\(-200000<=b/\b<=200000)/\(-200000<=c/\c<=200000)/\(-200000<=d/\d<=200000):=by unfold mB at e;obtain⟨M,e⟩:=Mo e;obtain⟨N,e⟩:=Mo e;obtain⟨h3,e⟩:=Mo e;obtain⟨h4,e⟩:=Mo e;obtain⟨h5,_⟩:=iQ e Ej;exact⟨qt M,qt N,qt h3,qt h4,qt (GI h5)⟩
theorem ajD {H:Nat} {G:bk} {T:Nat} {Q:bk} {O:Int} (h:cD H G T Q O=0) :
 (bu H (A ao G) T (A al Q)!=0)=false/\(!aw O 0 (I ((T:Int)-1)))=false:=by
 unfold cD at h;cases e:(bu H (A ao G) T (A al Q)!=0) with
 |true=>rw[e]at h;have h:bu H (A ao G) T (A al Q)=0:=h;rw[h]at e;cases e
 |false=>
   rw[e]at h;cases hh:(!aw O 0 (I ((T:Int)-1))) with
   |true=>rw[hh]at h;cases h|false=>exact⟨rfl,rfl⟩
theorem db (ts:List Ty) (f:bk):A ts (A ts f)=A ts f:=funext λi=>fq ts (f i)
def Pg:bm:=(19,.con abM)::Rm
theorem fo2:aV Tryz.prog BN D7 Pg:=.con acZ (asj)
def hcf:RT Empty:=dm (O,n5,f5,n7,f7,n9,f9,q,Y,Rf,Qr) (.ob (dI QY Qm) (.ob (dI QY Qu) (.obp ((((-1000:Int)<=Qt/\Qt<=(1000:Int))/\((-1000:Int)<=RA/\RA<=(1000:Int))/\(Qt≠(0:Int)∨RA≠(0:Int)))/\((-400000000:Int)<=Qi/\Qi<=(400000000:Int))/\((-400000000:Int)<=Qk/\Qk<=(400000000:Int))/\((-400000000:Int)<=R5/\R5<=(400000000:Int))/\((-400000000:Int)<=RB/\RB<=(400000000:Int))/\((-400000000:Int)<=RE/\RE<=(400000000:Int))/\(-400000000:Int)<=RF/\RF<=(400000000:Int)) (.obt (.obp ((aI H G)/\aI T Q) (.obt (.ret (V.agg [D (e8 H (A ao G) T (A al Q) (aE (Qd QY.toNat)) (aE (Qf QY.toNat)) (bM (Qf QY.toNat)) (d9 (Qf QY.toNat)) (pM Qi Qk Qt RA R5 RB RE RF) (pY Qi Qk Qt RA R5 RB RE RF) (p8 Qi Qk Qt RA R5 RB RE RF) (p9 Qi Qk Qt RA R5 RB RE RF) Rl),D (dR H (A ao G) T (A al Q) (aE (Qd QY.toNat)) (aE (Qf QY.toNat)) (bM (Qf QY.toNat)) (d9 (Qf QY.toNat)) (pM Qi Qk Qt RA R5 RB RE RF) (pY Qi Qk Qt RA R5 RB RE RF) (p8 Qi Qk Qt RA R5 RB RE RF) (p9 Qi Qk Qt RA R5 RB RE RF) Rl)]))))))))
theorem jfw:dZ d7 (ba JJ Pg u0 AC [V.agg [V.sl H (A ao G),V.sl T (A al Q),D O,V.sl n5 (A aN f5),V.sl n7 (A aX f7),V.sl n9 (A aY f9),V.sl q (A aG Y),V.sl Qm (A L Qd),V.sl Qu (A CE Qf),D QY,V.str Rf,D Qi,D Qk,D Qr,D Qt,D RA],V.agg [D R5,D RB,D RE,D RF],D Rl]) (hcf H G T Q O n5 f5 n7 f7 n9 f9 q Y Qm Qd Qu Qf QY Rf Qi Qk Qr Qt RA R5 RB RE RF Rl):=cG
def pw (Q Qd Qf:bk) (i cx cy dx dy a b c d h:Int):Int:=e8 H G T Q (aE (Qd i.toNat)) (aE (Qf i.toNat)) (bM (Qf i.toNat)) (d9 (Qf i.toNat)) (pM cx cy dx dy a b c d) (pY cx cy dx dy a b c d) (p8 cx cy dx dy a b c d) (p9 cx cy dx dy a b c d) h
def pE (Q Qd Qf:bk) (i cx cy dx dy a b c d h:Int):Int:=dR H G T Q (aE (Qd i.toNat)) (aE (Qf i.toNat)) (bM (Qf i.toNat)) (d9 (Qf i.toNat)) (pM cx cy dx dy a b c d) (pY cx cy dx dy a b c d) (p8 cx cy dx dy a b c d) (p9 cx cy dx dy a b c d) h
theorem ag1 (H:Nat) (G:bk) (T:Nat) (Q:bk) (O:Int) (n5:Nat) (f5:bk) (n7:Nat) (f7:bk) (n9:Nat) (f9:bk) (q:Nat) (Y:bk) (Qm:Nat) (Qd:bk) (Qu:Nat) (Qf:bk) (QY:Int) (Rf:ByteArray) (Qi Qk Qr Qt RA R5 RB RE RF Rl:Int) (hp:(0<=QY/\QY<(Qm:Int))/\(0<=QY/\QY<(Qu:Int))/\(aI H (A ao G)/\aI T (A al Q))/\Hd Qt RA/\iO Qi/\iO Qk/\iO R5/\iO RB/\iO RE/\iO RF):a6 dK (hcf H G T Q O n5 f5 n7 f7 n9 f9 q Y Qm Qd Qu Qf QY Rf Qi Qk Qr Qt RA R5 RB RE RF Rl) (.agg [D (pw H (A ao G) T (A al Q) (A L Qd) (A CE Qf) QY Qi Qk Qt RA R5 RB RE RF Rl),D (pE H (A ao G) T (A al Q) (A L Qd) (A CE Qf) QY Qi Qk Qt RA R5 RB RE RF Rl)]):=by obtain⟨h0,M,hz,hd,hc⟩:=hp;refine aL (BH h0) (aL (BH M) (aP ⟨hd,hc⟩ (ak (aP hz (ak ?_)))));exact aA rfl
def hcl:aD:=cK [.agg [.sl ao,.sl al,tI,.sl aN,.sl aX,.sl aY,.sl aG,.sl L,.sl CE,tI,.str,tI,tI,tI,tI,tI],.agg kp,tI] (λ
 |[.agg [.sl H G,.sl T Q,.int _ O,.sl n5 f5,.sl n7 f7,.sl n9 f9,.sl q Y,.sl Qm Qd,.sl Qu Qf,.int _ QY,.str Rf,.int _ Qi,.int _ Qk,.int _ Qr,.int _ Qt,.int _ RA],.agg [.int _ R5,.int _ RB,.int _ RE,.int _ RF],.int _ Rl]=>(0<=QY/\QY<(Qm:Int))/\(0<=QY/\QY<(Qu:Int))/\(aI H G/\aI T Q)/\Hd Qt RA/\iO Qi/\iO Qk/\iO R5/\iO RB/\iO RE/\iO RF|_=>False) λ
 |[.agg [.sl H G,.sl T Q,.int _ O,.sl n5 f5,.sl n7 f7,.sl n9 f9,.sl q Y,.sl Qm Qd,.sl Qu Qf,.int _ QY,.str Rf,.int _ Qi,.int _ Qk,.int _ Qr,.int _ Qt,.int _ RA],.agg [.int _ R5,.int _ RB,.int _ RE,.int _ RF],.int _ Rl]=>.agg [D (pw H G T Q Qd Qf QY Qi Qk Qt RA R5 RB RE RF Rl),D (pE H G T Q Qd Qf QY Qi Qk Qt RA R5 RB RE RF Rl)]|_=>.any
theorem ads:c7 hcl 57:=bo fo2 λ_ hp=>er (jfw ..) (ag1 _ _ _ _ _ _ _ _ _ _ _ _ _ _ _ _ _ _ _ _ _ _ _ _ _ _ _ _ _ hp)
def ary (cx cy h vx vy dx dy:Int):Prop:=(-100000<=cx/\cx<=100000)/\(-100000<=cy/\cy<=100000)/\(1<=h/\h<=200)/\(-100000<=vx/\vx<=100000)/\(-100000<=vy/\vy<=100000)/\Hd dx dy
theorem aa1:dq=cL:=rfl
theorem aa3:dU=cN:=rfl
theorem OQ {a b:Int} {R0 B:Nat} (h:a.natAbs<=R0) (k:b.natAbs<=B):(a*b).natAbs<=R0*B:=by rw[Int.natAbs_mul];exact Hz h k
theorem fz15 (b:Int):0<=b*b:=by
 rcases I9 0 b with h|h
 ·exact fW h h
 ·exact Int.mul_nonneg_of_nonpos_of_nonpos h h
section
variable {cx cy h vx vy dx dy:Int} (o:ary cx cy h vx vy dx dy)
include o
end
end
noncomputable section
def lQ (p:Nat->Bool) (v:Nat->Int):Nat->Int
 |0=>0|k+1=>bif p k then I (lQ p v k+v k) else lQ p v k
theorem AH {p:Nat->Bool} {v:Nat->Int} {k:Nat} (h:p k=true):lQ p v (k+1)=I (lQ p v k+v k):=by show(bif p k then _ else _)=_;rw[h];rfl
theorem BG {p:Nat->Bool} {v:Nat->Int} {k:Nat} (h:p k=false):lQ p v (k+1)=lQ p v k:=by show(bif p k then _ else _)=_;rw[h];rfl
def LE (i:Nat):Bool:=decide (0<=aE (Qd i))
end
noncomputable section
theorem tV {e z a b:Int} (h:e=z) (h0:z≠0):dc (V.tup [V.agg [D 0,D 0],D z])=dc (V.tup [V.agg [D (io e a),D (io e b)],D e]):=by subst h;unfold io;rw[show(e==0)=false from by simpa using h0];rfl
theorem C8 {x:Int} (h:(x !=0)=true):x≠0:=by simpa using h
theorem arb {x:Int} (h:(x==0)=false):x≠0:=by simpa using h
theorem he3 {e a b:Int} (h:e=0):dc (V.tup [V.agg [D a,D b],D 0])=dc (V.tup [V.agg [D (io e a),D (io e b)],D e]):=by subst h;rfl
theorem sqs (a b:Int):pL a b=kJ a b:=by unfold pL kJ;show(bif cM a (-1000) 1000 then bif cM b (-1000) 1000 then !(a==0&&(b==0&&true)) else false else false)=_;rw[bne,bne];cases cM a (-1000) 1000<;>cases cM b (-1000) 1000<;>cases (a==0)<;>cases (b==0)<;>rfl
theorem ajk {a b:Int} (h:kJ a b=true):Hd a b:=by
 unfold kJ at h;cases M:cM a (-1000) 1000 with
 |false=>rw[M]at h;cases h
 |true=>
   rw[M]at h;cases N:cM b (-1000) 1000 with
   |false=>rw[N]at h;cases h
   |true=>
     rw[N]at h;refine⟨qt M,qt N,?_⟩;cases h3:a !=0 with
     |true=>exact .inl (by simpa using h3)
     |false=>rw[h3]at h;exact .inr (by simpa using(show(b !=0)=true from h))
theorem nu3 (x:Int):kL H G T Q x=ff H G T Q x:=by have c:bu H (A ao G) T (A al Q)=dA H (A ao G) T (A al Q):=congrArg (λp=>p.2.2) (kT H (A ao G) T (A al Q));unfold kL ff;rw[c];rfl
theorem arK {H:Nat} {G:bk} {T:Nat} {Q:bk} {O:Int} (h:ff H G T Q O=0) :
 (0<=O/\O<(H:Int))/\oB (A ao (A ao G)) O.toNat=0:=by
 unfold ff at h;have e:dA H (A ao G) T (A al Q)=0:=by
  by_cases e:dA H (A ao G) T (A al Q)=0
  ·exact e
  ·have:(dA H (A ao G) T (A al Q)==0)=false:=by simpa using e
   rw[this]at h;exact h
 have v:yD H (A ao G) T (A al Q):=xI e;rw[e]at h;have hb:(!bz O 0 (I ((H:Int)-1)))=false:=by
  cases hh:(!bz O 0 (I ((H:Int)-1))) with
  |false=>rfl|true=>rw[hh]at h;cases h
 have l0:=v.l0;have r:=Fv (Mm E hb);exact⟨r,v.tb _ E⟩
def FV (O a b c d h:Int):Int:=bif ff H G T Q O==0 then mB a b c d h else ff H G T Q O
def Bo (O a b c d h:Int):Int:=bif FV H G T Q O a b c d h==0 then vb (G O.toNat) a b c d h else 0
def AO (O a b c d h:Int):Int:=bif FV H G T Q O a b c d h==0 then sD (G O.toNat) a b c d h else 0
theorem alz {H:Nat} {G:bk} {T:Nat} {Q:bk} {O a b c d h:Int} (k:ff H G T Q O≠0):FV H G T Q O a b c d h=ff H G T Q O:=by unfold FV;rw[show(ff H G T Q O==0)=false from by simpa using k];rfl
theorem abG {H:Nat} {G:bk} {T:Nat} {Q:bk} {O a b c d h:Int} (k:ff H G T Q O=0):FV H G T Q O a b c d h=mB a b c d h:=by unfold FV;rw[k];rfl
theorem asE {H:Nat} {G:bk} {T:Nat} {Q:bk} {O a b c d h z:Int} (k:FV H G T Q O a b c d h=z) (k0:z≠0):dc (V.tup [V.agg [D 0,D 0],D z])=dc (V.tup [V.agg [D (Bo H G T Q O a b c d h),D (AO H G T Q O a b c d h)],D (FV H G T Q O a b c d h)]):=by unfold Bo AO;rw[k,show(z==0)=false from by simpa using k0];rfl
theorem anV {H:Nat} {G:bk} {T:Nat} {Q:bk} {O a b c d h:Int} (k:FV H G T Q O a b c d h=0):dc (V.tup [V.agg [D (vb (G O.toNat) a b c d h),D (sD (G O.toNat) a b c d h)],D 0])=dc (V.tup [V.agg [D (Bo H G T Q O a b c d h),D (AO H G T Q O a b c d h)],D (FV H G T Q O a b c d h)]):=by unfold Bo AO;rw[k];rfl
def Qq:bm:=(37,.inl ybb u0)::(57,.con hcl)::Pg
theorem aoU:aV Tryz.prog BN D7 Qq:=iB Tryz.func37 bw (.con ads (fo2))
def Po:RT Empty:=.ob (dI O H) (.obp (aU (aM (ap (G O.toNat)))<=(1000:Nat)/\aU (aM (ap (ap (G O.toNat))))<=(1000:Nat)) (.obt (.obp (((2:Nat)<=aU (aM (ap (G O.toNat)))/\aU (aM (ap (G O.toNat)))<=(1000:Nat))/\((2:Nat)<=aU (aM (ap (ap (G O.toNat))))/\aU (aM (ap (ap (G O.toNat))))<=(1000:Nat))/\aU (aM (ap (G O.toNat)))<=aU (aM (ap (ap (ap (G O.toNat)))))/\(∀(i:Nat),i<aU (aM (ap (ap (ap (G O.toNat)))))->aU (aM (ap (ap (G O.toNat))))<=aU (aM (du (aM (ap (ap (ap (G O.toNat))))) i)))/\(∀(i:Nat),i+(1:Nat)<aU (aM (ap (G O.toNat)))->I (aE (bp (λi=>au L (du (aM (ap (G O.toNat))) i)) x9 (i+(1:Nat)))-aE (bp (λi=>au L (du (aM (ap (G O.toNat))) i)) x9 i))≠(0:Int))/\∀(i:Nat),i+(1:Nat)<aU (aM (ap (ap (G O.toNat))))->I (aE (bp (λi=>au L (du (aM (ap (ap (G O.toNat)))) i)) x9 (i+(1:Nat)))-aE (bp (λi=>au L (du (aM (ap (ap (G O.toNat)))) i)) x9 i))≠(0:Int)) (.obt (.ret (V.tup [V.agg [D (iX (λi=>au [Ty.sl L] (du (aM (ap (ap (ap (G O.toNat))))) i)) (eV (G O.toNat)) (aU (aM (ap (G O.toNat)))) (A L (bp (λi=>au L (du (aM (ap (G O.toNat))) i)) x9)) (aU (aM (ap (ap (G O.toNat))))) (A L (bp (λi=>au L (du (aM (ap (ap (G O.toNat)))) i)) x9)) x5 x6 x7 x8),D (iY (λi=>au [Ty.sl L] (du (aM (ap (ap (ap (G O.toNat))))) i)) (eV (G O.toNat)) (aU (aM (ap (G O.toNat)))) (A L (bp (λi=>au L (du (aM (ap (G O.toNat))) i)) x9)) (aU (aM (ap (ap (G O.toNat))))) (A L (bp (λi=>au L (du (aM (ap (ap (G O.toNat)))) i)) x9)) x5 x6 x7 x8)],D 0]))))))
def MG:RT Empty:=.obp (aI H (A ao G)/\aI T (A al Q)) (.obt (.br (kL H (A ao G) T (A al Q) O==0) (.cb (.br (eO x5 x6 x7 x8 x9 !=0) (.ret (V.tup [V.agg G7,D (eO x5 x6 x7 x8 x9)])) (Po H G O x5 x6 x7 x8 x9))) (.br (kL H (A ao G) T (A al Q) O !=0) (.ret (V.tup [V.agg G7,D (kL H (A ao G) T (A al Q) O)])) (Po H G O x5 x6 x7 x8 x9))))
theorem x14:dZ d7 (ba JJ Qq u0 asu [V.agg [V.sl H (A ao G),V.sl T (A al Q)],D O,V.agg [D x5,D x6,D x7,D x8],D x9]) (MG H G T Q O x5 x6 x7 x8 x9):=cG
theorem agT (hp:aI H (A ao G)/\aI T (A al Q)):a6 dK (MG H G T Q O x5 x6 x7 x8 x9) (.tup [.agg [D (Bo H (A ao G) T (A al Q) O x5 x6 x7 x8 x9),D (AO H (A ao G) T (A al Q) O x5 x6 x7 x8 x9)],D (FV H (A ao G) T (A al Q) O x5 x6 x7 x8 x9)]):=by
 have L1:ff H (A ao G) T (A al Q) O=0->mB x5 x6 x7 x8 x9=0->a6 dK (Po H G O x5 x6 x7 x8 x9) (.tup [.agg [D (Bo H (A ao G) T (A al Q) O x5 x6 x7 x8 x9),D (AO H (A ao G) T (A al Q) O x5 x6 x7 x8 x9)],D (FV H (A ao G) T (A al Q) O x5 x6 x7 x8 x9)]):=λh0 hr=>by have ht:FV H (A ao G) T (A al Q) O x5 x6 x7 x8 x9=0:=(abG h0).trans hr;have hb:=arK h0;have w:=hb.2;rw[db]at w;have t:=Ku w;have u:=VW w;have r:=Vo hr;have vw:=anz (Qa:=x9) t u.1 u.2 r.1;exact aL (BH hb.1) (aP ⟨vw.1.2,vw.2.1.2⟩ (ak (aP vw (ak (aA (anV ht))))))
 unfold MG;rw[nu3,sI];refine aP hp (ak (E2 (λh=>aC (ak (E2 (λN=>?_) (λN=>L1 (HK h) (qK N))))) (λh=>E2 (λN=>?_) (λN=>?_))))
 ·exact aA (asE (abG (HK h)) (C8 N))
 ·exact aA (asE (alz (C8 N)) (C8 N))
 ·exact absurd (qK N) (arb h)
def hb1:aD:=cK [.agg [.sl ao,.sl al],tI,.agg kp,tI] (λ
 |[.agg [.sl H G,.sl T Q],.int _ O,.agg [.int _ x5,.int _ x6,.int _ x7,.int _ x8],.int _ x9]=>aI H G/\aI T Q|_=>False) λ
 |[.agg [.sl H G,.sl T Q],.int _ O,.agg [.int _ x5,.int _ x6,.int _ x7,.int _ x8],.int _ x9]=>.tup [.agg [D (Bo H G T Q O x5 x6 x7 x8 x9),D (AO H G T Q O x5 x6 x7 x8 x9)],D (FV H G T Q O x5 x6 x7 x8 x9)]|_=>.any
theorem aey:c7 hb1 65:=bo aoU λ_ hp=>er (x14 ..) (agT _ _ _ _ _ _ _ _ _ _ hp)
def Tm:bm:=Qq
theorem f13:aV Tryz.prog BN D7 Tm:=aoU
def abE:RT Empty:=dm (H,G,T,Q,O,n5,f5,n7,f7,n9,f9,q,Y,Qm,Qd,Qu,Qf,QY,Rf,Qr,Qt,RA) (.cb (.cb (.ret (V.tup [D (I (nD (I (R5-Qi)) (I (RE-Qi))+nD (I (RB-Qk)) (I (RF-Qk)))),D (I (oe (I (R5-Qi)) (I (RE-Qi))+oe (I (RB-Qk)) (I (RF-Qk))))]))))
theorem iz7:dZ d7 (ba JJ Tm u0 aqd [V.agg [V.sl H (A ao G),V.sl T (A al Q),D O,V.sl n5 (A aN f5),V.sl n7 (A aX f7),V.sl n9 (A aY f9),V.sl q (A aG Y),V.sl Qm (A L Qd),V.sl Qu (A CE Qf),D QY,V.str Rf,D Qi,D Qk,D Qr,D Qt,D RA],V.agg [D R5,D RB,D RE,D RF]]) (abE H G T Q O n5 f5 n7 f7 n9 f9 q Y Qm Qd Qu Qf QY Rf Qi Qk Qr Qt RA R5 RB RE RF):=cG
def acB:Int:=I (nD (I (R5-Qi)) (I (RE-Qi))+nD (I (RB-Qk)) (I (RF-Qk)))
def acq:Int:=I (oe (I (R5-Qi)) (I (RE-Qi))+oe (I (RB-Qk)) (I (RF-Qk)))
def MR:V:=dm (H,G,T,Q,O,n5,f5,n7,f7,n9,f9,q,Y,Qm,Qd,Qu,Qf,QY,Rf,Qr,Qt,RA) (.tup [D (acB Qi Qk R5 RB RE RF),D (acq Qi Qk R5 RB RE RF)])
theorem agA:a6 dK (abE H G T Q O n5 f5 n7 f7 n9 f9 q Y Qm Qd Qu Qf QY Rf Qi Qk Qr Qt RA R5 RB RE RF) (MR H G T Q O n5 f5 n7 f7 n9 f9 q Y Qm Qd Qu Qf QY Rf Qi Qk Qr Qt RA R5 RB RE RF):=aC (ak (aC (ak (aA (by unfold MR acB acq;rfl)))))
def hch:aD:=cK [.agg [.sl ao,.sl al,tI,.sl aN,.sl aX,.sl aY,.sl aG,.sl L,.sl CE,tI,.str,tI,tI,tI,tI,tI],.agg kp] (λ_=>True) λ|[.agg [.sl H G,.sl T Q,.int _ O,.sl n5 f5,.sl n7 f7,.sl n9 f9,.sl q Y,.sl Qm Qd,.sl Qu Qf,.int _ QY,.str Rf,.int _ Qi,.int _ Qk,.int _ Qr,.int _ Qt,.int _ RA],.agg [.int _ R5,.int _ RB,.int _ RE,.int _ RF]]=>MR H G T Q O n5 f5 n7 f7 n9 f9 q Y Qm Qd Qu Qf QY Rf Qi Qk Qr Qt RA R5 RB RE RF|_=>.any
theorem agr:c7 hch 58:=bo f13 λ_ hp=>er (iz7 ..) (agA _ _ _ _ _ _ _ _ _ _ _ _ _ _ _ _ _ _ _ _ _ _ _ _ _ _ _ _)
def H6:bm:=MD
theorem GA:aV Tryz.prog BN D7 H6:=Mt
def alK:RT Empty:=.br (R !=Z) (.ret (D (I (R-Z)))) (.ret (D (I (S-x3))))
theorem adb:dZ d7 (ba JJ H6 u0 alk [V.agg [D R,D S],V.agg [D Z,D x3]]) (alK R S Z x3):=cG
def ra:Int:=bif R !=Z then I (R-Z) else I (S-x3)
def Xa:V:=D (ra R S Z x3)
theorem aiY:a6 dK (alK R S Z x3) (Xa R S Z x3):=E2 (λh0=>aA (by unfold Xa ra;try rw[h0];rfl)) (λh0=>aA (by unfold Xa ra;try rw[h0];rfl))
def amk:aD:=cK [.agg aK,.agg aK] (λ_=>True) λ|[.agg [.int _ R,.int _ S],.agg [.int _ Z,.int _ x3]]=>Xa R S Z x3|_=>.any
theorem ajq:c7 amk 171:=bo GA λ_ hp=>er (adb ..) (aiY _ _ _ _)
def m49:RT Empty:=.obi (.br (!b8) (.ob (!b8) (.ob (!b8) (.ob (!b8) (.cb (.cb (.cb (.ret (V.bool (kk (b9 R Z x9 x3) (ci S Z Ql x3) (b9 R Z x9 O) (ci S Z Ql O) x5 x6 x7))))))))) (.ret (V.kb false)))
theorem an7:dZ d7 (ba JJ H6 u0 arj [V.agg [D R,D S,D Z,D x3,D O,D x5,D x6,D x7,V.bool b8],V.agg [D x9,D Ql]]) (m49 R S Z x3 O x5 x6 x7 b8 x9 Ql):=cG
def vl:Bool:=bif !b8 then kk (b9 R Z x9 x3) (ci S Z Ql x3) (b9 R Z x9 O) (ci S Z Ql O) x5 x6 x7 else false
def MH:V:=.bool (vl R S Z x3 O x5 x6 x7 b8 x9 Ql)
theorem apv:a6 dK (m49 R S Z x3 O x5 x6 x7 b8 x9 Ql) (MH R S Z x3 O x5 x6 x7 b8 x9 Ql):=BK (E2 (λh0=>aL (by first|assumption|(fail)) (aL (by first|assumption|(fail)) (aL (by first|assumption|(fail)) (aC (ak (aC (ak (aC (ak (aA (by unfold MH vl;try rw[h0];rfl))))))))))) (λh0=>aA (by unfold MH vl;try rw[h0];rfl)))
def Q2:aD:=cK [.agg [tI,tI,tI,tI,tI,tI,tI,tI,.bool],.agg aK] (λ_=>True) λ|[.agg [.int _ R,.int _ S,.int _ Z,.int _ x3,.int _ O,.int _ x5,.int _ x6,.int _ x7,.bool b8],.agg [.int _ x9,.int _ Ql]]=>MH R S Z x3 O x5 x6 x7 b8 x9 Ql|_=>.any
theorem ao8:c7 Q2 127:=bo GA λ_ hp=>er (an7 ..) (apv _ _ _ _ _ _ _ _ _ _ _)
def fza8:l8:=λ_=>5
def Fi:bm:=(171,.con amk)::(127,.con Q2)::H6
theorem ae9:aV Tryz.prog BN D7 Fi:=.con ajq (.con ao8 (GA))
def m56:RT Empty:=.cb (.ret (V.bool !vl Z x3 O x5 x6 x7 x8 x9 Rx R S))
theorem aiW:dZ d7 (ba JJ Fi u0 arJ [V.agg [D R,D S],V.pd [D Z,D x3,D O,D x5,D x6,D x7,D x8,D x9,V.bool Rx]]) (m56 R S Z x3 O x5 x6 x7 x8 x9 Rx):=cG
def GT:Bool:=!vl Z x3 O x5 x6 x7 x8 x9 Rx R S
def NL:V:=.bool (GT R S Z x3 O x5 x6 x7 x8 x9 Rx)
theorem arx:a6 dK (m56 R S Z x3 O x5 x6 x7 x8 x9 Rx) (NL R S Z x3 O x5 x6 x7 x8 x9 Rx):=aC (ak (aA (by unfold NL GT;rfl)))
def Q8:aD:=cK [.agg aK,.pd [tI,tI,tI,tI,tI,tI,tI,tI,.bool]] (λ_=>True) λ|[.agg [.int _ R,.int _ S],.pd [.int _ Z,.int _ x3,.int _ O,.int _ x5,.int _ x6,.int _ x7,.int _ x8,.int _ x9,.bool Rx]]=>NL R S Z x3 O x5 x6 x7 x8 x9 Rx|_=>.any
theorem ari:c7 Q8 126:=bo ae9 λ_ hp=>er (aiW ..) (arx _ _ _ _ _ _ _ _ _ _ _)
end
end Go.Dx
namespace Go.Dx
open Go.IntKind (i64 u64 u8)
open Go.Sx Go.Proofs
variable (H:Nat) (G:bk) (Z x3 O x5 x6 x7 x8 x9:Int) (Rx:Bool)
noncomputable section
def BD:bm:=(126,.con Q8)::Fi
theorem C63:aV Tryz.prog BN D7 BD:=.con ari (ae9)
inductive DZ where|L0 (_:Int)
def adr:DZ->bZ×List A7×Option Ex
 |.L0 Qg=>([(8,D Qg),(7,D (H:Int)),(6,V.sl H (A aK G)),(4,D 0),(0,V.sl H (A aK G)),(1,V.fn 126 [] [V.pd [D Z,D x3,D O,D x5,D x6,D x7,D x8,D x9,V.bool Rx]])],[],none)
def alq:DZ->JJ
 |.L0 _=>(0,[])
def abw:BO (cX JJ):=ba JJ BD u0 ajH [V.sl H (A aK G),V.fn 126 [] [V.pd [D Z,D x3,D O,D x5,D x6,D x7,D x8,D x9,V.bool Rx]]]
def aha (cx:List Cx):Lp JJ:=iZ (ik (abw H G Z x3 O x5 x6 x7 x8 x9 Rx) [])
def ano:JJ->Lp JJ
 |(0,cx)=>aha H G Z x3 O x5 x6 x7 x8 x9 Rx cx|(_,cx)=>aha H G Z x3 O x5 x6 x7 x8 x9 Rx cx
def aql:LD JJ DZ:=⟨alq,ano H G Z x3 O x5 x6 x7 x8 x9 Rx,adr H G Z x3 O x5 x6 x7 x8 x9 Rx⟩
def Pf:DZ->RT DZ
 |.L0 Qg=>.br (decide (Qg<(H:Int))) (.ob (decide (0<=Qg/\Qg<(H:Int))) (.cb (.br (GT (aE (G Qg.toNat)) (bM (G Qg.toNat)) Z x3 O x5 x6 x7 x8 x9 Rx) (.ret (D Qg)) (.next [] (DZ.L0 (I (Qg+1))) [])))) (.ret (D (-1)))
def Np:RT DZ:=dm (G,Z,x3,O,x5,x6,x7,x8,x9,Rx) (.am H (.enter [] (DZ.L0 0) []))
theorem aeQ:ig BD u0 (aql H G Z x3 O x5 x6 x7 x8 x9 Rx) (abw H G Z x3 O x5 x6 x7 x8 x9 Rx) (Np H G Z x3 O x5 x6 x7 x8 x9 Rx) (Pf H G Z x3 O x5 x6 x7 x8 x9 Rx):=⟨cG,λs=>by cases s<;>exact cG⟩
def Ln:Int  :=idx H λii=>GT (aE (G ii)) (bM (G ii)) Z x3 O x5 x6 x7 x8 x9 Rx
theorem nrT:a6 (Ev (Pf H G Z x3 O x5 x6 x7 x8 x9 Rx)) (Np H G Z x3 O x5 x6 x7 x8 x9 Rx) (D (Ln H G Z x3 O x5 x6 x7 x8 x9 Rx)):=cg λhn=>aS (pj hn λi=>rfl)
theorem anf:a6 (Ev (Pf H G Z x3 O x5 x6 x7 x8 x9 Rx)) (Np H G Z x3 O x5 x6 x7 x8 x9 Rx) (D (Ln H (A aK G) Z x3 O x5 x6 x7 x8 x9 Rx)):=nrT H G Z x3 O x5 x6 x7 x8 x9 Rx
def aoi:aD:=cK [.sl aK,.fn 126 [] [.pd [tI,tI,tI,tI,tI,tI,tI,tI,.bool]]] (λ_=>True) λ|[.sl H G,.fn _ [] [.pd [.int _ Z,.int _ x3,.int _ O,.int _ x5,.int _ x6,.int _ x7,.int _ x8,.int _ x9,.bool Rx]]]=>D (Ln H G Z x3 O x5 x6 x7 x8 x9 Rx)|_=>.any
theorem alV:c7 aoi 152:=bo C63 λ_ hp=>qV (aeQ ..) (anf _ _ _ _ _ _ _ _ _ _ _)
def zK:bm:=(152,.con aoi)::(199,.inl alo u0)::BD
theorem GN:aV Tryz.prog BN D7 zK:=.con alV (iB Tryz.func199 bw (C63))
def m55:RT Empty:=.cb (.ret (V.bool (decide (0<=Ln H (A aK G) Z x3 O x5 x6 x7 x8 x9 Rx))))
theorem anC:dZ d7 (ba JJ zK u0 aqa [V.sl H (A aK G),V.fn 126 [] [V.pd [D Z,D x3,D O,D x5,D x6,D x7,D x8,D x9,V.bool Rx]]]) (m55 H G Z x3 O x5 x6 x7 x8 x9 Rx):=cG
def C6:Bool:=decide (0<=Ln H (A aK G) Z x3 O x5 x6 x7 x8 x9 Rx)
def NH:V:=.bool (C6 H G Z x3 O x5 x6 x7 x8 x9 Rx)
theorem aq2:a6 dK (m55 H G Z x3 O x5 x6 x7 x8 x9 Rx) (NH H G Z x3 O x5 x6 x7 x8 x9 Rx):=aC (ak (aA (by unfold NH C6;rfl)))
def Q7:aD:=cK [.sl aK,.fn 126 [] [.pd [tI,tI,tI,tI,tI,tI,tI,tI,.bool]]] (λ_=>True) λ|[.sl H G,.fn _ [] [.pd [.int _ Z,.int _ x3,.int _ O,.int _ x5,.int _ x6,.int _ x7,.int _ x8,.int _ x9,.bool Rx]]]=>NH H G Z x3 O x5 x6 x7 x8 x9 Rx|_=>.any
theorem arp:c7 Q7 125:=bo GN λ_ hp=>er (anC ..) (aq2 _ _ _ _ _ _ _ _ _ _ _)
def akM:List V->Prop
 |[.int _ x]=>x=8|_=>False
def aq3:aD:=cK [.int .u64] akM λ_=>D 4
theorem aqD {w0:World}:bR (dz w0 (SV zK)) (ba JJ zK u0 hdy [.int .u64 8]) (qS (D 4)):=yP bw
theorem amC:(vP aq3).Ok Tryz.prog 185:=PK (un:=u0) GN Tryz.func185 bw λds hp=>by have TF:aE ds=8:=hp;intro hd w0;show bR _ (ba JJ zK u0 hdy [.int .u64 (aE ds)]) _;rw[TF];exact aqD
def alg:List V->Bool
 |[.int _ x]=>decide (x=8)|_=>false
def aaY:aD:=rH [.int .u64] alg λ_=>D 4
theorem acD:(vP aaY).Ok Tryz.prog 185:=mA (pre:=akM) (λds h=>by
 unfold alg at h;split at h
 ·rename_i x;exact(show x=8 from Fv h)
 ·cases h) amC
end
end Go.Dx
namespace Go.Dx
noncomputable section
theorem abU {ts:List Ty} (h:ts.all cz=true) {n:Nat} {p:Nat->Bool} {ds:List V} {f:bk} (M:xN ts n f) (hf:mq [] (au ts ds) ds=au ts ds):xN ts n λi=>cond (p i) ds (f i):=λi hi=>by
 show nM _ (au ts (cond (p i) ds (f i)))=true/\fR [] (cond (p i) ds (f i)) (au ts (cond (p i) ds (f i)));cases p i with
 |true=>exact⟨kQ h _,gW _ _ hf⟩|false=>exact M i hi
end
end Go.Dx
namespace Go.Dx
open Go.IntKind (i64 u64 u8)
open Go.Sx
noncomputable section
theorem HM {x:Int} (M:0<=x) (N:x<18446744073709551616):u64.wrap x=x:=IntWalk.u64_in _ E
theorem sU {x y R0 B:Int} (M:-R0<=x) (N:x<=R0) (h3:-B<=y) (h4:y<=B):-(R0*B)<=x*y/\x*y<=R0*B:=by
 have hA:0<=R0:=by omega
 have hB:0<=B:=by omega
 by_cases hy:0<=y
 ·have a1:x*y<=R0*y:=Fq N hy;have a2:R0*y<=R0*B:=oo h4 hA;have a3:-R0*y<=x*y:=Fq M hy;rw[Io]at a3;exact⟨E,E⟩
 ·have vh:0<=-y:=by omega
  have a1:x*(-y)<=R0*(-y):=Fq N vh;have a2:R0*(-y)<=R0*B:=oo E hA;have a3:-R0*(-y)<=x*(-y):=Fq M vh;have b1:x*(-y)=-(x*y):=JH _ _;have b3:-R0*(-y)=-(R0*(-y)):=Io _ _;exact⟨E,E⟩
theorem sqN (x:Int):0<=x*x:=by
 by_cases h:0<=x
 ·exact fW h h
 ·rw[← Ij];exact fW E E
theorem parts {x:Int} (h0:0<=x) (M:x<18446744073709551616):0<=x / 4294967296/\x / 4294967296<=4294967295/\0<=x % 4294967296/\x % 4294967296<=4294967295:=by omega
theorem anX {x y:Int} (Yl:0<=x) (hx:x<18446744073709551616) (VE:0<=y) (hy:y<18446744073709551616):um x y=x*y / 18446744073709551616:=by rw[← mul64_arith x y Yl hx VE hy];unfold um;simp only[and_low32 _ Yl hx,and_low32 _ VE hy,IntKind.wrap_u64];rw[and_low32 _ E E];simp only[show(2:Int) ^ 32=4294967296 from rfl];rw[Ji _ E,Ji _ E,Ji _ E,Ji _ E,Ji _ E]
theorem alQ (x y:Int):uD x y=x*y % 18446744073709551616:=by unfold uD;rw[IntKind.wrap_u64]
theorem ic2 {x y z w:Int} (Yl:0<=x) (hx:x<9223372036854775808) (VE:0<=y) (hy:y<9223372036854775808) (VT:0<=z) (hz:z<9223372036854775808) (hw0:0<=w) (hw:w<9223372036854775808) :
 ug (nu x y) (ox x y) (nu z w) (ox z w)=decide (x*y<=z*w):=by
 unfold nu ox ug;rw[HM Yl E,HM VE E,HM VT E,HM hw0 E];rw[anX Yl E VE E,anX VT E hw0 E,alQ,alQ];generalize x*y=a;generalize z*w=b;rw[KE];simp only[LZ,Bool.and_true,Eg,HX,GV];split<;>(try split)<;>(try split)<;>simp_all<;>omega
def nr (ax ay bx by' px py r:Int):Bool :=
 bif decide ((px-ax)*(bx-ax)+(py-ay)*(by'-ay)<=0) then decide ((px-ax)*(px-ax)+(py-ay)*(py-ay)<=r*r)
 else bif decide ((bx-ax)*(bx-ax)+(by'-ay)*(by'-ay)<=(px-ax)*(bx-ax)+(py-ay)*(by'-ay)) then decide ((px-bx)*(px-bx)+(py-by')*(py-by')<=r*r)
 else decide (((bx-ax)*(py-ay)-(by'-ay)*(px-ax))*((bx-ax)*(py-ay)-(by'-ay)*(px-ax))<=r*r*((bx-ax)*(bx-ax)+(by'-ay)*(by'-ay)))
def sm (x:Int):Prop:=-536870912<=x/\x<=536870912
theorem acJ (c:Int):max c (0-c)*max c (0-c)=c*c:=by
 by_cases h:0<=c
 ·rw[show max c (0-c)=c from by omega]
 ·rw[show max c (0-c)=-c from by omega,Ij]
section
variable {ax ay bx by' px py r:Int}
theorem aoP (M:sm ax) (N:sm ay) (h3:sm bx) (h4:sm by') (h5:sm px) (h6:sm py) (h7:0<=r) (h8:r<=1073741824):kk ax ay bx by' px py r=nr ax ay bx by' px py r:=by
 unfold sm at *
 unfold kk nr bL bJ;rw[D5 (x:=bx-ax) E E,D5 (x:=by'-ay) E E,D5 (x:=px-ax) E E,D5 (x:=py-ay) E E,D5 (x:=px-bx) E E,D5 (x:=py-by') E E];have e1:-1073741824<=bx-ax/\bx-ax<=1073741824:=by omega
 have e2:-1073741824<=by'-ay/\by'-ay<=1073741824:=by omega
 have e3:-1073741824<=px-ax/\px-ax<=1073741824:=by omega
 have e4:-1073741824<=py-ay/\py-ay<=1073741824:=by omega
 have e5:-1073741824<=px-bx/\px-bx<=1073741824:=by omega
 have e6:-1073741824<=py-by'/\py-by'<=1073741824:=by omega
 generalize bx-ax=dx at *
 generalize by'-ay=dy at *
 generalize px-ax=ux at *
 generalize py-ay=uy at *
 generalize px-bx=vx at *
 generalize py-by'=vy at *
 have k:∀a b c d:Int,(-1073741824<=a/\a<=1073741824)->(-1073741824<=b/\b<=1073741824)->(-1073741824<=c/\c<=1073741824)->(-1073741824<=d/\d<=1073741824)->js a b c d=a*c+b*d/\-2305843009213693952<=a*c+b*d/\a*c+b*d<=2305843009213693952:=by intro a b c d ha hb hc hd;have m1:=sU ha.1 ha.2 hc.1 hc.2;have m2:=sU hb.1 hb.2 hd.1 hd.2;unfold js;rw[D5 (x:=a*c) E E,D5 (x:=b*d) E E,D5 E E];exact⟨rfl,E,E⟩
 have hr:=sU (x:=r) (y:=r) (R0:=1073741824) (B:=1073741824) E h8 E h8;have uO:0<=r*r:=fW h7 h7;have s1:0<=dx*dx:=sqN dx;have s2:0<=dy*dy:=sqN dy;rw[(k ux uy dx dy e3 e4 e1 e2).1,(k ux uy ux uy e3 e4 e3 e4).1,(k dx dy dx dy e1 e2 e1 e2).1,(k vx vy vx vy e5 e6 e5 e6).1,D5 (x:=r*r) E E];have c1:=sU e1.1 e1.2 e4.1 e4.2;have c2:=sU e2.1 e2.2 e3.1 e3.2;have d1:=sU e1.1 e1.2 e1.1 e1.2;have d2:=sU e2.1 e2.2 e2.1 e2.2;rw[show eh dx dy ux uy=dx*uy-dy*ux from by unfold eh;rw[D5 (x:=dx*uy) E E,D5 (x:=dy*ux) E E,D5 E E]];rw[D5 (x:=0-(dx*uy-dy*ux)) E E];rw[ic2 E E E E uO E E E,acJ]
end
end
end Go.Dx
namespace Go.Dx
open Go.IntKind (i64 u64 u8)
noncomputable section
def sd (ax ay bx b2 px py:Int):Int:=(bx-ax)*(py-ay)-(b2-ay)*(px-ax)
end
end Go.Dx
namespace Go.Dx
open Go.IntKind (i64 u64 u8)
open Go.Sx
noncomputable section
theorem apR {n d At r:Int} (hd:0<d) (h:n=d*At+r) (M:0<=r) (N:r<d):n / d=At:=by rw[h,Int.add_comm,Int.add_mul_ediv_left _ _ E,Int.ediv_eq_zero_of_lt M N];omega
theorem Cg {n d B:Int} (hd:0<d) (M:-B<=n) (N:n<=B):-B<=n / d/\n / d<=B:=by
 constructor
 ·have:-B<=n / d↔-B*d<=n:=Int.le_ediv_iff_mul_le hd
  rw[this];by_cases hB:0<=B
  ·have:B*1<=B*d:=oo E hB;have e:-B*d=-(B*d):=Io _ _;omega
  ·omega
 ·have hB:0<=B:=by omega
  have:n / d<B+1↔n<(B+1)*d:=Int.ediv_lt_iff_lt_mul hd;have h3:(B+1)*1<=(B+1)*d:=oo E E;have:=this.2 E;omega
theorem zN {x p R0 B:Int} (M:-R0<=x) (N:x<=R0) (h3:0<=p) (h4:p<=B):-(R0*B)<=x*p/\x*p<=R0*B:=by
 have hA:0<=R0:=by omega
 have a1:x*p<=R0*p:=Fq N h3;have a2:R0*p<=R0*B:=oo h4 hA;have a3:-R0*p<=x*p:=Fq M h3;rw[Io]at a3;exact⟨E,E⟩
theorem ms {a l h:Int} (hf:gR a l h=true):l<=a/\a<=h:=by
 unfold gR at hf;by_cases M:l<=a
 ·rw[BH M,cond_true]at hf;exact⟨M,Fv hf⟩
 ·rw[eZ M]at hf;cases hf
theorem hy0 {e i m:Int} (h:H1 e i m=0):e=0/\0<=i/\i<m:=by
 unfold H1 at h;cases he:e==0 with
 |false=>rw[he,cond_false]at h;rw[h]at he;cases he
 |true=>
   rw[he,cond_true]at h;refine⟨HK he,?_⟩;unfold Ru at h;by_cases M:i<0
   ·rw[BH M]at h;cases h
   ·rw[eZ M,cond_false]at h
    by_cases N:m<=i
    ·rw[BH N]at h;cases h
    ·omega
end
end Go.Dx
namespace Go.Dx
open Go.Sx
noncomputable section
section
variable {ax ay bx b2 px py r:Int}
theorem aqt (M:sm ax) (N:sm ay) (h3:sm bx) (h4:sm b2) (h5:sm px) (h6:sm py):eh (bL bx ax) (bJ b2 ay) (bL px ax) (bJ py ay)=sd ax ay bx b2 px py/\-4611686018427387904<=sd ax ay bx b2 px py/\sd ax ay bx b2 px py<=4611686018427387904:=by
 unfold sm at *
 unfold sd eh bL bJ;rw[D5 (x:=bx-ax) E E,D5 (x:=b2-ay) E E,D5 (x:=px-ax) E E,D5 (x:=py-ay) E E];have c1:=sU (x:=bx-ax) (y:=py-ay) (R0:=1073741824) (B:=1073741824) E E E E;have c2:=sU (x:=b2-ay) (y:=px-ax) (R0:=1073741824) (B:=1073741824) E E E E;rw[D5 (x:=(bx-ax)*(py-ay)) E E,D5 (x:=(b2-ay)*(px-ax)) E E,D5 E E];exact⟨rfl,E,E⟩
end
theorem xG (a b c d:Int):ve a b c d=!tg a b c d:=by
 unfold ve tg;rw[jX];generalize Lh _ _=p;have e1:decide (c<a)=!decide (a<=c):=by by_cases h:a<=c<;>simp[h]<;>omega
 have e2:decide (d<b)=!decide (b<=d):=by by_cases h:b<=d<;>simp[h]<;>omega
 rw[e1,e2];generalize decide (a<=c)=At;generalize decide (b<=d)=u;cases p<;>cases At<;>cases u<;>rfl
theorem w9 {a b c d:Int} (h:tg a b c d=true):(-100000<=a/\a<=100000)/\(-100000<=b/\b<=100000)/\(-100000<=c/\c<=100000)/\(-100000<=d/\d<=100000)/\a<=c/\b<=d:=by
 unfold tg at h;cases hp:Lh 4 (A [Ty.int IntKind.i64] (cq [V.int IntKind.i64 a,V.int IntKind.i64 b,V.int IntKind.i64 c,V.int IntKind.i64 d] 0 1)) with
 |false=>rw[hp]at h;cases h
 |true=>
   rw[hp,cond_true]at h;by_cases M:a<=c
   ·rw[LL M,cond_true]at h;have N:=Fv h;unfold Lh at hp;exact⟨ms (dh hp 0 E),ms (dh hp 1 E),ms (dh hp 2 E),ms (dh hp 3 E),M,N⟩
   ·rw[decide_eq_false M]at h;cases h
theorem P9 {x y:Int} (h:vA x y=true):(-100000<=x/\x<=100000)/\(-100000<=y/\y<=100000):=by unfold vA Lh at h;exact⟨ms (dh h 0 E),ms (dh h 1 E)⟩
end
end Go.Dx
namespace Go.Dx
noncomputable section
theorem jo (x:Int):0<=x*x:=by
 rcases I9 0 x with h|h
 ·exact fW h h
 ·have:=fW (show 0<=-x by omega) (show 0<=-x by omega);rwa [Ij]at this
theorem aki {a b:Int} (hb:0<=b) (h:a*a<=b*b):a<=b:=by
 apply Classical.byContradiction;intro hn;have M:b<a:=by omega
 have N:b*b<a*a:=Int.lt_of_le_of_lt (oo (G0 M) hb) (Of M E);omega
theorem uF {k a b:Int} (W:0<k) (h:k*a<=k*b):a<=b:=Int.le_of_mul_le_mul_left h W
theorem nY {k a b:Int} (W:0<k) (h:k*k*a<=k*k*b):a<=b:=uF (H5 W W) h
def q2 (x y:Int):Int:=x*x+y*y
theorem Xg (x y:Int):0<=q2 x y:=by unfold q2;have:=jo x;have:=jo y;omega
theorem jk (k x y:Int):q2 (k*x) (k*y)=k*k*q2 x y:=by unfold q2;grind
section
variable {x y z w R0 B:Int} (hA:0<=R0) (hB:0<=B) (M:q2 x y<=R0*R0) (N:q2 z w<=B*B)
include x y z w R0 B hA hB M N
theorem aik:x*z+y*w<=R0*B:=by
 refine aki (fW hA hB) ?_;have e:q2 x y*q2 z w=(x*z+y*w)*(x*z+y*w)+(x*w-y*z)*(x*w-y*z):=by unfold q2;grind
 have h3:=jo (x*w-y*z);have h4:q2 x y*q2 z w<=(R0*R0)*(B*B):=Int.mul_le_mul M N (Xg z w) (jo R0);have e2:(R0*B)*(R0*B)=(R0*R0)*(B*B):=by grind
 omega
theorem ans:q2 (x+z) (y+w)<=(R0+B)*(R0+B):=by
 have h3:=aik hA hB M N;have e:q2 (x+z) (y+w)=q2 x y+q2 z w+2*(x*z+y*w):=by unfold q2;grind
 have e2:(R0+B)*(R0+B)=R0*R0+B*B+2*(R0*B):=by grind
 omega
end
def hnm (ax ay bx b2 px py k r n m:Int):Prop:=0<=n/\n<=m/\0<m/\q2 (m*px-k*((m-n)*ax+n*bx)) (m*py-k*((m-n)*ay+n*b2))<=(m*k*r)*(m*k*r)
def Nq (ax ay bx b2 px py k r:Int):Prop:=∃n m,hnm ax ay bx b2 px py k r n m
section
variable {ax ay bx b2 px py r n m k:Int}
theorem aoc (hr:0<=r) (h:Nq ax ay bx b2 px py 1 r):nr ax ay bx b2 px py r=true:=by
 obtain⟨n,m,M,N,h3,h4⟩:=h;rw[Jv]at h4;have ex:m*px-1*((m-n)*ax+n*bx)=m*(px-ax)-n*(bx-ax):=by grind
 have ey:m*py-1*((m-n)*ay+n*b2)=m*(py-ay)-n*(b2-ay):=by grind
 rw[ex,ey]at h4;unfold nr;have e1:px-bx=(px-ax)-(bx-ax):=by omega
 have e2:py-b2=(py-ay)-(b2-ay):=by omega
 rw[e1,e2];generalize px-ax=ux at *
 generalize py-ay=uy at *
 generalize bx-ax=dx at *
 generalize b2-ay=dy at *
 have iza0:=fW (G0 h3) M;have hR:(m*r)*(m*r)=m*m*(r*r):=by grind
 by_cases c1:ux*dx+uy*dy<=0
 ·rw[BH c1,cond_true]
  refine BH (nY h3 ?_);have e:q2 (m*ux-n*dx) (m*uy-n*dy)=m*m*(ux*ux+uy*uy)+n*n*q2 dx dy-2*(m*n*(ux*dx+uy*dy)):=by unfold q2;grind
  have k1:=fW (jo n) (Xg dx dy);have k2:=fW iza0 (show 0<=-(ux*dx+uy*dy) by omega);rw[JH]at k2;omega
 ·rw [eZ c1,cond_false]
  by_cases c2:dx*dx+dy*dy<=ux*dx+uy*dy
  ·rw[BH c2,cond_true]
   refine BH (nY h3 ?_);have e:q2 (m*ux-n*dx) (m*uy-n*dy)=m*m*((ux-dx)*(ux-dx)+(uy-dy)*(uy-dy))+(m-n)*(m-n)*q2 dx dy+2*(m*(m-n)*((ux*dx+uy*dy)-(dx*dx+dy*dy))):=by unfold q2;grind
   have k1:=fW (jo (m-n)) (Xg dx dy);have k2:=fW (fW (G0 h3) (show 0<=m-n by omega)) (show 0<=(ux*dx+uy*dy)-(dx*dx+dy*dy) by omega);omega
  ·rw[eZ c2,cond_false]
   refine BH (nY h3 ?_);have e:q2 dx dy*q2 (m*ux-n*dx) (m*uy-n*dy)=m*m*((dx*uy-dy*ux)*(dx*uy-dy*ux))+(dx*(m*ux-n*dx)+dy*(m*uy-n*dy))*(dx*(m*ux-n*dx)+dy*(m*uy-n*dy)):=by unfold q2;grind
   have k1:=jo (dx*(m*ux-n*dx)+dy*(m*uy-n*dy));have k2:=oo h4 (Xg dx dy);have e3:q2 dx dy*(m*r*(m*r))=m*m*(r*r*(dx*dx+dy*dy)):=by unfold q2;grind
   omega
theorem ajI (hr:0<=r) (h:nr ax ay bx b2 px py r=true):Nq ax ay bx b2 px py 1 r:=by
 unfold nr at h;by_cases c1:(px-ax)*(bx-ax)+(py-ay)*(b2-ay)<=0
 ·rw[BH c1,cond_true]at h
  have h:=Fv h;refine⟨0,1,E,E,E,?_⟩;have e:q2 (1*px-1*((1-0)*ax+0*bx)) (1*py-1*((1-0)*ay+0*b2))=(px-ax)*(px-ax)+(py-ay)*(py-ay):=by unfold q2;grind
  rw[e,Hv,Hv];exact h
 ·rw [eZ c1,cond_false]at h
  by_cases c2:(bx-ax)*(bx-ax)+(b2-ay)*(b2-ay)<=(px-ax)*(bx-ax)+(py-ay)*(b2-ay)
  ·rw[BH c2,cond_true]at h
   have h:=Fv h;refine⟨1,1,E,E,E,?_⟩;have e:q2 (1*px-1*((1-1)*ax+1*bx)) (1*py-1*((1-1)*ay+1*b2))=(px-bx)*(px-bx)+(py-b2)*(py-b2):=by unfold q2;grind
   rw[e,Hv,Hv];exact h
  ·rw[eZ c2,cond_false]at h
   have h:=Fv h;refine⟨(px-ax)*(bx-ax)+(py-ay)*(b2-ay),(bx-ax)*(bx-ax)+(b2-ay)*(b2-ay),E,E,E,?_⟩;have ex:((bx-ax)*(bx-ax)+(b2-ay)*(b2-ay))*px-1*(((bx-ax)*(bx-ax)+(b2-ay)*(b2-ay)-((px-ax)*(bx-ax)+(py-ay)*(b2-ay)))*ax+((px-ax)*(bx-ax)+(py-ay)*(b2-ay))*bx)=((bx-ax)*(bx-ax)+(b2-ay)*(b2-ay))*(px-ax)-((px-ax)*(bx-ax)+(py-ay)*(b2-ay))*(bx-ax):=by grind
   have ey:((bx-ax)*(bx-ax)+(b2-ay)*(b2-ay))*py-1*(((bx-ax)*(bx-ax)+(b2-ay)*(b2-ay)-((px-ax)*(bx-ax)+(py-ay)*(b2-ay)))*ay+((px-ax)*(bx-ax)+(py-ay)*(b2-ay))*b2)=((bx-ax)*(bx-ax)+(b2-ay)*(b2-ay))*(py-ay)-((px-ax)*(bx-ax)+(py-ay)*(b2-ay))*(b2-ay):=by grind
   rw[ex,ey];clear ex ey;generalize px-ax=ux at *
   generalize py-ay=uy at *
   generalize bx-ax=dx at *
   generalize b2-ay=dy at *
   have e:q2 ((dx*dx+dy*dy)*ux-(ux*dx+uy*dy)*dx) ((dx*dx+dy*dy)*uy-(ux*dx+uy*dy)*dy)=(dx*dx+dy*dy)*((dx*uy-dy*ux)*(dx*uy-dy*ux)):=by unfold q2;grind
   rw[e,Jv];have k1:=oo h (show 0<=dx*dx+dy*dy by omega);have e2:(dx*dx+dy*dy)*r*((dx*dx+dy*dy)*r)=(dx*dx+dy*dy)*(r*r*(dx*dx+dy*dy)):=by grind
   omega
theorem fc9 (hr:0<=r):nr ax ay bx b2 px py r=true↔Nq ax ay bx b2 px py 1 r:=⟨ajI hr,aoc hr⟩
theorem Nq.cv {qx qy j l:Int} (hr:0<=r) (W:0<k) (M:Nq ax ay bx b2 px py k r) (N:Nq ax ay bx b2 qx qy k r) (hj:0<=j) (hl:j<=l) (h0:0<l):Nq ax ay bx b2 ((l-j)*px+j*qx) ((l-j)*py+j*qy) (k*l) r:=by
 obtain⟨n1,m1,a1,a2,a3,a4⟩:=M;obtain⟨T,m2,b1,b2',b3,b4⟩:=N;have U7:0<=l-j:=by omega
 have p1:=H5 a3 b3;refine⟨(l-j)*n1*m2+j*T*m1,l*m1*m2,?_,?_,?_,?_⟩
 ·have:=fW (fW U7 a1) (G0 b3);have:=fW (fW hj b1) (G0 a3);omega
 ·have k1:=fW (fW U7 (show 0<=m1-n1 by omega)) (G0 b3)
  have k2:=fW (fW hj (show 0<=m2-T by omega)) (G0 a3);have e:(l-j)*(m1-n1)*m2+j*(m2-T)*m1=l*m1*m2-((l-j)*n1*m2+j*T*m1):=by grind
  omega
 ·exact H5 (H5 h0 a3) b3
 ·have ex:l*m1*m2*((l-j)*px+j*qx)-k*l*((l*m1*m2-((l-j)*n1*m2+j*T*m1))*ax+((l-j)*n1*m2+j*T*m1)*bx)=l*(((l-j)*m2)*(m1*px-k*((m1-n1)*ax+n1*bx))+(j*m1)*(m2*qx-k*((m2-T)*ax+T*bx))):=by grind
  have ey:l*m1*m2*((l-j)*py+j*qy)-k*l*((l*m1*m2-((l-j)*n1*m2+j*T*m1))*ay+((l-j)*n1*m2+j*T*m1)*b2)=l*(((l-j)*m2)*(m1*py-k*((m1-n1)*ay+n1*b2))+(j*m1)*(m2*qy-k*((m2-T)*ay+T*b2))):=by grind
  rw[ex,ey,jk];clear ex ey;generalize m1*px-k*((m1-n1)*ax+n1*bx)=S at *
  generalize m1*py-k*((m1-n1)*ay+n1*b2)=y1 at *
  generalize m2*qx-k*((m2-T)*ax+T*bx)=Z at *
  generalize m2*qy-k*((m2-T)*ay+T*b2)=y2 at *
  have w1:=fW U7 (G0 b3);have w2:=fW hj (G0 a3);have s1:=oo a4 (jo ((l-j)*m2));have s2:=oo b4 (jo (j*m1));rw[← jk]at s1 s2;have z1:=fW (fW (G0 a3) (G0 W)) hr;have z2:=fW (fW (G0 b3) (G0 W)) hr;have t:=ans (R0:=(l-j)*m2*(m1*k*r)) (B:=j*m1*(m2*k*r)) (fW w1 z1) (fW w2 z2) (by rw[show(l-j)*m2*(m1*k*r)*((l-j)*m2*(m1*k*r))=(l-j)*m2*((l-j)*m2)*(m1*k*r*(m1*k*r)) by grind];exact s1) (by rw[show j*m1*(m2*k*r)*(j*m1*(m2*k*r))=j*m1*(j*m1)*(m2*k*r*(m2*k*r)) by grind];exact s2);have e:(l-j)*m2*(m1*k*r)+j*m1*(m2*k*r)=l*(m1*m2*k*r):=by grind
  rw[e]at t;have t:=oo t (jo l);have e2:l*l*(l*(m1*m2*k*r)*(l*(m1*m2*k*r)))=l*m1*m2*(k*l)*r*(l*m1*m2*(k*l)*r):=by grind
  rw[← e2];exact t
theorem Nq.scale {l:Int} (hl:0<l):Nq ax ay bx b2 px py k r↔Nq ax ay bx b2 (l*px) (l*py) (l*k) r:=by
 have key:∀n m:Int,q2 (m*(l*px)-l*k*((m-n)*ax+n*bx)) (m*(l*py)-l*k*((m-n)*ay+n*b2))=l*l*q2 (m*px-k*((m-n)*ax+n*bx)) (m*py-k*((m-n)*ay+n*b2)):=λn m=>by rw[← jk];congr 1<;>grind
 have key2:∀m:Int,m*(l*k)*r*(m*(l*k)*r)=l*l*(m*k*r*(m*k*r)):=λm=>by grind
 constructor
 ·rintro⟨n,m,M,N,h3,h4⟩;exact⟨n,m,M,N,h3,by rw[key,key2];exact oo h4 (jo l)⟩
 ·rintro⟨n,m,M,N,h3,h4⟩;rw[key,key2]at h4;exact⟨n,m,M,N,h3,nY hl h4⟩
end
abbrev P2:=Int×Int
def dC (a b p:P2):Int:=sd a.1 a.2 b.1 b.2 p.1 p.2
def gw (a b:P2):Prop:=a.1<b.1∨(a.1=b.1/\a.2<b.2)
def oL (a b:P2):Prop:=a.1<b.1∨(a.1=b.1/\a.2<=b.2)
def Pv (x y:Int):Prop:=0<x∨(x=0/\0<y)
theorem hp2 {k a:Int} (W:0<k) (h:0<k*a):0<a:=by apply Classical.byContradiction;intro hn;have:=fW (G0 W) (show 0<=-a by omega);rw[JH]at this;omega
section
variable {ux uy vx vy wx wy:Int}
theorem Ot (hu:Pv ux uy) (U:Pv vx vy) (hw:Pv wx wy) (M:0<=ux*vy-uy*vx) (N:0<=vx*wy-vy*wx):0<=ux*wy-uy*wx:=by
 unfold Pv at *
 rcases U with U|⟨rfl,U⟩
 ·have e:vx*(ux*wy-uy*wx)=wx*(ux*vy-uy*vx)+ux*(vx*wy-vy*wx):=by grind
  have k1:=fW (show 0<=wx by omega) M;have k2:=fW (show 0<=ux by omega) N;exact uF U (by rw[HJ];omega)
 ·have k3:0<=vy*wx:=fW E E
  have:wx=0:=by rcases Int.mul_eq_zero.1 (show vy*wx=0 by omega) with h|h<;>omega
  subst this;have:=fW (show 0<=ux by omega) (show 0<=wy by omega);omega
theorem crS (hu:Pv ux uy) (U:Pv vx vy) (hw:Pv wx wy) (M:0<ux*vy-uy*vx) (N:0<vx*wy-vy*wx):0<ux*wy-uy*wx:=by
 unfold Pv at *
 rcases U with U|⟨rfl,U⟩
 ·have e:vx*(ux*wy-uy*wx)=wx*(ux*vy-uy*vx)+ux*(vx*wy-vy*wx):=by grind
  have k1:=fW (show 0<=wx by omega) (G0 M);have k2:=fW (show 0<=ux by omega) (G0 N);by_cases hz:wx=0/\ux=0
  ·obtain⟨rfl,rfl⟩:=hz;have:=fW (show 0<=uy by omega) (G0 U);omega
  ·refine hp2 U ?_
   rcases (show 0<wx∨0<ux by omega) with h|h
   ·have:=H5 h M;omega
   ·have:=H5 h N;omega
 ·have k3:0<=vy*wx:=fW E E;omega
end
section
variable {a b c p At t a':P2}
theorem ls (h:gw a b):Pv (b.1-a.1) (b.2-a.2):=by unfold gw at h;unfold Pv;omega
theorem qd (M:gw a b) (N:gw b c):gw a c:=by unfold gw at *;omega
theorem yaN (M:gw a b) (N:oL b c):gw a c:=by unfold gw oL at *;omega
theorem rj (M:oL a b) (N:gw b c):gw a c:=by unfold gw oL at *;omega
theorem ut (M:gw a b):oL a b:=by unfold gw oL at *;omega
theorem oT (a:P2):oL a a:=by unfold oL;omega
theorem gM (a:P2):¬gw a a:=by unfold gw;omega
theorem qm (a b:P2):gw a b∨a=b∨gw b a:=by
 by_cases h:a.1=b.1/\a.2=b.2
 ·exact .inr (.inl (Prod.ext h.1 h.2))
 ·unfold gw;omega
theorem Fl (M:oL a b) (N:oL b a):a=b:=by unfold oL at *;exact Prod.ext E E
theorem aba (a b:P2):dC a b a=0:=by unfold dC sd;grind
theorem LY (a b:P2):dC a b b=0:=by unfold dC sd;grind
theorem BX (a b p:P2):dC b a p=-dC a b p:=by unfold dC sd;grind
theorem plL (M:gw a t) (N:gw a At) (h3:gw a p) (h4:0<=dC a t At) (h5:dC a t p<=0):0<=dC a p At:=by have k:=Ot (ls h3) (ls M) (ls N) (by unfold dC sd at h5;grind) (by unfold dC sd at h4;grind);unfold dC sd;exact k
theorem if1 (M:gw a b) (N:gw At b) (h3:gw b p) (h4:0<=dC a b At) (h5:0<dC a b p):0<=dC b p At:=by
 have e4:dC a b At=(b.1-At.1)*(b.2-a.2)-(b.2-At.2)*(b.1-a.1):=by unfold dC sd;grind
 have e5:dC a b p=(b.1-a.1)*(p.2-b.2)-(b.2-a.2)*(p.1-b.1):=by unfold dC sd;grind
 have e6:dC b p At=(b.1-At.1)*(p.2-b.2)-(b.2-At.2)*(p.1-b.1):=by unfold dC sd;grind
 rw[e4]at h4;rw[e5]at h5;rw[e6];exact Ot (ls N) (ls M) (ls h3) h4 (G0 h5)
theorem akj (M:gw a' a) (N:gw a b) (h3:gw b p) (h4:0<dC a' a b) (h5:0<dC a b p):0<dC a' a p:=by
 have e4:dC a' a b=(a.1-a'.1)*(b.2-a.2)-(a.2-a'.2)*(b.1-a.1):=by unfold dC sd;grind
 have e5:dC a b p=(b.1-a.1)*(p.2-b.2)-(b.2-a.2)*(p.1-b.1):=by unfold dC sd;grind
 have e6:dC a' a p=dC a' a b+((a.1-a'.1)*(p.2-b.2)-(a.2-a'.2)*(p.1-b.1)):=by unfold dC sd;grind
 rw[e6];have:=crS (ls M) (ls N) (ls h3) (by rw[← e4];exact h4) (by rw[← e5];exact h5);omega
end
def kF (p:P2):List P2->List P2
 |b::a::l=>bif decide (dC a b p<=0) then kF p (a::l) else b::a::l
 |l=>l
def bG:List P2->List P2->List P2
 |st,[]=>st|st,p::l=>bG (p::kF p st) l
def Ch (AT:P2->Prop):List P2->Prop
 |[]=>False|[s]=>AT s/\∀At,AT At->oL s At|b::a::l=>gw a b/\AT b/\(∀At,AT At->0<=dC a b At)/\(∀c,l.head? = some c->0<dC c a b)/\Ch AT (a::l)
theorem Ch.cong {AT D':P2->Prop} (h:∀At,AT At↔D' At) {l:List P2} (hc:Ch AT l):Ch D' l:=by rwa [show D'=AT from funext λAt=>propext (h At).symm]
theorem aoE {AT:P2->Prop} {p:P2} (hp:∀ At,AT At->gw At p):∀ (l:List P2) (a b:P2),Ch AT (b::a::l)->0<dC a b p->Ch (λAt=>AT At∨At=p) (b::a::l)
 |[],a,b,h,N=>by
   obtain⟨h3,h4,h5,h6,h7,h8⟩:=h;refine⟨h3,.inl h4,?_,h6,.inl h7,?_⟩
   ·rintro At (hq|rfl)
    ·exact h5 At hq
    ·exact G0 N
   ·rintro At (hq|rfl)
    ·exact h8 At hq
    ·exact ut (hp _ h7)
 |c::l,a,b,h,N=>by
   obtain⟨h3,h4,h5,h6,h7⟩:=h;refine⟨h3,.inl h4,?_,h6,?_⟩
   ·rintro At (hq|rfl)
    ·exact h5 At hq
    ·exact G0 N
   ·exact aoE hp l c a h7 (akj h7.1 h3 (hp _ h4) (h6 c rfl) N)
theorem bf3 {AT:P2->Prop} {p:P2} (hp:∀ At,AT At->gw At p):∀ (l:List P2) (t:P2),Ch AT (t::l)->(∀ At,AT At->gw t At->0<=dC t p At)->Ch (λAt=>AT At∨At=p) (p::kF p (t::l))
 |[],t,h,N=>by
   obtain⟨h3,h4⟩:=h;refine⟨hp _ h3,.inr rfl,?_,(λc hc=>by cases hc),.inl h3,?_⟩
   ·rintro At (hq|rfl)
    ·rcases qm t At with k|rfl|k
     ·exact N At hq k
     ·rw[aba];omega
     ·exact(gM _ (rj (h4 At hq) k)).elim
    ·rw[LY];omega
   ·rintro At (hq|rfl)
    ·exact h4 At hq
    ·exact ut (hp _ h3)
 |a::l,t,h,N=>by
   have h':=h;obtain⟨h3,h4,h5,h6,h7⟩:=h;have ha:AT a:=by cases l with|nil=>exact h7.1|cons c l=>exact h7.2.1
   unfold kF;by_cases hs:dC a t p<=0
   ·rw[BH hs,cond_true];exact bf3 hp l a h7 λAt hq Qw=>plL h3 Qw (hp _ ha) (h5 At hq) hs
   ·rw [eZ hs,cond_false]
    refine⟨hp _ h4,.inr rfl,?_,?_,aoE hp l a t h' E⟩
    ·rintro At (hq|rfl)
     ·rcases qm t At with k|rfl|k
      ·exact N At hq k
      ·rw[aba];omega
      ·exact if1 h3 k (hp _ h4) (h5 At hq) E
     ·rw[LY];omega
    ·intro c hc;simp only[List.head?_cons,Et]at hc;subst hc;omega
theorem DU:∀ (l:List P2) (AT:P2->Prop) (t:P2) (st:List P2),Ch AT (t::st)->(∀ At,AT At->oL At t)->(∀ p∈l,gw t p)->l.Pairwise gw ->
 ∃z r,bG (t::st) l=z::r/\Ch (λAt=>AT At∨At∈l) (z::r)/\∀At,(AT At∨At∈l)->oL At z
 |[],AT,t,st,M,N,_,_=>⟨t,st,rfl,M.cong av,by simpa using N⟩
 |p::l,AT,t,st,M,N,h3,h4=>by
   have hp:∀ At,AT At->gw At p:=λAt hq=>rj (N At hq) (h3 p av);have k:=bf3 hp st t M λAt hq Qw=>(gM _ (rj (N At hq) Qw)).elim;rw[J9]at h4;obtain⟨z,r,e,hc,hz⟩:=DU l _ p _ k (λAt hq=>by
    rcases hq with hq|rfl
    ·exact ut (hp At hq)
    ·exact oT _) h4.1 h4.2
   refine⟨z,r,e,hc.cong λAt=>?_,λAt hq=>hz At ?_⟩
   ·simp only [HD];constructor
    ·rintro ((h|h)|h)
     ·exact .inl h
     ·exact .inr (.inl h)
     ·exact .inr (.inr h)
    ·rintro (h|h|h)
     ·exact .inl (.inl h)
     ·exact .inl (.inr h)
     ·exact .inr h
   ·simp only[HD]at hq
    rcases hq with h|h|h
    ·exact .inl (.inl h)
    ·exact .inl (.inr h)
    ·exact .inr h
theorem arT {m:P2} {l:List P2} (h:(m::l).Pairwise gw):∃z r,bG [] (m::l)=z::r/\Ch (λAt=>At∈m::l) (z::r)/\∀At,At∈m::l->oL At z:=by rw[J9]at h;obtain⟨z,r,e,hc,hz⟩:=DU l (λAt=>At=m) m [] ⟨rfl,λAt hq=>by rw[hq];exact oT _⟩ (λAt hq=>by rw[hq];exact oT _) h.1 h.2;exact⟨z,r,e,hc.cong av,λAt hq=>hz At (by simpa using hq)⟩
def tm:List P2->P2->P2->Prop
 |b::a::l,x,y=>(x=a/\y=b)∨tm (a::l) x y|_,_,_=>False
def se:List P2->P2
 |[]=>(0,0)|[s]=>s|_::a::l=>se (a::l)
section
variable {AT:P2->Prop}
theorem jD:∀ {st:List P2},Ch AT st->∀ At∈st,AT At
 |[s],h,At,hq=>by simp at hq;subst hq;exact h.1
 |b::a::l,h,At,hq=>by
   rcases List.mem_cons.1 hq with rfl|hq
   ·exact h.2.1
   ·exact jD h.2.2.2.2 At hq
theorem BR:∀ {st:List P2} {x y:P2},tm st x y->x∈st/\y∈st
 |b::a::l,x,y,h=>by
   rcases h with ⟨rfl,rfl⟩|h
   ·simp
   ·have:=BR h;exact⟨HA _ this.1,HA _ this.2⟩
theorem kZ:∀ {st:List P2} {x y:P2},Ch AT st->tm st x y->gw x y/\∀ At,AT At->0<=dC x y At
 |b::a::l,x,y,h,ha=>by
   rcases ha with ⟨rfl,rfl⟩|ha
   ·exact⟨h.1,h.2.2.1⟩
   ·exact kZ h.2.2.2.2 ha
theorem aoV:∀ {st:List P2} {t x y:P2},Ch AT (t::st)->tm (t::st) x y->oL y t
 |a::l,t,x,y,h,ha=>by
   rcases ha with ⟨rfl,rfl⟩|ha
   ·exact oT _
   ·have:=aoV h.2.2.2.2 ha;exact ut (rj this h.1)
theorem wU:∀ {st:List P2} {t x y:P2},Ch AT (t::st)->tm (t::st) x y->y=t∨∃ c,tm (t::st) y c/\0<dC x y c
 |[],t,x,y,h,ha=>ha.elim
 |a::l,t,x,y,h,ha=>by
   rcases ha with ⟨rfl,rfl⟩|ha
   ·exact .inl rfl
   ·right
    rcases wU h.2.2.2.2 ha with rfl|⟨c,M,N⟩
    ·refine ⟨t,.inl ⟨rfl,rfl⟩,?_⟩
     cases l with
     |nil=>exact ha.elim
     |cons c l=>
       rcases ha with ⟨rfl,_⟩|ha
       ·exact h.2.2.2.1 _ rfl
       ·-- y is the top of this chain,and nzb16 it is the first pair
        have:=aoV h.2.2.2.2.2.2.2.2 ha;exact(gM _ (yaN h.2.2.2.2.1 this)).elim
    ·exact⟨c,.inr M,N⟩
theorem yH:∀ {st:List P2} {x y:P2},Ch AT st->tm st x y->x=se st∨∃ c,tm st c x/\0<dC c x y
 |[b,a],x,y,h,ha=>by
   rcases ha with ⟨rfl,rfl⟩|ha
   ·exact .inl rfl
   ·exact ha.elim
 |b::a::c::l,x,y,h,ha=>by
   rcases ha with ⟨rfl,rfl⟩|ha
   ·exact .inr ⟨c,.inr (.inl ⟨rfl,rfl⟩),h.2.2.2.1 _ rfl⟩
   ·rcases yH h.2.2.2.2 ha with e|⟨d,M,N⟩
    ·exact .inl e
    ·exact .inr ⟨d,.inr M,N⟩
theorem Ce:∀ {st:List P2},2<=st.length->∃ b,tm st (se st) b
 |[b,a],_=>⟨b,.inl ⟨rfl,rfl⟩⟩|b::a::c::l,_=>let ⟨d,h⟩:=Ce (st:=a::c::l) av;⟨d,.inr h⟩
theorem nC {a b:P2} {l:List P2}:tm (b::a::l) a b:=.inl ⟨rfl,rfl⟩
theorem Fj:∀ {st:List P2},Ch AT st->AT (se st)/\∀ At,AT At->oL (se st) At
 |[s],h=>h|b::a::l,h=>Fj (st:=a::l) h.2.2.2.2
end
def Eu (p:P2):P2:=(-p.1,-p.2)
theorem nW (a b p:P2):dC (Eu a) (Eu b) (Eu p)=dC a b p:=by unfold dC sd Eu;grind
theorem fh (p:P2):Eu (Eu p)=p:=by unfold Eu;simp
theorem Cr {a b:P2} (h:gw a b):gw (Eu b) (Eu a):=by unfold gw Eu at *;simp only;omega
theorem aeN (p:P2):∀ st:List P2,kF (Eu p) (st.map Eu)=(kF p st).map Eu
 |[]=>rfl|[_]=>rfl
 |b::a::l=>by
   have ih:=aeN p (a::l);simp only[GZ]at ih;simp only[GZ,kF,nW];cases decide (dC a b p<=0)
   ·rfl
   ·exact ih
theorem Aj:∀ (l st:List P2),bG (st.map Eu) (l.map Eu)=(bG st l).map Eu
 |[],st=>rfl
 |p::l,st=>by simp only[GZ,bG];rw[← Aj l];simp only[GZ,aeN]
theorem Cf:∀ {st:List P2} {x y:P2},tm (st.map Eu) x y↔tm st (Eu x) (Eu y)
 |[],x,y=>Iff.rfl|[_],x,y=>Iff.rfl
 |b::a::l,x,y=>by have ih:=Cf (st:=a::l) (x:=x) (y:=y);simp only[GZ]at ih;simp only[GZ,tm,ih];have e:∀u v:P2,u=Eu v↔Eu u=v:=λu v=>⟨λh=>by rw[h,fh],λh=>by rw[← h,fh]⟩;rw[e,e]
section
variable {a b c p At z m x y w d:P2} {AT:P2->Prop}
theorem asO (ha:gw a z) (hc:gw c z) (h0:dC a z c=0) (hq:oL At z) (M:0<=dC a z At) (N:0<=dC z c At):dC a z At=0:=by
 rcases qm At z with k|rfl|k
 ·have e1:dC a z At=-((z.1-a.1)*(z.2-At.2)-(z.2-a.2)*(z.1-At.1)):=by unfold dC sd;grind
  have e2:dC z c At=(z.1-c.1)*(z.2-At.2)-(z.2-c.2)*(z.1-At.1):=by unfold dC sd;grind
  have e3:dC a z c=-((z.1-a.1)*(z.2-c.2)-(z.2-a.2)*(z.1-c.1)):=by unfold dC sd;grind
  rw[e3]at h0;rw[e2]at N;rw[e1]at M;have:=Ot (ls ha) (ls hc) (ls k) E N;rw[e1];omega
 ·exact LY _ _
 ·exact(gM _ (rj hq k)).elim
theorem ag6 (h:gw a z):¬(z.1-a.1=0/\z.2-a.2=0):=by unfold gw at h;omega
theorem aje (h:gw a z) (hx:dC a z x=0) (hy:dC a z y=0) (hw:dC a z w=0):dC x y w=0:=by
 have k1:(z.1-a.1)*dC x y w=(w.1-x.1)*(dC a z x-dC a z y)+(y.1-x.1)*(dC a z w-dC a z x):=by unfold dC sd;grind
 have k2:(z.2-a.2)*dC x y w=(w.2-x.2)*(dC a z x-dC a z y)+(y.2-x.2)*(dC a z w-dC a z x):=by unfold dC sd;grind
 rw[hx,hy,hw]at k1 k2;simp only[IZ,HJ,JK]at k1 k2;have hn:=ag6 h;rcases Int.mul_eq_zero.1 k1 with e|e
 ·rcases Int.mul_eq_zero.1 k2 with e'|e'
  ·exact(hn ⟨e,e'⟩).elim
  ·exact e'
 ·exact e
end
structure mH (AT:P2->Prop) (R0 B:List P2) (z m:P2):Prop where
 cA:Ch AT R0
 cB:Ch (λAt=>AT (Eu At)) (B.map Eu)
 tA:∃r,R0=z::r
 tB:∃r,B=m::r
 bA:se R0=m
 bB:se B=z
 zm:gw m z
 hz:∀At,AT At->oL At z
 hm:∀At,AT At->oL m At
theorem F4:∀ {st:List P2},st≠[]->se (st.map Eu)=Eu (se st)
 |[s],_=>rfl|b::a::l,_=>F4 (st:=a::l) av
theorem Fw {a b:P2} (h:oL a b):oL (Eu b) (Eu a):=by unfold oL Eu at *;simp only;omega
theorem amK {l:List P2} (h:l.Pairwise gw):(l.reverse.map Eu).Pairwise gw:=by rw[List.pairwise_map,List.pairwise_reverse];exact h.imp λh=>Cr h
theorem ih3 {m:P2} {l:List P2} (hs:(m::l).Pairwise gw) (N:l≠[]):∃ z,mH (λAt=>At∈m::l) (bG [] (m::l)) (bG [] (m::l).reverse) z m:=by
 obtain⟨z,r,e,hc,hz⟩:=arT hs;have hb:=Fj hc;have UV:∀ At∈m::l,oL m At:=by
  intro At hq;rcases List.mem_cons.1 hq with rfl|hq
  ·exact oT _
  ·exact ut ((List.pairwise_cons.1 hs).1 At hq)
 have im14:se (z::r)=m:=Fl (hb.2 m av) (UV _ hb.1);have UM:=amK hs;have hD:∀ At,At∈((m::l).reverse.map Eu)↔Eu At∈m::l:=λAt=>by
  rw[List.mem_map];constructor
  ·rintro⟨p,hp,rfl⟩;rw[fh];exact List.mem_reverse.1 hp
  ·intro hq;exact⟨Eu At,List.mem_reverse.2 hq,fh At⟩
 have k:∃ x t,(m::l).reverse.map Eu=x::t:=by
  cases hr:(m::l).reverse.map Eu with
  |nil=>simp at hr|cons x t=>exact⟨x,t,rfl⟩
 obtain⟨x,t,ex⟩:=k;have Xf:=UM;rw[ex]at Xf;obtain⟨z',r',e',Sr,Yn⟩:=arT Xf;rw[← ex]at e' Sr Yn;have en:=Aj (m::l).reverse [];simp only[Ia]at en;rw[en]at e';have Vw:=Sr.cong hD;rw[← e']at Vw;have hB:∃ rB,bG [] (m::l).reverse=m::rB:=by
  cases hB:bG [] (m::l).reverse with
  |nil=>rw[hB]at e';simp at e'
  |cons b rB=>
    rw[hB]at e';simp only[GZ,G5]at e';have k1:=Yn (Eu m) ((hD _).2 (by rw[fh];simp));have k2:Eu z'∈m::l:=by have:z'∈(m::l).reverse.map Eu:=jD Sr z' av;exact(hD _).1 this
    have k3:=Fw k1;rw[fh,← e'.1,fh]at k3;rw[← e'.1,fh]at k2;exact⟨rB,by rw[Fl k3 (UV _ k2)]⟩
 refine⟨z,⟨by rw[e];exact hc,Vw,⟨r,e⟩,hB,by rw[e];exact im14,?_,?_,hz,UV⟩⟩
 ·obtain⟨rB,eB⟩:=hB;have SL:=Fj Vw;rw[F4 (by rw[eB];simp)]at SL;have k1:=SL.2 (Eu z) (by show Eu (Eu z)∈_;rw[fh];exact jD hc z av);have k2:=Fw k1;rw[fh,fh]at k2;have k3:=SL.1;rw[show(Eu (Eu (se (bG [] (m::l).reverse))))=_ from fh _]at k3;exact Fl (hz _ k3) k2
 ·cases l with
  |nil=>exact(N rfl).elim
  |cons y l=>have:=(List.pairwise_cons.1 hs).1 y av;exact yaN this (hz y av)
section
variable {AT:P2->Prop} {R0 B:List P2} {z m x y At:P2}
def Ed (R0 B:List P2) (x y:P2):Prop:=tm R0 x y∨tm B x y
section
variable (h:mH AT R0 B z m)
include h
theorem mH.adjB (ha:tm B x y):tm (B.map Eu) (Eu x) (Eu y):=have _:=h;Cf.2 (by rw[fh,fh];exact ha)
theorem mH.e1 (he:Ed R0 B x y):x≠y/\AT x/\AT y/\∀ At,AT At->0<=dC x y At:=by
 rcases he with ha|ha
 ·have k:=kZ h.cA ha;have hm:=BR ha;exact⟨(λe=>by rw[e]at k;exact gM _ k.1),jD h.cA _ hm.1,jD h.cA _ hm.2,k.2⟩
 ·have YO:=h.adjB ha;have k:=kZ h.cB YO;have hm:=BR YO;have k1:=jD h.cB _ hm.1;have k2:=jD h.cB _ hm.2;simp only[fh]at k1 k2;refine⟨(λe=>by rw[e]at k;exact gM _ k.1),k1,k2,λAt hq=>?_⟩;have:=k.2 (Eu At) (by rw[fh];exact hq);rwa [nW]at this
theorem mH.lenA:2<=R0.length:=by
 obtain⟨r,e⟩:=h.tA;cases r with
 |nil=>have:=h.bA;rw[e]at this;simp only[se]at this;have k:=h.zm;rw[this]at k;exact(gM _ k).elim
 |cons a r=>rw[e];simp
theorem mH.lenB:2<=B.length:=by
 obtain⟨r,e⟩:=h.tB;cases r with
 |nil=>have:=h.bB;rw[e]at this;simp only[se]at this;have k:=h.zm;rw[this]at k;exact(gM _ k).elim
 |cons a r=>rw[e];simp
end
def sP (AT:P2->Prop):Prop:=∃x y w,AT x/\AT y/\AT w/\dC x y w≠0
theorem mH.bend (h:mH AT R0 B z m) (h3:3<=R0.length∨3<=B.length):sP AT:=by
 rcases h3 with h3|h3
 ·match R0,h.cA,h3 with| b::a::c::l,hc,_=>have k:=hc.2.2.2.1 c rfl;exact⟨c,a,b,jD hc c av,jD hc a av,jD hc b av,E⟩
 ·match B,h.cB,h3 with| b::a::c::l,hc,_=>have k:=hc.2.2.2.1 (Eu c) rfl;rw[nW]at k;have k1:=jD hc (Eu c) av;have k2:=jD hc (Eu a) av;have k3:=jD hc (Eu b) av;simp only[fh]at k1 k2 k3;exact⟨c,a,b,k1,k2,k3,E⟩
theorem hk2 {a z:P2} (hn:sP AT) (hl:gw a z) (h:∀At,AT At->dC a z At=0):False:=by obtain⟨x,y,w,hx,hy,hw,SQ⟩:=hn;exact SQ (aje hl (h x hx) (h y hy) (h w hw))
section
variable (h:mH AT R0 B z m) (hn:sP AT)
include h hn
theorem mH.jz {a c:P2} (ha:tm R0 a z) (hc:tm B z c):0<dC a z c:=by
 have e1:=h.e1 (.inl ha);have e2:=h.e1 (.inr hc);have l1:=(kZ h.cA ha).1;have l2:=(kZ h.cB (h.adjB hc)).1;have l3:=Cr l2;rw[fh,fh]at l3;have k:=e1.2.2.2 c e2.2.2.1;by_cases h0:dC a z c=0
 ·exact(hk2 hn l1 λAt hq=>asO l1 l3 h0 (h.hz At hq) (e1.2.2.2 At hq) (e2.2.2.2 At hq)).elim
 ·omega
theorem mH.jm {a c:P2} (ha:tm B a m) (hc:tm R0 m c):0<dC a m c:=by
 have e1:=h.e1 (.inr ha);have e2:=h.e1 (.inl hc);have l1:=(kZ h.cA hc).1;have l2:=(kZ h.cB (h.adjB ha)).1;have k:=e1.2.2.2 c e2.2.2.1;by_cases h0:dC a m c=0
 ·refine(hk2 hn (a:=m) (z:=a) (by have:=Cr l2;rwa [fh,fh]at this) λAt hq=>?_).elim;have:=asO (a:=Eu a) (z:=Eu m) (c:=Eu c) (At:=Eu At) l2 (Cr l1) (by rw[nW];exact h0) (Fw (h.hm At hq)) (by rw[nW];exact e1.2.2.2 At hq) (by rw[nW];exact e2.2.2.2 At hq);rw[nW]at this;rw[BX];omega
 ·omega
theorem mH.next (he:Ed R0 B x y):∃ c,Ed R0 B y c/\0<dC x y c:=by
 rcases he with ha|ha
 ·obtain ⟨r,e⟩:=h.tA
  have hc:=h.cA;rw[e]at hc ha;rcases wU hc ha with rfl|⟨c,M,N⟩
  ·obtain⟨c,hc⟩:=Ce h.lenB;rw[h.bB]at hc;exact⟨c,.inr hc,h.jz hn (by rw[e];exact ha) hc⟩
  ·exact⟨c,.inl (by rw[e];exact M),N⟩
 ·obtain ⟨r,e⟩:=h.tB
  have hc:=h.cB;have YO:=h.adjB ha;rw[e,GZ]at hc YO;rcases wU hc YO with e2|⟨c,M,N⟩
  ·have ey:y=m:=by rw[← fh y,e2,fh]
   subst ey;obtain⟨c,hc⟩:=Ce h.lenA;rw[h.bA]at hc;exact⟨c,.inl hc,h.jm hn ha hc⟩
  ·refine⟨Eu c,.inr ?_,?_⟩
   ·rw[← GZ,← e,Cf,fh]at M;exact M
   ·rw[← nW,fh];exact N
theorem mH.prev (he:Ed R0 B x y):∃ c,Ed R0 B c x/\0<dC c x y:=by
 rcases he with ha|ha
 ·rcases yH h.cA ha with e2|⟨c,M,N⟩
  ·rw [h.bA]at e2;subst e2
   obtain⟨r,e⟩:=h.tB;have hl:=h.lenB
   match B,e,hl with
   |_::a::l,e,_=>cases e;exact⟨a,.inr nC,h.jm hn nC ha⟩
  ·exact⟨c,.inl M,N⟩
 ·rcases yH h.cB (h.adjB ha) with e2|⟨c,M,N⟩
  ·obtain ⟨r,e⟩:=h.tB
   rw[F4 (by rw[e];simp),h.bB]at e2;have ex:x=z:=by rw[← fh x,e2,fh]
   subst ex;obtain⟨r,e⟩:=h.tA;have hl:=h.lenA
   match R0,e,hl with
   |_::a::l,e,_=>cases e;exact⟨a,.inl nC,h.jz hn nC ha⟩
  ·refine⟨Eu c,.inr ?_,?_⟩
   ·rw[Cf,fh]at M;exact M
   ·rw[← nW,fh];exact N
end
theorem mH.flat (h:mH AT R0 B z m) (ha:R0.length<3) (hb:B.length<3):R0=[z,m]/\B=[m,z]/\∀ At,AT At->dC m z At=0:=by
 obtain⟨r,e⟩:=h.tA;obtain⟨s,e'⟩:=h.tB;have la:=h.lenA;have lb:=h.lenB;have e1:=h.bA;have e2:=h.bB;have eA:R0=[z,m]:=by
  match R0,e,la,ha,e1 with
  |[a,b],e,_,_,e1=>cases e;cases e1;rfl
 have eB:B=[m,z]:=by
  match B,e',lb,hb,e2 with
  |[a,b],e,_,_,e2=>cases e;cases e2;rfl
 refine⟨eA,eB,λAt hq=>?_⟩;have k1:=(h.e1 (x:=m) (y:=z) (.inl (by rw[eA];exact nC))).2.2.2 At hq;have k2:=(h.e1 (x:=z) (y:=m) (.inr (by rw[eB];exact nC))).2.2.2 At hq;rw[BX]at k2;omega
end
def BV (a b:P2) (x y k:Int):Int:=(b.1-a.1)*(y-k*a.2)-(b.2-a.2)*(x-k*a.1)
def InH (AT:P2->Prop) (x y k:Int):Prop:=∀R0 B C:Int,(∀At,AT At->0<=R0*At.1+B*At.2+C)->0<=R0*x+B*y+C*k
def Kg (AT:P2->Prop) (mx my r:Int):Prop:=∃x y k,0<k/\InH AT x y k/\q2 (k*mx-x) (k*my-y)<=(k*r)*(k*r)
theorem Fs {AT:P2->Prop} {x y k:Int} {a b:P2} (h:InH AT x y k) (hs:∀ At,AT At->0<=dC a b At):0<=BV a b x y k:=by
 have:=h (-(b.2-a.2)) (b.1-a.1) (-(b.1-a.1)*a.2+(b.2-a.2)*a.1) λAt hq=>by
  have e:-(b.2-a.2)*At.1+(b.1-a.1)*At.2+(-(b.1-a.1)*a.2+(b.2-a.2)*a.1)=dC a b At:=by unfold dC sd;grind
  rw[e];exact hs At hq
 have e:-(b.2-a.2)*x+(b.1-a.1)*y+(-(b.1-a.1)*a.2+(b.2-a.2)*a.1)*k=BV a b x y k:=by unfold BV;grind
 rwa [e]at this
def Yh:List P2->List (P2×P2)
 |b::a::l=>(a,b)::Yh (a::l)|_=>[]
theorem vT:∀ {st:List P2} {x y:P2},(x,y)∈Yh st↔tm st x y
 |[],x,y=>by simp[Yh,tm]
 |[_],x,y=>by simp[Yh,tm]
 |b::a::l,x,y=>by simp only[Yh,tm,HD,Prod.mk.injEq,vT (st:=a::l)]
theorem exit {mx my x y k:Int} (W:0<k):∀ (es:List (P2×P2)),(∀ e∈es,0<=BV e.1 e.2 x y k) ->
 ∃j l,0<=j/\j<=l/\0<l/\(∀e∈es,0<=(l-j)*BV e.1 e.2 x y k+j*(k*dC e.1 e.2 (mx,my)))/\(j=l∨∃e∈es,(l-j)*BV e.1 e.2 x y k+j*(k*dC e.1 e.2 (mx,my))=0)
 |[],_=>⟨1,1,E,E,E,(λe he=>by cases he),.inl rfl⟩
 |e::es,h=>by
   obtain⟨j,l,M,N,h3,h4,h5⟩:=exit W es λf hf=>h f (HA _ hf);have hX:=h e av;by_cases hy:0<=(l-j)*BV e.1 e.2 x y k+j*(k*dC e.1 e.2 (mx,my))
   ·refine ⟨j,l,M,N,h3,λf hf=>?_,?_⟩
    ·rcases List.mem_cons.1 hf with rfl|hf
     ·exact hy
     ·exact h4 f hf
    ·rcases h5 with h5|⟨f,hf,h6⟩
     ·exact .inl h5
     ·exact .inr ⟨f,HA _ hf,h6⟩
   ·generalize hM:k*dC e.1 e.2 (mx,my)=RO at hy
    generalize XV:BV e.1 e.2 x y k=X at hX hy;have hM0:RO<0:=by apply Classical.byContradiction;intro hn;have k1:=fW M (show 0<=RO by omega);have k2:=fW (show 0<=l-j by omega) hX;omega
    refine⟨X,X-RO,hX,E,E,λf hf=>?_,.inr ⟨e,av,?_⟩⟩
    ·rcases List.mem_cons.1 hf with rfl|hf
     ·rw[XV,hM]
      have e:(X-RO-X)*X+X*RO=0:=by grind
      omega
     ·have sE:=h4 f hf
      have hfX:=h f (HA _ hf);generalize k*dC f.1 f.2 (mx,my)=M' at sE ⊢;generalize BV f.1 f.2 x y k=X2 at sE hfX ⊢;by_cases hM2:0<=M'
      ·have k1:=fW (show 0<=X-RO-X by omega) hfX;have k2:=fW hX hM2;omega
      ·refine uF h3 ?_
       rw[HJ];have o:0<=j*(X-RO)-l*X:=by
        have e:j*(X-RO)-l*X=-((l-j)*X+j*RO):=by grind
        omega
       have k1:=fW o (show 0<=X2-M' by omega);have k2:=fW (show 0<=X-RO by omega) sE;have e:l*((X-RO-X)*X2+X*M')=(j*(X-RO)-l*X)*(X2-M')+(X-RO)*((l-j)*X2+j*M'):=by grind
       omega
    ·rw[XV,hM];grind
theorem v7 {x:Int} (h:x≠0):0<x*x:=by
 have:=jo x;by_cases e:x*x=0
 ·rcases Int.mul_eq_zero.1 e with e|e<;>exact(h e).elim
 ·omega
theorem ad0 {a b c d:P2} {mx my r x y k:Int} (W:0<k) (h0:BV a b x y k=0) (M:0<=BV d a x y k) (N:0<dC d a b) (h3:0<=BV b c x y k) (h4:0<dC a b c)
 (hq:q2 (k*mx-x) (k*my-y)<=(k*r)*(k*r)):Nq a.1 a.2 b.1 b.2 mx my 1 r:=by
 unfold dC sd at N h4;unfold BV at h0 M h3;obtain⟨a1,a2⟩:=a;obtain⟨b1,b2⟩:=b;obtain⟨c1,c2⟩:=c;obtain⟨d1,d2⟩:=d;simp only at *
 have T4:0<(b1-a1)*(b1-a1)+(b2-a2)*(b2-a2):=by
  by_cases e:b1-a1=0
  ·by_cases e':b2-a2=0
   ·rw[show b1=a1 by omega,show b2=a2 by omega]at N
    have:(a1-d1)*(a2-d2)-(a2-d2)*(a1-d1)=0:=by grind
    omega
   ·have:=v7 e';have:=jo (b1-a1);omega
  ·have:=v7 e;have:=jo (b2-a2);omega
 have ex:((b1-a1)*(b1-a1)+(b2-a2)*(b2-a2))*(x-k*a1)=((b1-a1)*(x-k*a1)+(b2-a2)*(y-k*a2))*(b1-a1)-(b2-a2)*((b1-a1)*(y-k*a2)-(b2-a2)*(x-k*a1)):=by grind
 have ey:((b1-a1)*(b1-a1)+(b2-a2)*(b2-a2))*(y-k*a2)=((b1-a1)*(x-k*a1)+(b2-a2)*(y-k*a2))*(b2-a2)+(b1-a1)*((b1-a1)*(y-k*a2)-(b2-a2)*(x-k*a1)):=by grind
 rw[h0,HJ]at ex ey;have eT:((b1-a1)*(b1-a1)+(b2-a2)*(b2-a2))*((a1-d1)*(y-k*d2)-(a2-d2)*(x-k*d1))=(a1-d1)*(((b1-a1)*(b1-a1)+(b2-a2)*(b2-a2))*(y-k*a2))-(a2-d2)*(((b1-a1)*(b1-a1)+(b2-a2)*(b2-a2))*(x-k*a1)):=by grind
 have n16:((b1-a1)*(b1-a1)+(b2-a2)*(b2-a2))*((c1-b1)*(y-k*b2)-(c2-b2)*(x-k*b1))=(c1-b1)*(((b1-a1)*(b1-a1)+(b2-a2)*(b2-a2))*(y-k*a2)-k*((b1-a1)*(b1-a1)+(b2-a2)*(b2-a2))*(b2-a2))-(c2-b2)*(((b1-a1)*(b1-a1)+(b2-a2)*(b2-a2))*(x-k*a1)-k*((b1-a1)*(b1-a1)+(b2-a2)*(b2-a2))*(b1-a1)):=by grind
 rw[ex,ey]at eT n16;have k1:=fW (G0 T4) M;have k2:=fW (G0 T4) h3;rw[eT]at k1;rw[n16]at k2;generalize hT:(b1-a1)*(x-k*a1)+(b2-a2)*(y-k*a2)=BO at *
 generalize hd:(b1-a1)*(b1-a1)+(b2-a2)*(b2-a2)=dd at *
 have t1:0<=BO:=by
  have e:(a1-d1)*(BO*(b2-a2)+0)-(a2-d2)*(BO*(b1-a1)-0)=((a1-d1)*(b2-d2)-(a2-d2)*(b1-d1))*BO:=by grind
  rw[e]at k1;exact uF N (by rw[HJ];exact k1)
 have t2:BO<=k*dd:=by
  have e:(c1-b1)*(BO*(b2-a2)+0-k*dd*(b2-a2))-(c2-b2)*(BO*(b1-a1)-0-k*dd*(b1-a1))=((b1-a1)*(c2-a2)-(b2-a2)*(c1-a1))*(k*dd-BO):=by grind
  rw[e]at k2;have:=uF h4 (a:=0) (b:=k*dd-BO) (by rw[HJ];exact k2);omega
 refine⟨BO,k*dd,t1,t2,H5 W T4,?_⟩;have f1:k*dd*mx-1*((k*dd-BO)*a1+BO*b1)=dd*(k*mx-x):=by
  have:dd*(k*mx-x)=k*dd*mx-(dd*(x-k*a1)+k*dd*a1):=by grind
  rw[this,ex];grind
 have Q:k*dd*my-1*((k*dd-BO)*a2+BO*b2)=dd*(k*my-y):=by
  have:dd*(k*my-y)=k*dd*my-(dd*(y-k*a2)+k*dd*a2):=by grind
  rw[this,ey];grind
 rw[f1,Q,jk];have:=oo hq (jo dd);have e:k*dd*1*r*(k*dd*1*r)=dd*dd*(k*r*(k*r)):=by grind
 omega
theorem mH.near {AT:P2->Prop} {R0 B:List P2} {z m:P2} (h:mH AT R0 B z m) (hn:sP AT) {mx my r:Int} (hr:0<=r) (hc:Kg AT mx my r) {e0:P2×P2} (h0:Ed R0 B e0.1 e0.2) (hs:dC e0.1 e0.2 (mx,my)<=0) :
 ∃a b,Ed R0 B a b/\Nq a.1 a.2 b.1 b.2 mx my 1 r:=by
 obtain⟨x,y,k,W,hI,hq⟩:=hc;have YU:∀e:P2×P2,e∈Yh R0++Yh B↔Ed R0 B e.1 e.2:=λe=>by rw[KD,← vT.symm.trans Iff.rfl];unfold Ed;rw[← vT,← vT]
 obtain⟨j,l,M,N,h3,h4,h5⟩:=exit (mx:=mx) (my:=my) W (Yh R0++Yh B) λe he=>Fs hI (h.e1 ((YU e).1 he)).2.2.2;have yak:∀a b:P2,(l-j)*BV a b x y k+j*(k*dC a b (mx,my))=BV a b ((l-j)*x+j*k*mx) ((l-j)*y+j*k*my) (k*l):=λa b=>by unfold BV dC sd;grind
 simp only[yak]at h4 h5;have key:∃ e:P2×P2,Ed R0 B e.1 e.2/\BV e.1 e.2 ((l-j)*x+j*k*mx) ((l-j)*y+j*k*my) (k*l)=0:=by
  rcases h5 with rfl|⟨e,he,h6⟩
  ·refine⟨e0,h0,?_⟩
   have k1:=h4 e0 ((YU e0).2 h0);rw[← yak]at k1 ⊢;have k2:=fW M (fW (G0 W) (show 0<=-dC e0.1 e0.2 (mx,my) by omega));have e:j*(k*-dC e0.1 e0.2 (mx,my))=-(j*(k*dC e0.1 e0.2 (mx,my))):=by grind
   have e2:(j-j)*BV e0.1 e0.2 x y k=0:=by grind
   omega
  ·exact⟨e,(YU e).1 he,h6⟩
 obtain⟨⟨a,b⟩,he,hz⟩:=key;obtain⟨c,UH,Vw⟩:=h.next hn he;obtain⟨d,U3,U4⟩:=h.prev hn he;refine⟨a,b,he,ad0 (H5 W h3) hz (h4 (d,a) ((YU _).2 U3)) U4 (h4 (b,c) ((YU _).2 UH)) Vw ?_⟩;have f1:k*l*mx-((l-j)*x+j*k*mx)=(l-j)*(k*mx-x):=by grind
 have Q:k*l*my-((l-j)*y+j*k*my)=(l-j)*(k*my-y):=by grind
 rw[f1,Q,jk];have k1:=oo hq (jo (l-j));have k2:(l-j)*(l-j)<=l*l:=Int.mul_le_mul E E E E;have k3:=Fq k2 (jo (k*r));have e:k*l*r*(k*l*r)=l*l*(k*r*(k*r)):=by grind
 omega
theorem fu1 {vx vy dx dy:Int} (U:Pv vx vy) (hd:Pv dx dy) (h:dx*vy-dy*vx=0):0<=dx*vx+dy*vy:=by
 unfold Pv at *
 rcases hd with hd|⟨rfl,hd⟩
 ·refine uF hd ?_
  rw[HJ];have e:dx*(dx*vx+dy*vy)=(dx*dx+dy*dy)*vx+dy*(dx*vy-dy*vx):=by grind
  rw[e,h,HJ,JK];exact fW (by have:=jo dx;have:=jo dy;omega) E
 ·have:vx=0:=by
   rcases Int.mul_eq_zero.1 (show dy*vx=0 by omega) with e|e<;>omega
  subst this;have:=fW (G0 hd) (show 0<=vy by omega);omega
theorem hr1 {AT:P2->Prop} {z m:P2} (zm:gw m z) (hz:∀ At,AT At->oL At z) (hm:∀ At,AT At->oL m At) (hf:∀ At,AT At->dC m z At=0) {mx my r:Int} (hr:0<=r) (hc:Kg AT mx my r):Nq m.1 m.2 z.1 z.2 mx my 1 r:=by
 obtain⟨x,y,k,W,hI,hq⟩:=hc;have s1:=Fs (a:=m) (b:=z) hI λAt hq=>by rw[hf At hq];omega
 have s2:=Fs (a:=z) (b:=m) hI λAt hq=>by rw[BX,hf At hq];omega
 have hd:=ls zm;have d1:=hI (z.1-m.1) (z.2-m.2) (-((z.1-m.1)*m.1+(z.2-m.2)*m.2)) λAt hq=>by
  have e:(z.1-m.1)*At.1+(z.2-m.2)*At.2+-((z.1-m.1)*m.1+(z.2-m.2)*m.2)=(z.1-m.1)*(At.1-m.1)+(z.2-m.2)*(At.2-m.2):=by grind
  rw[e];rcases qm m At with h|rfl|h
  ·exact fu1 (ls h) hd (by have:=hf At hq;unfold dC sd at this;exact this)
  ·simp
  ·exact(gM _ (rj (hm At hq) h)).elim
 have d2:=hI (-(z.1-m.1)) (-(z.2-m.2)) ((z.1-m.1)*z.1+(z.2-m.2)*z.2) λAt hq=>by
  have e:-(z.1-m.1)*At.1+-(z.2-m.2)*At.2+((z.1-m.1)*z.1+(z.2-m.2)*z.2)=(z.1-m.1)*(z.1-At.1)+(z.2-m.2)*(z.2-At.2):=by grind
  rw[e];rcases qm At z with h|rfl|h
  ·refine fu1 (ls h) hd ?_
   have:=hf At hq;unfold dC sd at this;have e:(z.1-m.1)*(z.2-At.2)-(z.2-m.2)*(z.1-At.1)=-((z.1-m.1)*(At.2-m.2)-(z.2-m.2)*(At.1-m.1)):=by grind
   omega
  ·simp
  ·exact(gM _ (rj (hz At hq) h)).elim
 unfold BV at s1 s2;unfold gw at zm;obtain⟨a1,a2⟩:=m;obtain⟨b1,b2⟩:=z;simp only at *
 have h0:(b1-a1)*(y-k*a2)-(b2-a2)*(x-k*a1)=0:=by
  have e:(a1-b1)*(y-k*b2)-(a2-b2)*(x-k*b1)=-((b1-a1)*(y-k*a2)-(b2-a2)*(x-k*a1)):=by grind
  omega
 have T4:0<(b1-a1)*(b1-a1)+(b2-a2)*(b2-a2):=by
  by_cases e:b1-a1=0
  ·have:=v7 (x:=b2-a2) E;have:=jo (b1-a1);omega
  ·have:=v7 e;have:=jo (b2-a2);omega
 have ex:((b1-a1)*(b1-a1)+(b2-a2)*(b2-a2))*(x-k*a1)=((b1-a1)*(x-k*a1)+(b2-a2)*(y-k*a2))*(b1-a1)-(b2-a2)*((b1-a1)*(y-k*a2)-(b2-a2)*(x-k*a1)):=by grind
 have ey:((b1-a1)*(b1-a1)+(b2-a2)*(b2-a2))*(y-k*a2)=((b1-a1)*(x-k*a1)+(b2-a2)*(y-k*a2))*(b2-a2)+(b1-a1)*((b1-a1)*(y-k*a2)-(b2-a2)*(x-k*a1)):=by grind
 rw[h0,HJ]at ex ey;have t1:0<=(b1-a1)*(x-k*a1)+(b2-a2)*(y-k*a2):=by
  have e:(b1-a1)*x+(b2-a2)*y+-((b1-a1)*a1+(b2-a2)*a2)*k=(b1-a1)*(x-k*a1)+(b2-a2)*(y-k*a2):=by grind
  omega
 have t2:(b1-a1)*(x-k*a1)+(b2-a2)*(y-k*a2)<=k*((b1-a1)*(b1-a1)+(b2-a2)*(b2-a2)):=by
  have e:-(b1-a1)*x+-(b2-a2)*y+((b1-a1)*b1+(b2-a2)*b2)*k=k*((b1-a1)*(b1-a1)+(b2-a2)*(b2-a2))-((b1-a1)*(x-k*a1)+(b2-a2)*(y-k*a2)):=by grind
  omega
 generalize hT:(b1-a1)*(x-k*a1)+(b2-a2)*(y-k*a2)=BO at *
 generalize izb21:(b1-a1)*(b1-a1)+(b2-a2)*(b2-a2)=dd at *
 refine⟨BO,k*dd,t1,t2,H5 W T4,?_⟩;have f1:k*dd*mx-1*((k*dd-BO)*a1+BO*b1)=dd*(k*mx-x):=by
  have:dd*(k*mx-x)=k*dd*mx-(dd*(x-k*a1)+k*dd*a1):=by grind
  rw[this,ex];grind
 have Q:k*dd*my-1*((k*dd-BO)*a2+BO*b2)=dd*(k*my-y):=by
  have:dd*(k*my-y)=k*dd*my-(dd*(y-k*a2)+k*dd*a2):=by grind
  rw[this,ey];grind
 rw[f1,Q,jk];have:=oo hq (jo dd);have e:k*dd*1*r*(k*dd*1*r)=dd*dd*(k*r*(k*r)):=by grind
 omega
def ji:List P2->List P2
 |[]=>[]|[a]=>[a]|a::b::l=>(bG [] (a::b::l)).tail.reverse++(bG [] (a::b::l).reverse).tail.reverse
def jG (l:List P2) (i:Nat):P2:=l.getD i (0,0)
def JV (a b m:P2) (r:Int):Bool:=nr a.1 a.2 b.1 b.2 m.1 m.2 r
def TP (Qa:List P2) (m:P2) (r:Int):Prop:=(∃i,i<Qa.length/\JV (jG Qa i) (jG Qa ((i+1) % Qa.length)) m r=true)∨(2<Qa.length/\∀i,i<Qa.length->0<dC (jG Qa i) (jG Qa ((i+1) % Qa.length)) m)
theorem GF:∀ {st:List P2} {x y:P2},tm st x y↔∃ i,st.reverse[i]? = some x/\st.reverse[i+1]? = some y
 |[],x,y=>by simp[tm]
 |[s],x,y=>by simp only[tm,false_iff];rintro⟨i,M,N⟩;simp at N
 |b::a::l,x,y=>by
   have ih:=GF (st:=a::l) (x:=x) (y:=y);have hl:(a::l).reverse.length=l.length+1:=by simp
   have ha:(a::l).reverse[l.length]? = some a:=by rw[Ht,GY av];simp
   simp only[tm,ih];rw[Ht (a:=b)];constructor
   ·rintro (⟨rfl,rfl⟩|⟨i,M,N⟩)
    ·refine⟨l.length,?_,?_⟩
     ·rw[Fp E];exact ha
     ·rw[GY E,hl];simp
    ·have k:i+1<(a::l).reverse.length:=by
      apply Classical.byContradiction;intro hn;rw[GE E]at N;cases N
     exact⟨i,by rw[Fp E];exact M,by rw[Fp k];exact N⟩
   ·rintro ⟨i,M,N⟩
    by_cases k:i+1<(a::l).reverse.length
    ·rw[Fp k]at N;rw[Fp E]at M;exact .inr ⟨i,M,N⟩
    ·rw [GY E,hl]at N
     have e:i=l.length:=by apply Classical.byContradiction;intro hn;rw[GE (by simp;omega)]at N;cases N
     subst e;rw[Fp E,ha]at M;rw[Nat.sub_self]at N;simp only[Hc,Et]at M N;exact .inl ⟨M.symm,N.symm⟩
theorem F6:∀ {st:List P2},st≠[]->st.reverse[0]? = some (se st)
 |[s],_=>rfl
 |b::a::l,_=>by rw[Ht (a:=b),Fp av];exact F6 (st:=a::l) av
section
variable {AT:P2->Prop} {R0 B:List P2} {z m:P2}
theorem ahR {rA rB:List P2} {z m:P2} (bA:rA.reverse[0]? = some m) (bB:rB.reverse[0]? = some z) (i:Nat) (hi:i<rA.length+rB.length) :
 (rA.reverse++rB.reverse)[i]? = (if i<rA.length then(rA.reverse++[z])[i]? else(rB.reverse++[m])[i-rA.length]?)/\(rA.reverse++rB.reverse)[(i+1) % (rA.length+rB.length)]? = (if i<rA.length then(rA.reverse++[z])[i+1]? else(rB.reverse++[m])[i-rA.length+1]?):=by
 have nA:rA.reverse.length=rA.length:=I5;have yad:rB.reverse.length=rB.length:=I5;by_cases M:i<rA.length
 ·rw [E5 M,E5 M,Nat.mod_eq_of_lt (by
   have:0<rB.reverse.length:=by apply Classical.byContradiction;intro hn;rw[GE E]at bB;cases bB
   omega)]
  refine⟨by rw[Fp E,Fp E],?_⟩;by_cases N:i+1<rA.length
  ·rw[Fp E,Fp E]
  ·have e:i+1=rA.length:=by omega
   rw[e,GY E,GY E,nA,Nat.sub_self,bB];rfl
 ·rw [DX M,DX M]
  refine⟨by rw[GY E,Fp (l₁:=rB.reverse) E,nA],?_⟩;by_cases N:i-rA.length+1<rB.length
  ·rw[Nat.mod_eq_of_lt E,GY E,Fp (l₁:=rB.reverse) E,nA];congr 1;omega
  ·have e:i+1=rA.length+rB.length:=by omega
   have e2:i-rA.length+1=rB.length:=by omega
   rw[e,Nat.mod_self,e2,Fp (by apply Classical.byContradiction;intro hn;rw[GE E]at bA;cases bA),GY E,yad,Nat.sub_self,bA];rfl
theorem mH.ix (h:mH AT R0 B z m) (i:Nat) (hi:i<(R0.tail.reverse++B.tail.reverse).length) :
 (R0.tail.reverse++B.tail.reverse)[i]? = (if i<R0.tail.length then R0.reverse[i]? else B.reverse[i-R0.tail.length]?)/\(R0.tail.reverse++B.tail.reverse)[(i+1) % (R0.tail.reverse++B.tail.reverse).length]? = (if i<R0.tail.length then R0.reverse[i+1]? else B.reverse[i-R0.tail.length+1]?):=by
 obtain⟨rA,eA⟩:=h.tA;obtain⟨rB,eB⟩:=h.tB;have la:=h.lenA;have lb:=h.lenB;have bA:=F6 (st:=R0) (by rw[eA];simp);have bB:=F6 (st:=B) (by rw[eB];simp);rw[h.bA]at bA;rw[h.bB]at bB;rw[eA]at la bA hi ⊢;rw[eB]at lb bB hi ⊢;simp only[HC]at la lb;rw[Ht,Fp (by simp;omega)]at bA bB;have Rk:i<rA.length+rB.length:=by
  have:(rA.reverse++rB.reverse).length=rA.length+rB.length:=by simp
  have N:i<(rA.reverse++rB.reverse).length:=hi;omega
 have k:=ahR bA bB i Rk;have yau:(rA.reverse++rB.reverse).length=rA.length+rB.length:=by simp
 rw[← yau]at k;rw[← Ht,← Ht]at k;exact k
theorem je {l:List P2} {i:Nat} (h:i<l.length):l[i]? = some (jG l i):=by unfold jG;rw[HU h];simp[List.getD,HU h]
theorem mH.cyc (h:mH AT R0 B z m) {x y:P2}:(∃ i,i<(R0.tail.reverse++B.tail.reverse).length/\jG (R0.tail.reverse++B.tail.reverse) i=x/\jG (R0.tail.reverse++B.tail.reverse) ((i+1) % (R0.tail.reverse++B.tail.reverse).length)=y)↔Ed R0 B x y:=by
 unfold Ed;rw[GF,GF];have nA:R0.reverse.length=R0.tail.length+1:=by have:=h.lenA;simp;omega
 have yad:B.reverse.length=B.tail.length+1:=by have:=h.lenB;simp;omega
 have nza23:(R0.tail.reverse++B.tail.reverse).length=R0.tail.length+B.tail.length:=by simp
 have yaV:∀{l:List P2} {i:Nat} {x:P2},l[i]? = some x->i<l.length:=λ{l i x} hx=>by apply Classical.byContradiction;intro hn;rw[GE E]at hx;cases hx
 constructor
 ·rintro ⟨i,hi,rfl,rfl⟩
  have k:=h.ix i hi;rw[je hi,je (Ip _ E)]at k;by_cases hl:i<R0.tail.length
  ·rw[E5 hl,E5 hl]at k;exact .inl ⟨i,k.1.symm,k.2.symm⟩
  ·rw[DX hl,DX hl]at k;exact .inr ⟨_,k.1.symm,k.2.symm⟩
 ·rintro (⟨i,M,N⟩|⟨i,M,N⟩)
  ·have g:=yaV N
   have hi:i<(R0.tail.reverse++B.tail.reverse).length:=by omega
   have k:=h.ix i hi;rw[E5 E,E5 E,M,N,je hi,je (Ip _ E)]at k;simp only[Et]at k;exact⟨i,hi,k.1,k.2⟩
  ·have g:=yaV N
   have hi:i+R0.tail.length<(R0.tail.reverse++B.tail.reverse).length:=by omega
   have k:=h.ix (i+R0.tail.length) hi;rw[DX E,DX E,Nat.add_sub_cancel,M,N,je hi,je (Ip _ E)]at k;simp only[Et]at k;exact⟨_,hi,k.1,k.2⟩
end
theorem Cn {a b m:P2} {r:Int} (hr:0<=r):JV a b m r=true↔Nq a.1 a.2 b.1 b.2 m.1 m.2 1 r:=fc9 hr
section
variable {AT:P2->Prop} {m:P2} {r:Int}
theorem ai8 {a:P2} (h:q2 (m.1-a.1) (m.2-a.2)<=r*r) (b:P2):Nq a.1 a.2 b.1 b.2 m.1 m.2 1 r:=by refine⟨0,1,E,E,E,?_⟩;rw[show 1*m.1-1*((1-0)*a.1+0*b.1)=m.1-a.1 by omega,show 1*m.2-1*((1-0)*a.2+0*b.2)=m.2-a.2 by omega,show 1*1*r=r by omega];exact h
end
theorem al2 {c:List P2} (hs:c.Pairwise gw) (h0:c≠[]) {m:P2} {r:Int} (hr:0<=r) (h:Kg (λAt=>At∈c) m.1 m.2 r):TP (ji c) m r:=by
 match c,hs,h0 with
 |[a],_,_=>
   obtain⟨x,y,k,W,hI,hq⟩:=h;have i1:=hI 1 0 (-a.1) λAt hq=>by simp only[Jr]at hq;subst hq;omega
   have i2:=hI (-1) 0 a.1 λAt hq=>by simp only[Jr]at hq;subst hq;omega
   have i3:=hI 0 1 (-a.2) λAt hq=>by simp only[Jr]at hq;subst hq;omega
   have i4:=hI 0 (-1) a.2 λAt hq=>by simp only[Jr]at hq;subst hq;omega
   rw[Io]at i1 i3;have ex:x=k*a.1:=by rw[Int.mul_comm];omega
   have ey:y=k*a.2:=by rw[Int.mul_comm];omega
   refine .inl ⟨0,by simp[ji],(Cn hr).2 (ai8 ?_ _)⟩;show q2 (m.1-a.1) (m.2-a.2)<=r*r;rw[ex,ey,← Int.mul_sub,← Int.mul_sub,jk]at hq;refine nY W ?_;have e:k*r*(k*r)=k*k*(r*r):=by grind
   omega
 |a::b::l,hs,_=>
   obtain⟨z,Qa⟩:=ih3 hs av;unfold ji;have la:=Qa.lenA;have lb:=Qa.lenB;by_cases hf:(bG [] (a::b::l)).length<3/\(bG [] (a::b::l).reverse).length<3
   ·obtain⟨eA,eB,hflat⟩:=Qa.flat hf.1 hf.2;have k:=hr1 Qa.zm Qa.hz Qa.hm hflat hr h;have e:Ed (bG [] (a::b::l)) (bG [] (a::b::l).reverse) a z:=.inl (by rw[eA];exact nC);obtain⟨i,hi,M,N⟩:=Qa.cyc.2 e;exact .inl ⟨i,hi,by rw[M,N];exact(Cn hr).2 k⟩
   ·have hn:sP (λAt=>At∈a::b::l):=Qa.bend E
    by_cases hx:∃i,i<((bG [] (a::b::l)).tail.reverse++(bG [] (a::b::l).reverse).tail.reverse).length/\dC (jG ((bG [] (a::b::l)).tail.reverse++(bG [] (a::b::l).reverse).tail.reverse) i) (jG ((bG [] (a::b::l)).tail.reverse++(bG [] (a::b::l).reverse).tail.reverse) ((i+1) % ((bG [] (a::b::l)).tail.reverse++(bG [] (a::b::l).reverse).tail.reverse).length)) m<=0
    ·obtain⟨i,hi,hx⟩:=hx;obtain⟨p,At,he,W⟩:=Qa.near hn hr h (e0:=(_,_)) (Qa.cyc.1 ⟨i,hi,rfl,rfl⟩) hx;obtain⟨j,hj,M,N⟩:=Qa.cyc.2 he;exact .inl ⟨j,hj,by rw[M,N];exact(Cn hr).2 W⟩
    ·refine .inr ⟨by simp only[HP,I5,Jw];omega,λi hi=>?_⟩;apply Classical.byContradiction;intro hn;exact hx ⟨i,hi,Int.not_lt.1 hn⟩
end
end Go.Dx
namespace Go.Dx
open Go.Sx
noncomputable section
abbrev En:List Ty:=[Ty.int IntKind.i64,Ty.int IntKind.i64]
def pq (f:bk) (i:Nat):P2:=(aE (f i),bM (f i))
def Gf (p:P2):List V:=[V.int .i64 p.1,V.int .i64 p.2]
theorem rY (f:bk) (i:Nat):pq (A En f) i=pq f i:=rfl
def Er (n:Nat) (f:bk):List P2:=(List.range n).map (pq f)
theorem dH (n:Nat) (f:bk):(Er n f).length=n:=by simp[Er]
theorem xF {n:Nat} {f:bk} {k:Nat} (h:k<n):(Er n f)[k]? = some (pq f k):=by simp[Er,h]
theorem ahI (n:Nat) (f:bk):Er n (A En f)=Er n f:=rfl
theorem rQ {n:Nat} {f:bk} {At:P2}:At∈Er n f↔∃k,k<n/\pq f k=At:=by simp[Er]
theorem xH (n:Nat) (f:bk) (p:P2):Er (n+1) (bH n (A En f) λ_=>Gf p)=Er n f++[p]:=by
 unfold Er;rw[List.range_succ,List.map_append];congr 1
 ·refine Jm λk W=>?_;have W:=List.mem_range.1 W;unfold pq bH;rw[show Nat.blt k n=true from Hj W];rfl
 ·simp only [GZ,Ia,G5,and_true]
  unfold pq bH;have:Nat.blt n n=false:=by
   cases hb:Nat.blt n n with
   |false=>rfl|true=>have:=G2 hb;omega
  rw[this];rfl
theorem Ea {n m:Nat} {f:bk} (h:m<=n):Er m f=(Er n f).take m:=by unfold Er;rw[← List.map_take,List.take_range,JG h]
theorem FO {f:bk} {j k:Nat} {l:List V}:pq (λi=>bif Nat.beq i j then l else f i) k=if k=j then(aE l,bM l) else pq f k:=by
 unfold pq;dsimp only
 by_cases h:k=j
 ·subst h;rw[E5 rfl,Nat.beq_refl];rfl
 ·rw [DX h]
  have:Nat.beq k j=false:=by
   cases hb:Nat.beq k j with
   |false=>rfl|true=>exact(h (FF hb)).elim
  rw[this];rfl
theorem hs1 {a b c:P2} (M:oL a b) (N:oL b c):oL a c:=by unfold oL at *;omega
theorem hr3 {a b:P2} (h:¬gw a b):oL b a:=by unfold gw oL at *;omega
theorem yaA {a b:P2} (h:oL a b) (hn:¬(b.1=a.1/\b.2=a.2)):gw a b:=by unfold gw oL at *;omega
def M4 (f:bk) (i j:Nat):Nat->List V:=λi'=>bif Nat.beq i' j then Gf (pq f i) else bif Nat.beq i' i then Gf (pq f j) else A En f i'
theorem xt (f:bk) (i j k:Nat):pq (M4 f i j) k=if k=j then pq f i else if k=i then pq f j else pq f k:=by
 unfold M4;rw[FO];by_cases h:k=j
 ·rw[E5 h,E5 h];rfl
 ·rw[DX h,DX h];have:=FO (f:=A En f) (j:=i) (k:=k) (l:=Gf (pq f j));rw[this];rfl
section
variable {Qo:Nat} {AT:P2->Prop}
def mI (Qo:Nat) (AT:P2->Prop) (f:bk):Prop:=∀At,AT At↔∃k,k<Qo/\pq f k=At
def Kn (i:Nat) (f:bk):Prop:=∀a b,a<b->b<i->oL (pq f a) (pq f b)
def JN (i:Nat) (f:bk):Prop:=∀a b,a<b->b<i->gw (pq f a) (pq f b)
theorem ad3 {f:bk} {i j:Nat} (hi:i<Qo) (hj:j<Qo) (h:mI Qo AT f):mI Qo AT (M4 f i j):=λAt=>by
 rw[h At];constructor
 ·rintro ⟨k,W,e⟩
  by_cases M:k=i
  ·exact⟨j,hj,by rw[xt,E5 rfl,← M];exact e⟩
  ·by_cases N:k=j
   ·refine⟨i,hi,?_⟩
    rw[xt];by_cases h3:i=j
    ·rw[E5 h3];rw[h3,← N];exact e
    ·rw[DX h3,E5 rfl,← N];exact e
   ·exact⟨k,W,by rw[xt,DX N,DX M];exact e⟩
 ·rintro ⟨k,W,e⟩
  rw[xt]at e;by_cases N:k=j
  ·rw[E5 N]at e;exact⟨i,hi,e⟩
  ·rw[DX N]at e
   by_cases M:k=i
   ·rw[E5 M]at e;exact⟨j,hj,e⟩
   ·rw[DX M]at e;exact⟨k,W,e⟩
theorem ya {P0:Nat->(Nat->List V)->Prop} {P1:Nat->Nat->(Nat->List V)->Prop}
 (s0:∀i f,1<=i->i<Qo->P1 i i (A En f)->P0 i f)
 (s0e:∀f,Kn Qo f->mI Qo AT f->P0 Qo f)
 (s1a:∀j i f,0<j->j<=i->i<Qo->mI Qo AT f->gw (pq f j) (pq f (j-1))->P1 (j-1) i (M4 f j (j-1))->P1 j i f)
 (s1b:∀j i f,j<=i->i<Qo->mI Qo AT f->(0<j->¬gw (pq f j) (pq f (j-1)))->P0 (i+1) (A En f)->P1 j i f) :
 ∀m i f,i+m=Qo->1<=i->Kn i f->mI Qo AT f->P0 i f
 |0,i,f,M,_,N,h3=>by rw[show i=Qo by omega]at N ⊢;exact s0e f N h3
 |m+1,i,f,M,hi,N,h3=>by
   refine s0 i f hi E ?_;have key:∀ j f,j<=i->(∀ a b,a<b->b<=i->b≠j->oL (pq f a) (pq f b))->mI Qo AT f->P1 j i f:=by
    intro j;induction j with
    |zero=>intro f hj hins hm;refine s1b 0 i f hj E hm (λh=>by omega) (ya s0 s0e s1a s1b m (i+1) _ E E (λa b Sq hb=>?_) hm);exact hins a b Sq E E
    |succ j ih=>
      intro f hj hins hm;by_cases Qw:gw (pq f (j+1)) (pq f j)
      ·refine s1a (j+1) i f E hj E hm Qw (ih _ E (λa b Sq hb im13=>?_) (ad3 E E hm))
       simp only[Nat.add_sub_cancel]at *
       rw[xt,xt];by_cases b1:b=j+1
       ·subst b1
        rw[DX (by omega:¬j+1=j),E5 rfl];by_cases a1:a=j
        ·rw[E5 a1];exact ut Qw
        ·rw[DX a1,DX E];exact hins a j E E E
       ·rw [DX im13,DX b1]
        by_cases a1:a=j
        ·rw[E5 a1];exact hins (j+1) b E hb E
        ·rw[DX a1]
         by_cases a2:a=j+1
         ·rw[E5 a2];exact hins j b E hb E
         ·rw[DX a2];exact hins a b Sq hb E
      ·refine s1b (j+1) i f hj E hm (λ_=>Qw) (ya s0 s0e s1a s1b m (i+1) _ E E (λa b Sq hb=>?_) hm)
       rw[rY,rY];by_cases b1:b=j+1
       ·subst b1
        have k:=hr3 Qw;by_cases a1:a=j
        ·subst a1;exact k
        ·exact hs1 (hins a j E E E) k
       ·exact hins a b Sq E b1
   exact key i _ (Em _) (λa b Sq hb izb18=>N a b Sq E) h3
theorem DF {P2':Nat->(Nat->List V)->Prop} {P3:Nat->Nat->Nat->(Nat->List V)->Prop}
 (n12:∀f,JN Qo f->mI Qo AT f->P2' Qo f)
 (n13:∀i f,1<=i->i<Qo->¬((pq f i).1=(pq f (i-1)).1/\(pq f i).2=(pq f (i-1)).2)->P2' (i+1) (A En f)->P2' i f)
 (n11:∀i f,1<=i->i<Qo->((pq f i).1=(pq f (i-1)).1/\(pq f i).2=(pq f (i-1)).2)->P3 1 i i (A En f)->P2' i f)
 (ds:∀ k off m f,1<=k->off+k<Qo->1<=m->m<=off+k-1->¬ ((pq f (off+k)).1=(pq f (off+(k-1))).1/\(pq f (off+k)).2=(pq f (off+(k-1))).2) ->
   P3 (k+1) off (m+1) (λi'=>bif Nat.beq i' m then Gf (pq f (off+k)) else A En f i')->P3 k off m f)
 (n15:∀k off m f,1<=k->off+k<Qo->1<=m->m<=off+k-1->((pq f (off+k)).1=(pq f (off+(k-1))).1/\(pq f (off+k)).2=(pq f (off+(k-1))).2)->P3 (k+1) off m (A En f)->P3 k off m f)
 (n14:∀off m f,off<Qo->1<=m->m<Qo->JN m f->mI m AT f->P3 (Qo-off) off m f) :
 ∀m i f,i+m=Qo->1<=i->Kn Qo f->JN i f->mI Qo AT f->P2' i f
 |0,i,f,M,_,_,N,h3=>by rw[show i=Qo by omega]at N ⊢;exact n12 f N h3
 |m+1,i,f,M,hi,hS,N,h3=>by
   by_cases he:(pq f i).1=(pq f (i-1)).1/\(pq f i).2=(pq f (i-1)).2
   ·refine n11 i f hi E he ?_
    have key:∀ r k m g,k+r=Qo-i->1<=k->i<=m->m<=i+k-1->(∀ t,i+k-1<=t->t<Qo->pq g t=pq f t)->JN m g->(∀ At,(∃ a,a<m/\pq g a=At)↔∃ a,a<i+k/\pq f a=At)->pq g (m-1)=pq f (i+k-1)->P3 k i m g:=by
     intro r;induction r with
     |zero=>
       intro k m g W Wa him hm hu TV hmem hl;rw[show k=Qo-i by omega]at *
       refine n14 i m g E E E TV λAt=>?_;rw[h3 At,hmem At,show i+(Qo-i)=Qo by omega]
     |succ r ih=>
       intro k m g W Wa him hm hu TV hmem hl;have u1:=hu (i+k) E E;have u2:=hu (i+(k-1)) E E;rw[show i+k-1=i+(k-1) by omega]at hl;by_cases hd:(pq g (i+k)).1=(pq g (i+(k-1))).1/\(pq g (i+k)).2=(pq g (i+(k-1))).2
       ·refine n15 k i m g Wa E E hm hd (ih (k+1) m _ E E him E (λt ht=>hu t E) TV (λAt=>?_) ?_)
        ·have:=hmem At
         simp only[rY];rw[this];constructor
         ·rintro⟨a,ha,e⟩;exact⟨a,E,e⟩
         ·rintro ⟨a,ha,e⟩
          by_cases ea:a=i+k
          ·subst ea;refine⟨i+(k-1),E,?_⟩;rw[← e,← u1,← u2];exact(Prod.ext hd.1 hd.2).symm
          ·exact⟨a,E,e⟩
        ·rw[rY,hl,show i+(k+1)-1=i+k by omega,← u1,← u2];exact(Prod.ext hd.1 hd.2).symm
       ·have Qw:gw (pq g (m-1)) (pq g (i+k)):=by
         refine yaA ?_ ?_
         ·rw[hl,u1];exact hS _ _ E E
         ·rw[hl,← u2];exact hd
        have hs:∀t,pq (λi'=>bif Nat.beq i' m then Gf (pq g (i+k)) else A En g i') t=if t=m then pq g (i+k) else pq g t:=λt=>by rw[FO];rfl
        refine ds k i m g Wa E E hm hd (ih (k+1) (m+1) _ E E E E (λt ht nw10=>?_) (λa b Sq hb=>?_) (λAt=>?_) ?_)
        ·rw[hs,DX E];exact hu t E nw10
        ·rw [hs,hs]
         by_cases b1:b=m
         ·rw[DX E,E5 b1]
          by_cases a1:a=m-1
          ·rw[a1];exact Qw
          ·exact qd (TV a (m-1) E E) Qw
         ·rw[DX E,DX b1];exact TV a b Sq E
        ·constructor
         ·rintro ⟨a,ha,e⟩
          rw[hs]at e;by_cases a1:a=m
          ·rw[E5 a1]at e;exact⟨i+k,E,by rw[← u1];exact e⟩
          ·rw[DX a1]at e;obtain⟨c,hc,e'⟩:=(hmem At).1 ⟨a,E,e⟩;exact⟨c,E,e'⟩
         ·rintro ⟨a,ha,e⟩
          by_cases a1:a=i+k
          ·exact⟨m,E,by rw[hs,E5 rfl,u1,← a1];exact e⟩
          ·obtain⟨c,hc,e'⟩:=(hmem At).2 ⟨a,E,e⟩;exact⟨c,E,by rw[hs,DX E];exact e'⟩
        ·rw[hs,Nat.add_sub_cancel,E5 rfl,show i+(k+1)-1=i+k by omega,u1]
    refine key (Qo-i-1) 1 i _ E (Em _) (Em _) E (λt _ _=>rY f t) N (λAt=>?_) ?_
    ·simp only [rY]
     constructor
     ·rintro⟨a,ha,e⟩;exact⟨a,E,e⟩
     ·rintro⟨a,ha,e⟩
      by_cases ea:a=i
      ·subst ea;exact⟨a-1,E,by rw[← e];exact(Prod.ext he.1 he.2).symm⟩
      ·exact⟨a,E,e⟩
    ·rw[rY,show i+1-1=i by omega];exact(Prod.ext he.1 he.2).symm
   ·refine n13 i f hi E he (DF n12 n13 n11 ds n15 n14 m (i+1) _ E E hS (λa b Sq hb=>?_) h3)
    rw[rY,rY];by_cases b1:b=i
    ·subst b1
     have Qw:gw (pq f (b-1)) (pq f b):=yaA (hS _ _ E E) he;by_cases a1:a=b-1
     ·rw[a1];exact Qw
     ·exact qd (N a (b-1) E E) Qw
    ·exact N a b Sq E
end
theorem CH {Qo:Nat} {g:Nat->P2} {P:Nat->Nat->(Nat->List V)->Prop} (r1:∀ i j f,i<j->j<Qo->P (i+1) (j-1) (M4 f i j)->P i j f)
 (r2:∀i j f,¬i<j->(∀k,k<Qo->pq f k=g (Qo-1-k))->P i j f) :
 ∀m i j f,j-i<=m->i+j+1=Qo->(∀k,k<Qo->pq f k=if k<i∨j<k then g (Qo-1-k) else g k)->P i j f
 |m,i,j,f,hm,hN,h=>by
   by_cases VQ:i<j
   ·match m,hm with
    |0,hm=>omega
    |m+1,hm=>
      refine r1 i j f VQ E (CH r1 r2 m (i+1) (j-1) _ E E λk W=>?_);rw[xt];by_cases k1:k=j
      ·rw[E5 k1,E5 E,h i E,DX E,show Qo-1-k=i by omega]
      ·rw [DX k1]
       by_cases k2:k=i
       ·rw[E5 k2,E5 E,h j E,DX E,show Qo-1-k=j by omega]
       ·rw[DX k2,h k W]
        by_cases k3:k<i∨j<k
        ·rw[E5 k3,E5 E]
        ·rw[DX k3,DX E]
   ·refine r2 i j f VQ λk W=>?_
    rw[h k W];by_cases k3:k<i∨j<k
    ·rw[E5 k3]
    ·rw[DX k3,show Qo-1-k=k by omega]
theorem ni {base c:List P2} {PO:Nat->Nat->(Nat->List V)->Prop} {PI:Nat->Nat->Nat->(Nat->List V)->Prop} {RO:Nat} (hM:base.length+c.length<=RO)
 (hO:∀i n fo,i<c.length->n<=RO->PI i n n (A En fo)->PO i n fo)
 (hpop:∀i n cap fo,i<c.length->base.length+1<n->n<=cap->cap<=RO->(∀k,k<n->pq fo k∈base∨pq fo k∈c)->dC (pq fo (n-2)) (pq fo (n-1)) (jG c i)<=0->PI i (n-1) cap (A En fo)->PI i n cap fo)
 (happ:∀i n cap fo,i<c.length->base.length<=n->(∀k,k<n->pq fo k∈base∨pq fo k∈c)->(base.length+1<n->0<dC (pq fo (n-2)) (pq fo (n-1)) (jG c i))->n<=cap->cap<=RO->PO (i+1) (n+1) (bH n (A En fo) λ_=>Gf (jG c i))->PI i n cap fo)
 (hE:∀n fo,Er n fo=base++(bG [] c).reverse->PO c.length n fo) :
 ∀(l done st:List P2) (n:Nat) (fo:bk),c=done++l->bG st l=bG [] c->Er n fo=base++st.reverse->st.length<=done.length->(∀At∈st,At∈c)->PO done.length n fo
 |[],done,st,n,fo,M,N,h3,_,_=>by rw[LK]at M;rw[← M];simp only[bG]at N;exact hE n fo (by rw[h3,N])
 |p::l,done,st,n,fo,M,N,h3,h4,h5=>by
   have hlen:done.length<c.length:=by rw[M];simp
   have hp:jG c done.length=p:=by have:=je (l:=c) hlen;rw[M,GY (Em _),Nat.sub_self]at this;simp only[Hc,Et]at this;rw[M];exact this.symm
   have X3:∀{st:List P2} {n fo},Er n fo=base++st.reverse->n=base.length+st.length:=λ{st n fo} h=>by have:=congrArg List.length h;rwa [dH,HP,I5]at this
   have hn:=X3 h3;have izb7:p∈c:=by rw[M];simp
   have Ri:∀ {st:List P2} {n fo},(∀ At∈st,At∈c)->Er n fo=base++st.reverse->∀ k,k<n->pq fo k∈base∨pq fo k∈c:=λ{st n fo} hs h k W=>by
    have:pq fo k∈base++st.reverse:=by rw[← h];exact rQ.2 ⟨k,W,rfl⟩
    rcases List.mem_append.1 this with h|h
    ·exact .inl h
    ·exact .inr (hs _ (List.mem_reverse.1 h))
   refine hO done.length n fo hlen E ?_;have fin:∀ (st':List P2) (n:Nat) (fo:bk),kF p st'=st'->st'.length<=done.length->(∀ At∈st',At∈c)->kF p st'=kF p st->Er n fo=base++st'.reverse->PO (done.length+1) (n+1) (bH n (A En fo) λ_=>Gf (jG c done.length)):=λst' n fo e0 SJ SS e hl=>by
    have:=ni hM hO hpop happ hE l (done++[p]) (p::st') (n+1) (bH n (A En fo) λ_=>Gf (jG c done.length)) (by rw[M];simp) (by rw[← N];simp only[bG];rw[← e,e0]) (by rw[xH,hl,hp];simp) (by simp;omega) (λAt hq=>by
     rcases List.mem_cons.1 hq with rfl|hq
     ·exact izb7
     ·exact SS At hq)
    rwa [HP,List.length_singleton]at this
   have key:∀ (st':List P2) (n:Nat) (fo:bk),st'.length<=done.length->(∀ At∈st',At∈c)->kF p st'=kF p st->Er n fo=base++st'.reverse->∀ cap,n<=cap->cap<=RO->PI done.length n cap fo:=by
    intro st';induction st' with
    |nil=>intro n fo RH TV hpop' hl cap hc WZ;have XY:=X3 hl;simp only[Hs]at XY;refine happ done.length n cap fo hlen E (Ri TV hl) (λh=>by omega) hc WZ (fin [] n fo rfl RH TV hpop' hl)
    |cons b st' ih=>
      intro n fo RH TV hpop' hl cap hc WZ;cases st' with
      |nil=>have XY:=X3 hl;simp only[HC,Hs]at XY;exact happ done.length n cap fo hlen E (Ri TV hl) (λh=>by omega) hc WZ (fin [b] n fo rfl RH TV hpop' hl)
      |cons a l'=>
        have XY:=X3 hl;simp only[HC]at XY;have e1:pq fo (n-1)=b:=by
         have:=xF (f:=fo) (n:=n) (k:=n-1) E;rw[hl,GY E,Ht,Ht,GY (by simp;omega)]at this;have e:n-1-base.length-(l'.reverse++[a]).length=0:=by simp;omega
         rw[e]at this;simp only[Hc,Et]at this;exact this.symm
        have e2:pq fo (n-2)=a:=by
         have:=xF (f:=fo) (n:=n) (k:=n-2) E;rw[hl,GY E,Ht,Ht,Fp (by simp;omega),GY (by simp;omega)]at this;have e:n-2-base.length-l'.reverse.length=0:=by simp;omega
         rw[e]at this;simp only[Hc,Et]at this;exact this.symm
        by_cases hs:dC a b p<=0
        ·refine hpop done.length n cap fo hlen E hc WZ (Ri TV hl) (by rw[e1,e2,hp];exact hs) (ih (n-1) _ (by simp only[HC]at RH ⊢;omega) (λAt hq=>TV At (HA _ hq)) ?_ ?_ cap E WZ)
         ·rw[← hpop'];simp only[kF];rw[BH hs];rfl
         ·rw[ahI,Ea (n:=n) E,hl];rw[Ht (a:=b),← JE,Jg (by simp;omega),J7 (by simp;omega)]
        ·refine happ done.length n cap fo hlen E (Ri TV hl) (λ_=>by rw[e1,e2,hp];omega) hc WZ (fin (b::a::l') n fo ?_ RH TV hpop' hl);simp only[kF];rw[eZ hs];rfl
   exact key st n (A En fo) h4 h5 rfl h3 n (Em _) E
def pI (p:P2):Prop:=sm p.1/\sm p.2
theorem ani {a b:P2} (ha:pI a) (hb:pI b):decide (ra a.1 a.2 b.1 b.2<0)=true↔gw a b:=by
 unfold pI sm at ha hb;unfold ra gw;rw[GV];by_cases h:a.1=b.1
 ·have:(a.1 != b.1)=false:=by simp[h]
  rw[this,cond_false,D5 E E];omega
 ·have:(a.1 != b.1)=true:=by simp[h]
  rw[this,cond_true,D5 E E];omega
theorem Ww {a b p:P2} (ha:pI a) (hb:pI b) (hp:pI p):kC a.1 a.2 b.1 b.2 p.1 p.2=dC a b p:=by unfold kC;exact(aqt ha.1 ha.2 hb.1 hb.2 hp.1 hp.2).1
theorem fx15 {a b p:P2} {r:Int} (ha:pI a) (hb:pI b) (hp:pI p) (h7:0<=r) (h8:r<=1073741824):kk a.1 a.2 b.1 b.2 p.1 p.2 r=JV a b p r:=aoP ha.1 ha.2 hb.1 hb.2 hp.1 hp.2 h7 h8
theorem Mj (a b c d:Int):(a==b&&(c==d&&true))=decide (a=b/\c=d):=by by_cases M:a=b<;>by_cases N:c=d<;>simp[M,N]
theorem y7 {j:Nat} (h:0<j) (hj:j<=1000):I ((j:Int)-1)=((j-1:Nat):Int):=by rw[D5 E E];omega
theorem Iw {j:Nat} (h:1<j) (hj:j<=1000):I ((j:Int)-2)=((j-2:Nat):Int):=by rw[D5 E E];omega
theorem FA {j:Nat} (hj:j<=1000):I ((j:Int)+1)=((j+1:Nat):Int):=by rw[D5 E E];omega
theorem iV {QZ:Type} {Nx:QZ->V->Prop} {r:V} {C b1 b2 b3 b4 s:Bool} {X R6 Ue:RT QZ} (hb:C=true->b1=true/\b2=true/\b3=true/\b4=true) (hX:C=true->s=true->a6 Nx X r) (hY:C=true->s=false->a6 Nx R6 r) (ie10:C=false->a6 Nx Ue r) :
 a6 Nx (.obi (.obi (.obi (.obi (.obj C b1 (.obi (.obj C b2 (.obi (.obi (.obi (.obi (.obj C b3 (.obi (.obj C b4 (.obi (.obi (.br C (.ob C (.ob C (.obc (.obt (.br s X R6))))) Ue))))))))))))))))) r :=
 BK (BK (BK (BK (fQ (λh=>(hb h).1) (BK (fQ (λh=>(hb h).2.1) (BK (BK (BK (BK (fQ (λh=>(hb h).2.2.1) (BK (fQ (λh=>(hb h).2.2.2) (BK (BK (E2 (λh=>aL h (aL h (aC (ak (E2 (hX h) (hY h)))))) ie10))))))))))))))))
def Iv (Qa:List P2) (m:P2) (r:Int):Bool:=@decide (TP Qa m r) (Classical.propDecidable _)
theorem QG {Qa:List P2} {m:P2} {r:Int} (h:TP Qa m r):Iv Qa m r=true:=@BH _ (Classical.propDecidable _) h
theorem akB {Qa:List P2} {m:P2} {r:Int} (h:¬TP Qa m r):Iv Qa m r=false:=@eZ _ (Classical.propDecidable _) h
theorem mL {n cap:Nat} (h:n<=cap) (hc:cap<=1000):(decide (n<=cap/\(n+1)*16<=140737488355328)&&!Nat.beq 16 0)=true:=by rw[Eg];exact⟨BH ⟨h,E⟩,rfl⟩
theorem iz {n:Nat} {f:bk} {k:Nat} (h:k<n):jG (Er n f) k=pq f k:=by have M:=je (l:=Er n f) (i:=k) (by rw[dH];exact h);rw[xF h]at M;exact(Option.some.inj M).symm
theorem DC {c:List P2} (h:2<=c.length):ji c=(bG [] c).tail.reverse++(bG [] c.reverse).tail.reverse:=by
 match c,h with
 |a::b::l,_=>rfl
theorem JN.cong {m:Nat} {f g:bk} (h:JN m f) (e:∀k,k<m->pq g k=pq f k):JN m g:=λa b M N=>by rw[e a E,e b N];exact h a b M N
theorem mI.cong {m:Nat} {AT:P2->Prop} {f g:bk} (h:mI m AT f) (e:∀k,k<m->pq g k=pq f k):mI m AT g:=λAt=>by rw[h At];exact⟨λ⟨k,W,h⟩=>⟨k,W,by rw[e k W];exact h⟩,λ⟨k,W,h⟩=>⟨k,W,by rw[← e k W];exact h⟩⟩
theorem A3 {f:bk} {l:List V} {m n k:Nat} (h:k<m):pq (λi=>bif Nat.ble m i&&Nat.ble i.succ n then l else A En f i) k=pq f k:=by
 unfold pq;dsimp only
 have:Nat.ble m k=false:=by
  cases hb:Nat.ble m k with
  |false=>rfl|true=>have:=G2 hb;omega
 rw[this];rfl
section
variable {m:Nat} {f:bk}
include m f
theorem aqm (h:JN m f):(Er m f).Pairwise gw:=by unfold Er;rw[List.pairwise_map];refine List.Pairwise.imp_of_mem ?_ (List.pairwise_lt_range (n:=m));intro a b ha hb Sq;exact h a b Sq (List.mem_range.1 hb)
theorem ahS {g:bk} (h:∀ k,k<m->pq g k=pq f (m-1-k)):Er m g=(Er m f).reverse:=by
 apply Hg;intro k;by_cases W:k<m
 ·rw[xF W,List.getElem?_reverse (by rw[dH];exact W),dH,xF E,h k W]
 ·rw[GE (by rw[dH];omega),GE (by rw[I5,dH];omega)]
theorem EF {g:bk} (h:∀k,k<m->pq g k=pq f k):Er m g=Er m f:=by unfold Er;exact Jm λk W=>h k (List.mem_range.1 W)
end
theorem rP {n:Nat} {f:bk} {base st:List P2} (h:Er n f=base++st.reverse) (hs:st≠[]):0<n/\Er (n-1) f=base++st.tail.reverse/\n=base.length+st.length/\0<st.length:=by
 have hl:=congrArg List.length h;rw[dH,HP,I5]at hl
 match st,hs with
 |s::l,_=>simp only[HC]at hl;refine⟨E,?_,by simp only[HC];omega,av⟩;rw[Ea (n:=n) E,h,Ht,← JE,Jg (by simp;omega),J7 (by simp;omega)];rfl
theorem C53 {p At:P2}:∀ {st:List P2},At∈kF p st->At∈st
 |[],h=>h|[s],h=>h
 |b::a::l,h=>by
   simp only[kF]at h;cases hd:decide (dC a b p<=0) with
   |true=>rw[hd]at h;exact HA _ (C53 h)|false=>rw[hd]at h;exact h
theorem lc {At:P2}:∀ {l st:List P2},At∈bG st l->At∈st∨At∈l
 |[],st,h=>.inl h
 |p::l,st,h=>by
   simp only[bG]at h;rcases lc h with h|h
   ·rcases List.mem_cons.1 h with rfl|h
    ·exact .inr av
    ·exact .inl (C53 h)
   ·exact .inr (HA _ h)
theorem mW:∀ {l st:List P2},st≠[]∨l≠[]->bG st l≠[]
 |[],st,h=>by
   rcases h with h|h
   ·exact h
   ·exact(h rfl).elim
 |p::l,st,_=>mW (l:=l) (.inl av)
theorem CM {p:P2}:∀ {st:List P2},(kF p st).length<=st.length
 |[]=>Em _|[_]=>Em _
 |b::a::l=>by
   simp only[kF];cases decide (dC a b p<=0) with
   |true=>have:=CM (p:=p) (st:=a::l);simp only[HC,cond_true]at *;omega|false=>exact Em _
theorem iF:∀ {l st:List P2},(bG st l).length<=st.length+l.length
 |[],st=>Em _
 |p::l,st=>by simp only[bG];have:=iF (l:=l) (st:=p::kF p st);have:=CM (p:=p) (st:=st);simp only[HC]at *;omega
theorem hro {At:P2} {c:List P2} (h:At∈ji c):At∈c:=by
 match c,h with
 |[a],h=>exact h
 |a::b::l,h=>
   rcases List.mem_append.1 h with h|h
   ·rcases lc (Ma (List.mem_reverse.1 h)) with h|h
    ·cases h
    ·exact h
   ·rcases lc (Ma (List.mem_reverse.1 h)) with h|h
    ·cases h
    ·exact List.mem_reverse.1 h
theorem abJ {c:List P2} (h:c.length<3):ji c=c:=by
 match c,h with
 |[],_=>rfl|[a],_=>rfl|[a,b],_=>rfl
theorem NuN {p:P2}:∀ {st:List P2},st≠[]->kF p st≠[]
 |[],h=>absurd rfl h|[a],_=>by simp[kF]
 |b::a::l,_=>by
   unfold kF;cases decide (dC a b p<=0) with
   |true=>exact NuN av|false=>simp
theorem hkX:∀ (l st:List P2),st≠[]->l≠[]->2<=(bG st l).length
 |[],_,_,h=>absurd rfl h
 |[p],st,h,_=>by have:=List.length_pos_iff.2 (NuN (p:=p) h);show 2<=(p::kF p st).length;simp only[HC];omega
 |p::At::l,st,h,_=>hkX (At::l) (p::kF p st) av av
theorem hq2 {c:List P2} (hs:c.Pairwise gw) (h:c≠[]):0<(ji c).length:=by
 match c,h with
 |[a],_=>simp[ji]
 |a::b::l,_=>have:2<=(bG [] (a::b::l)).length:=hkX (b::l) [a] av av;simp only[ji,HP,I5,Jw];omega
theorem yA:∀ RG:List P2,∃ c:List P2,c.Pairwise gw/\∀ At,At∈RG↔At∈c
 |[]=>⟨[],.nil,λ_=>Iff.rfl⟩
 |a::RG=>by
   obtain⟨c,hc,hm⟩:=yA RG;by_cases ha:a∈c
   ·exact⟨c,hc,λAt=>⟨λh=>(List.mem_cons.1 h).elim (λe=>e▸ha) λh=>(hm At).1 h,λh=>HA _ ((hm At).2 h)⟩⟩
   ·have key:∀ c:List P2,c.Pairwise gw->a∉c->∃ d:List P2,d.Pairwise gw/\∀ At,At∈d↔At=a∨At∈c:=by
     intro c;induction c with
     |nil=>exact λ_ _=>⟨[a],av,λAt=>by simp⟩
     |cons b c ih=>
       intro hs hn;rw[J9]at hs;simp only[HD,not_or]at hn;obtain⟨d,hd,hq⟩:=ih hs.2 hn.2;rcases qm a b with h|h|h
       ·refine⟨a::b::c,?_,λAt=>by simp⟩;rw[J9,J9];exact⟨λAt hq=>(List.mem_cons.1 hq).elim (λe=>e▸h) λhq=>qd h (hs.1 At hq),hs⟩
       ·exact absurd h hn.1
       ·refine⟨b::d,?_,λAt=>by simp only[HD,hq];exact⟨λh=>h.elim (λh=>.inr (.inl h)) λh=>h.elim .inl λh=>.inr (.inr h),λh=>h.elim (λh=>.inr (.inl h)) λh=>h.elim .inl λh=>.inr (.inr h)⟩⟩;rw[J9];exact⟨λAt new7=>((hq At).1 new7).elim (λe=>e▸h) λN=>hs.1 At N,hd⟩
    obtain⟨d,hd,hq⟩:=key c hc ha;exact⟨d,hd,λAt=>by rw[hq,HD,hm At]⟩
theorem amw:∀ {c d:List P2},c.Pairwise gw->d.Pairwise gw->(∀ At,At∈c↔At∈d)->c=d
 |[],[],_,_,_=>rfl|[],b::d,_,_,h=>absurd ((h b).2 av) av|a::c,[],_,_,h=>absurd ((h a).1 av) av
 |a::c,b::d,hc,hd,h=>by
   rw[J9]at hc hd;have Sq:a=b:=by
    rcases List.mem_cons.1 ((h a).1 av) with M|M
    ·exact M
    ·rcases List.mem_cons.1 ((h b).2 av) with N|N
     ·exact N.symm
     ·exact absurd (qd (hc.1 b N) (hd.1 a M)) (gM a)
   subst Sq;rw[amw hc.2 hd.2 λAt=>⟨λhq=>by
    rcases List.mem_cons.1 ((h At).1 (HA _ hq)) with rfl|M
    ·exact absurd (hc.1 At hq) (gM At)
    ·exact M,λhq=>by
    rcases List.mem_cons.1 ((h At).2 (HA _ hq)) with rfl|M
    ·exact absurd (hd.1 At hq) (gM At)
    ·exact M⟩]
noncomputable def JL (RG:List P2) (m:P2) (r:Int):Bool:=Iv (ji (Classical.choose (yA RG))) m r
theorem aff {c RG:List P2} (hs:c.Pairwise gw) (hm:∀At,At∈RG↔At∈c) {m:P2} {r:Int}:Iv (ji c) m r=JL RG m r:=by have k:=Classical.choose_spec (yA RG);unfold JL;rw[amw hs k.1 λAt=>(hm At).symm.trans (k.2 At)]
end
end Go.Dx
