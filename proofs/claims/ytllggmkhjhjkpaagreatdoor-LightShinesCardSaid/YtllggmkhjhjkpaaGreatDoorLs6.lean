/- Part 6 of a proof. No conditions. -/
import Derived.Test.YtllggmkhjhjkpaaGreatDoorLs5
import Derived.Laws.MathBits
set_option maxRecDepth 100000
set_option linter.unusedVariables false
set_option linter.unusedSimpArgs false
namespace Go.Dx
open Go.IntKind (i64 u64 u8)
open Go.Sx Go.Proofs
variable (H:Nat) (G:bl) (x0:Int) (s0:ByteArray) (n1:Nat) (f1:bl) (x1:Int) (q:Nat) (W:bl) (x2:Int) (n3:Nat) (f3:bl) (x3 x4:Int) (Z:Nat) (S:bl) (x5 x6:Int) (n7:Nat) (f7:bl) (x7 x8:Int) (T:Nat) (U:bl) (x9 XH:Int) (R:Nat) (O:bl) (XJ XP:Int) (X2:Nat) (X0:bl) (XT XC:Int) (XB:Nat) (X7:bl) (XA XF Ud:Int) (YL:ByteArray) (XL XM XN Y8 Y9 YB YE YF X5:Int)
noncomputable section
def we:bo:=(89,.inl Lg u0)::(88,.con V0)::Iq
theorem Nw:aX Tryz.prog BD CJ we:=ij Tryz.func89 BF (.con hv' (MQ))
inductive ep where|L0 (_:Int) (_:Nat) (_ _:Int) (_:Nat)|L2 (_:Int) (_:Nat) (_ _:Int)|L4 (_:Int) (_:Nat) (_ _:Int) (_:Nat) (_:Int) (_:Nat) (_ _:Int)|L5 (_:Int) (_:Nat) (_ _ _:Int) (_:Nat) (_ _ _:Int)
def zV (l:List AX):List AX:=AX.cells [V.str s0,V.sl n1 (A M f1),V.sl n3 (A M f3),V.sl Z (A [Ty.sl M] S),D x7,D x8,V.sl T (A M U),V.sl R (A M O),D XT] 130::AX.cells [D XC,D XA,D XF,D Ud] 74::AX.cells JK 40::AX.cells [D (E (1000*XF))] 3::AX.cells [D (E (1000*Ud))] 3::AX.cells [D (aY (A [Ty.sl M] S) T (A M U) R (A M O) (E (1000*XC)) (E (1000*Ud))),D (aZ (A [Ty.sl M] S) x7 T (A M U) R (A M O) (E (1000*XC)) (E (1000*Ud))),D (aY (A [Ty.sl M] S) T (A M U) R (A M O) (E (1000*XA)) (E (1000*XF))),D (aZ (A [Ty.sl M] S) x7 T (A M U) R (A M O) (E (1000*XA)) (E (1000*XF))),D (aY (A [Ty.sl M] S) T (A M U) R (A M O) (E (1000*XA)) (E (1000*Ud))),D (aZ (A [Ty.sl M] S) x7 T (A M U) R (A M O) (E (1000*XA)) (E (1000*Ud)))] 40::l
def tk:ep->bV×List AX×Option Ex
 |.L0 X8 Y7 Yi Zd _=>([(19,D X8),(18,D (R:Int)),(17,V.sl R (A M O)),(16,V.kb false),(15,V.kb false),(14,V.kb true),(13,D (E (1000*Ud))),(12,V.yl Y7),(11,V.kb false),(10,V.kb false),(9,V.kb true),(8,D (E (1000*XF))),(7,V.yl Y7),(0,V.yl Y7),(1,V.pl 12 0),(2,V.pl 13 0),(3,V.pl 11 0)],zV s0 n1 f1 n3 f3 Z S x7 x8 T U R O XT XC XA XF Ud [AX.cells [D Yi,D Zd] 40,AX.cells [V.sl T (A M U)] 32,AX.cells [D (E (1000*XC))] 3,AX.cells [D (E (1000*XA))] 3,AX.cells [D (E (1000*XC))] 3,AX.cells [V.sl R (A M O)] 32,AX.cells [D (E (1000*XF))] 3,AX.cells [D (E (1000*Ud))] 3],none)|.L2 Xz ae Zq Zr=>([(19,D Xz),(18,D (T:Int)),(17,V.sl T (A M U)),(16,V.kb false),(15,V.kb false),(14,V.kb true),(13,D (E (1000*XA))),(12,V.yl ae),(11,V.kb false),(10,V.kb false),(9,V.kb true),(8,D (E (1000*XC))),(7,V.yl ae),(0,V.yl ae),(1,V.pl 8 0),(2,V.pl 9 0),(3,V.pl 7 0)],zV s0 n1 f1 n3 f3 Z S x7 x8 T U R O XT XC XA XF Ud [AX.cells [D Zq,D Zr] 40,AX.cells [V.sl T (A M U)] 32,AX.cells [D (E (1000*XC))] 3,AX.cells [D (E (1000*XA))] 3],none)|.L4 YJ YW jf ZW ..=>([(19,D YJ),(18,D (R:Int)),(17,V.sl R (A M O)),(16,V.kb false),(15,V.kb false),(14,V.kb true),(13,D (E (1000*Ud))),(12,V.yl YW),(11,V.kb false),(10,V.kb false),(9,V.kb true),(8,D (E (1000*XF))),(7,V.yl YW),(0,V.yl YW),(1,V.pl 16 0),(2,V.pl 17 0),(3,V.pl 15 0)],zV s0 n1 f1 n3 f3 Z S x7 x8 T U R O XT XC XA XF Ud [AX.cells [D jf,D ZW] 40,AX.cells [V.sl T (A M U)] 32,AX.cells [D (E (1000*XC))] 3,AX.cells [D (E (1000*XA))] 3,AX.cells [D (E (1000*XC))] 3,AX.cells [V.sl R (A M O)] 32,AX.cells [D (E (1000*XF))] 3,AX.cells [D (E (1000*Ud))] 3,AX.cells [D (E (1000*XA))] 3,AX.cells [V.sl R (A M O)] 32,AX.cells [D (E (1000*XF))] 3,AX.cells [D (E (1000*Ud))] 3],none)|.L5 YI YT jg ZF Yv ..=>([(19,D YI),(18,D (R:Int)),(17,V.sl R (A M O)),(16,V.kb false),(15,V.kb false),(14,V.kb true),(13,D (E (1000*Ud))),(12,V.yl YT),(11,V.kb false),(10,V.kb false),(9,V.kb true),(8,D (E (1000*XF))),(7,V.yl YT),(0,V.yl YT),(1,V.pl 12 0),(2,V.pl 13 0),(3,V.pl 11 0)],zV s0 n1 f1 n3 f3 Z S x7 x8 T U R O XT XC XA XF Ud [AX.cells [D jg,D ZF] 40,AX.cells [V.sl T (A M U)] 32,AX.cells [D (E (1000*XC))] 3,AX.cells [D (E (1000*XA))] 3,AX.cells [D Yv] 3,AX.cells [V.sl R (A M O)] 32,AX.cells [D (E (1000*XF))] 3,AX.cells [D (E (1000*Ud))] 3],none)
def rdC:ep->JJ
 |.L0 _ Y7 _ _ dn=>(0,[Cx.n dn,Cx.n Y7])|.L2 _ ae ..=>(2,[Cx.n ae])|.L4 _ YW _ _ mE b3 b6 b4 b5=>(4,[Cx.n mE,Cx.i b3,Cx.n b6,Cx.i b4,Cx.i b5,Cx.n YW])|.L5 _ YT _ _ _ mJ k9 Zs Zt=>(5,[Cx.n mJ,Cx.i k9,Cx.i Zs,Cx.i Zt,Cx.n YT])
def NV:Bj (cN JJ):=bu JJ we u0 uK [V.agg [V.str s0,V.sl n1 (A M f1),V.sl n3 (A M f3),V.sl Z (A [Ty.sl M] S),D x7,D x8,V.sl T (A M U),V.sl R (A M O),D XT],V.agg [D XC,D XA,D XF,D Ud]]
def uI (cx:List Cx):Lp JJ:=lc (kd (Pw (kd (Pw (kd (NV s0 n1 f1 n3 f3 Z S x7 x8 T U R O XT XC XA XF Ud) []) (Ab cx 0)) []) (Ab cx 1)) N3)
def Ay (cx:List Cx):Lp JJ:=lc (kd (Pw (kd (Kb we u0 (0,[.n (Ab cx 0),.n (Ab cx 2)]) (uI s0 n1 f1 n3 f3 Z S x7 x8 T U R O XT XC XA XF Ud [.n (Ab cx 0),.n (Ab cx 2)]) (tk s0 n1 f1 n3 f3 Z S x7 x8 T U R O XT XC XA XF Ud (.L0 (JB cx 1) (Ab cx 2) (JB cx 3) (JB cx 4) (Ab cx 0)))) [false]) (Ab cx 5)) N3)
def B6 (cx:List Cx):Lp JJ:=lc (kd (Kb we u0 (4,[.n (Ab cx 0),.i (0:Int),.n 0,.i (0:Int),.i (0:Int),.n 0]) (Ay s0 n1 f1 n3 f3 Z S x7 x8 T U R O XT XC XA XF Ud [.n (Ab cx 0),.i (0:Int),.n 0,.i (0:Int),.i (0:Int),.n 0]) (tk s0 n1 f1 n3 f3 Z S x7 x8 T U R O XT XC XA XF Ud (.L4 (0:Int) 0 (0:Int) (0:Int) (Ab cx 0) (0:Int) 0 (0:Int) (0:Int)))) [false])
def ajy (cx:List Cx):Lp JJ:=lc (kd (Pw (kd (Kb we u0 (2,[.n (Ab cx 0)]) (B6 s0 n1 f1 n3 f3 Z S x7 x8 T U R O XT XC XA XF Ud [.n (Ab cx 0)]) (tk s0 n1 f1 n3 f3 Z S x7 x8 T U R O XT XC XA XF Ud (.L2 (JB cx 1) (Ab cx 0) (JB cx 2) (JB cx 3)))) N3) (Ab cx 4)) N3)
def ab5:JJ->Lp JJ
 |(0,cx)=>uI s0 n1 f1 n3 f3 Z S x7 x8 T U R O XT XC XA XF Ud cx|(2,cx)=>B6 s0 n1 f1 n3 f3 Z S x7 x8 T U R O XT XC XA XF Ud cx|(4,cx)=>Ay s0 n1 f1 n3 f3 Z S x7 x8 T U R O XT XC XA XF Ud cx|(5,cx)=>ajy s0 n1 f1 n3 f3 Z S x7 x8 T U R O XT XC XA XF Ud cx|(_,cx)=>uI s0 n1 f1 n3 f3 Z S x7 x8 T U R O XT XC XA XF Ud cx
def agO:LD JJ ep:=⟨rdC,ab5 s0 n1 f1 n3 f3 Z S x7 x8 T U R O XT XC XA XF Ud,tk s0 n1 f1 n3 f3 Z S x7 x8 T U R O XT XC XA XF Ud⟩
def EA:=A cO (bE [D (aY (A [Ty.sl M] S) T (A M U) R (A M O) (E (1000*XC)) (E (1000*Ud))),D (aZ (A [Ty.sl M] S) x7 T (A M U) R (A M O) (E (1000*XC)) (E (1000*Ud))),D (aY (A [Ty.sl M] S) T (A M U) R (A M O) (E (1000*XA)) (E (1000*XF))),D (aZ (A [Ty.sl M] S) x7 T (A M U) R (A M O) (E (1000*XA)) (E (1000*XF))),D (aY (A [Ty.sl M] S) T (A M U) R (A M O) (E (1000*XA)) (E (1000*Ud))),D (aZ (A [Ty.sl M] S) x7 T (A M U) R (A M O) (E (1000*XA)) (E (1000*Ud)))] 0 2)
def eO:=((2:Nat)<=T/\T<=(1000:Nat))/\((2:Nat)<=R/\R<=(1000:Nat))/\T<=Z/\(∀(i:Nat),i<Z->R<=aL (aI (S i)))/\(∀(i:Nat),i+(1:Nat)<T->E (aE (U (i+(1:Nat)))-aE (U i))≠(0:Int))/\∀(i:Nat),i+(1:Nat)<R->E (aE (O (i+(1:Nat)))-aE (O i))≠(0:Int)
def tQ:=A cO (bE [D (aY (A [Ty.sl M] S) T (A M U) R (A M O) (E (1000*XA)) (E (1000*XF))),D (aZ (A [Ty.sl M] S) x7 T (A M U) R (A M O) (E (1000*XA)) (E (1000*XF)))] 0 2)
def tB:=A cO (bE [D (aY (A [Ty.sl M] S) T (A M U) R (A M O) (E (1000*XA)) (E (1000*Ud))),D (aZ (A [Ty.sl M] S) x7 T (A M U) R (A M O) (E (1000*XA)) (E (1000*Ud)))] 0 2)
def tC:=A cO (bE [D (aY (A [Ty.sl M] S) T (A M U) R (A M O) (E (1000*XC)) (E (1000*XF))),D (aZ (A [Ty.sl M] S) x7 T (A M U) R (A M O) (E (1000*XC)) (E (1000*XF)))] 0 2)
def tt:=A cO (bE [D (aY (A [Ty.sl M] S) T (A M U) R (A M O) (E (1000*XC)) (E (1000*Ud))),D (aZ (A [Ty.sl M] S) x7 T (A M U) R (A M O) (E (1000*XC)) (E (1000*Ud)))] 0 2)
def to (XF Xz:Int):=A cO (bE [D (aY (A [Ty.sl M] S) T (A M U) R (A M O) (aE (U Xz.toNat)) (E (1000*XF))),D (aZ (A [Ty.sl M] S) x7 T (A M U) R (A M O) (aE (U Xz.toNat)) (E (1000*XF)))] 0 2)
def tM (Ud Xz:Int):=A cO (bE [D (aY (A [Ty.sl M] S) T (A M U) R (A M O) (aE (U Xz.toNat)) (E (1000*Ud))),D (aZ (A [Ty.sl M] S) x7 T (A M U) R (A M O) (aE (U Xz.toNat)) (E (1000*Ud)))] 0 2)
def tS:=dN (aZ (A [Ty.sl M] S) x7 T (A M U) R (A M O) (E (1000*XC)) (E (1000*XF))) 3 (EA S x7 T U R O XC XA XF Ud)
def qp:=dM (aY (A [Ty.sl M] S) T (A M U) R (A M O) (E (1000*XC)) (E (1000*XF))) 3 (EA S x7 T U R O XC XA XF Ud)
def BP (XC X8:Int):=A cO (bE [D (aY (A [Ty.sl M] S) T (A M U) R (A M O) (E (1000*XC)) (aE (O X8.toNat))),D (aZ (A [Ty.sl M] S) x7 T (A M U) R (A M O) (E (1000*XC)) (aE (O X8.toNat)))] 0 2)
def Ao (XA YJ:Int):=A cO (bE [D (aY (A [Ty.sl M] S) T (A M U) R (A M O) (E (1000*XA)) (aE (O YJ.toNat))),D (aZ (A [Ty.sl M] S) x7 T (A M U) R (A M O) (E (1000*XA)) (aE (O YJ.toNat)))] 0 2)
def BY (YI Yv:Int):=A cO (bE [D (aY (A [Ty.sl M] S) T (A M U) R (A M O) Yv (aE (O YI.toNat))),D (aZ (A [Ty.sl M] S) x7 T (A M U) R (A M O) Yv (aE (O YI.toNat)))] 0 2)
def wg (XF Ud X8:Int):=bif decide (E (1000*XF)<aE (O X8.toNat)) then decide (aE (O X8.toNat)<E (1000*Ud)) else false
def wj (XF Ud YJ:Int):=bif decide (E (1000*XF)<aE (O YJ.toNat)) then decide (aE (O YJ.toNat)<E (1000*Ud)) else false
def wk (XF Ud YI:Int):=bif decide (E (1000*XF)<aE (O YI.toNat)) then decide (aE (O YI.toNat)<E (1000*Ud)) else false
def vo (XC XA Xz:Int):=bif decide (E (1000*XC)<aE (U Xz.toNat)) then decide (aE (U Xz.toNat)<E (1000*XA)) else false
def gg (s0:ByteArray) (n1:Nat) (f1:bl) (n3:Nat) (f3:bl) (Z:Nat) (S:bl) (x7 x8:Int) (T:Nat) (U:bl) (R:Nat) (O:bl) (XT XC XA XF Ud:Int):ep->RT ep
 |.L0 X8 Y7 Yi Zd dn=>.br (decide (X8<(R:Int))) (.ob (dI X8 R) (.ii (.obi (.br (wg O XF Ud X8) (.ob (wg O XF Ud X8) (.ob (wg O XF Ud X8) (.obp (((1:Nat)<=T/\T<=(1000:Nat))/\(1:Nat)<=R/\R<=(1000:Nat)) (.obt (.br (bb T (A M U) R (A M O) (E (1000*XC)) (aE (O X8.toNat))) (.obp (eO Z S T U R O) (.obt (.cb (.next (iR 0 14 []) (ep.L0 (E (X8+1)) Y7 (dM Yi 1 (BP S x7 T U R O XC X8)) (dN Zd 1 (BP S x7 T U R O XC X8)) dn) [])))) (.next (iR 0 14 []) (ep.L0 (E (X8+1)) Y7 Yi Zd dn) [])))))) (.next (iR 0 14 []) (ep.L0 (E (X8+1)) Y7 Yi Zd dn) []))))) (.all (λl_12647=>.obp (((1:Nat)<=T/\T<=(1000:Nat))/\(1:Nat)<=R/\R<=(1000:Nat)) (.obt (.br (bb T (A M U) R (A M O) (E (1000*XA)) (E (1000*XF))) (.obp (eO Z S T U R O) (.obt (.cb (.obp (((1:Nat)<=T/\T<=(1000:Nat))/\(1:Nat)<=R/\R<=(1000:Nat)) (.obt (.br (bb T (A M U) R (A M O) (E (1000*XA)) (E (1000*Ud))) (.obp (eO Z S T U R O) (.obt (.cb (.am R (.enter (iR 0 18 []) (ep.L4 0 (l_12647) (dM (dM Yi 1 (tQ S x7 T U R O XA XF)) 1 (tB S x7 T U R O XA Ud)) (dN (dN Zd 1 (tQ S x7 T U R O XA XF)) 1 (tB S x7 T U R O XA Ud)) dn X8 Y7 Yi Zd) []))))) (.am R (.enter (iR 0 18 []) (ep.L4 0 (l_12647) (dM Yi 1 (tQ S x7 T U R O XA XF)) (dN Zd 1 (tQ S x7 T U R O XA XF)) dn X8 Y7 Yi Zd) [])))))))) (.obp (((1:Nat)<=T/\T<=(1000:Nat))/\(1:Nat)<=R/\R<=(1000:Nat)) (.obt (.br (bb T (A M U) R (A M O) (E (1000*XA)) (E (1000*Ud))) (.obp (eO Z S T U R O) (.obt (.cb (.am R (.enter (iR 0 18 []) (ep.L4 0 (l_12647) (dM Yi 1 (tB S x7 T U R O XA Ud)) (dN Zd 1 (tB S x7 T U R O XA Ud)) dn X8 Y7 Yi Zd) []))))) (.am R (.enter (iR 0 18 []) (ep.L4 0 (l_12647) Yi Zd dn X8 Y7 Yi Zd) [])))))))))|.L2 Xz ae Zq Zr=>.br (decide (Xz<(T:Int))) (.ob (dI Xz T) (.ii (.obi (.br (vo U XC XA Xz) (.ob (vo U XC XA Xz) (.ob (vo U XC XA Xz) (.all (λl_12833=>.obp (((1:Nat)<=T/\T<=(1000:Nat))/\(1:Nat)<=R/\R<=(1000:Nat)) (.obt (.br (bb T (A M U) R (A M O) (aE (U Xz.toNat)) (E (1000*XF))) (.obp (eO Z S T U R O) (.obt (.cb (.obp (((1:Nat)<=T/\T<=(1000:Nat))/\(1:Nat)<=R/\R<=(1000:Nat)) (.obt (.br (bb T (A M U) R (A M O) (aE (U Xz.toNat)) (E (1000*Ud))) (.obp (eO Z S T U R O) (.obt (.cb (.am R (.enter (iR 0 14 []) (ep.L5 0 (l_12833) (dM (dM Zq 1 (to S x7 T U R O XF Xz)) 1 (tM S x7 T U R O Ud Xz)) (dN (dN Zr 1 (to S x7 T U R O XF Xz)) 1 (tM S x7 T U R O Ud Xz)) (aE (U Xz.toNat)) ae Xz Zq Zr) []))))) (.am R (.enter (iR 0 14 []) (ep.L5 0 (l_12833) (dM Zq 1 (to S x7 T U R O XF Xz)) (dN Zr 1 (to S x7 T U R O XF Xz)) (aE (U Xz.toNat)) ae Xz Zq Zr) [])))))))) (.obp (((1:Nat)<=T/\T<=(1000:Nat))/\(1:Nat)<=R/\R<=(1000:Nat)) (.obt (.br (bb T (A M U) R (A M O) (aE (U Xz.toNat)) (E (1000*Ud))) (.obp (eO Z S T U R O) (.obt (.cb (.am R (.enter (iR 0 14 []) (ep.L5 0 (l_12833) (dM Zq 1 (tM S x7 T U R O Ud Xz)) (dN Zr 1 (tM S x7 T U R O Ud Xz)) (aE (U Xz.toNat)) ae Xz Zq Zr) []))))) (.am R (.enter (iR 0 14 []) (ep.L5 0 (l_12833) Zq Zr (aE (U Xz.toNat)) ae Xz Zq Zr) []))))))))))) (.next (iR 0 10 []) (ep.L2 (E (Xz+1)) ae Zq Zr) []))))) (.ret (V.agg [D Zq,D Zr]))|.L4 YJ YW jf ZW mE b3 b6 b4 b5=>.br (decide (YJ<(R:Int))) (.ob (dI YJ R) (.ii (.obi (.br (wj O XF Ud YJ) (.ob (wj O XF Ud YJ) (.ob (wj O XF Ud YJ) (.obp (((1:Nat)<=T/\T<=(1000:Nat))/\(1:Nat)<=R/\R<=(1000:Nat)) (.obt (.br (bb T (A M U) R (A M O) (E (1000*XA)) (aE (O YJ.toNat))) (.obp (eO Z S T U R O) (.obt (.cb (.next (iR 0 18 []) (ep.L4 (E (YJ+1)) YW (dM jf 1 (Ao S x7 T U R O XA YJ)) (dN ZW 1 (Ao S x7 T U R O XA YJ)) mE b3 b6 b4 b5) [])))) (.next (iR 0 18 []) (ep.L4 (E (YJ+1)) YW jf ZW mE b3 b6 b4 b5) [])))))) (.next (iR 0 18 []) (ep.L4 (E (YJ+1)) YW jf ZW mE b3 b6 b4 b5) []))))) (.am T (.enter (iR 0 10 []) (ep.L2 0 mE jf ZW) []))|.L5 YI YT jg ZF Yv mJ k9 Zs Zt=>.br (decide (YI<(R:Int))) (.ob (dI YI R) (.ii (.obi (.br (wk O XF Ud YI) (.ob (wk O XF Ud YI) (.ob (wk O XF Ud YI) (.obp (((1:Nat)<=T/\T<=(1000:Nat))/\(1:Nat)<=R/\R<=(1000:Nat)) (.obt (.br (bb T (A M U) R (A M O) Yv (aE (O YI.toNat))) (.obp (eO Z S T U R O) (.obt (.cb (.next (iR 0 14 []) (ep.L5 (E (YI+1)) YT (dM jg 1 (BY S x7 T U R O YI Yv)) (dN ZF 1 (BY S x7 T U R O YI Yv)) Yv mJ k9 Zs Zt) [])))) (.next (iR 0 14 []) (ep.L5 (E (YI+1)) YT jg ZF Yv mJ k9 Zs Zt) [])))))) (.next (iR 0 14 []) (ep.L5 (E (YI+1)) YT jg ZF Yv mJ k9 Zs Zt) []))))) (.next (iR 0 10 []) (ep.L2 (E (k9+1)) mJ jg ZF) [])
def Uv:RT ep:=dm (s0,n1,f1,n3,f3,x8,XT) (.obp (eO Z S T U R O) (.obt (.obp (eO Z S T U R O) (.obt (.obp (eO Z S T U R O) (.obt (.obp (eO Z S T U R O) (.obt (.cb (.all (λl_12550=>.all (λl_12551=>.obp (((1:Nat)<=T/\T<=(1000:Nat))/\(1:Nat)<=R/\R<=(1000:Nat)) (.obt (.br (bb T (A M U) R (A M O) (E (1000*XC)) (E (1000*XF))) (.obp (eO Z S T U R O) (.obt (.cb (.obp (((1:Nat)<=T/\T<=(1000:Nat))/\(1:Nat)<=R/\R<=(1000:Nat)) (.obt (.br (bb T (A M U) R (A M O) (E (1000*XC)) (E (1000*Ud))) (.obp (eO Z S T U R O) (.obt (.cb (.am R (.enter (iR 0 14 []) (ep.L0 0 (l_12551) (dM (dM (qp S x7 T U R O XC XA XF Ud) 1 (tC S x7 T U R O XC XF)) 1 (tt S x7 T U R O XC Ud)) (dN (dN (tS S x7 T U R O XC XA XF Ud) 1 (tC S x7 T U R O XC XF)) 1 (tt S x7 T U R O XC Ud)) (l_12550)) []))))) (.am R (.enter (iR 0 14 []) (ep.L0 0 (l_12551) (dM (qp S x7 T U R O XC XA XF Ud) 1 (tC S x7 T U R O XC XF)) (dN (tS S x7 T U R O XC XA XF Ud) 1 (tC S x7 T U R O XC XF)) (l_12550)) [])))))))) (.obp (((1:Nat)<=T/\T<=(1000:Nat))/\(1:Nat)<=R/\R<=(1000:Nat)) (.obt (.br (bb T (A M U) R (A M O) (E (1000*XC)) (E (1000*Ud))) (.obp (eO Z S T U R O) (.obt (.cb (.am R (.enter (iR 0 14 []) (ep.L0 0 (l_12551) (dM (qp S x7 T U R O XC XA XF Ud) 1 (tt S x7 T U R O XC Ud)) (dN (tS S x7 T U R O XC XA XF Ud) 1 (tt S x7 T U R O XC Ud)) (l_12550)) []))))) (.am R (.enter (iR 0 14 []) (ep.L0 0 (l_12551) (qp S x7 T U R O XC XA XF Ud) (tS S x7 T U R O XC XA XF Ud) (l_12550)) [])))))))))))))))))))
theorem alx:gU we u0 (agO s0 n1 f1 n3 f3 Z S x7 x8 T U R O XT XC XA XF Ud) (NV s0 n1 f1 n3 f3 Z S x7 x8 T U R O XT XC XA XF Ud) (Uv s0 n1 f1 n3 f3 Z S x7 x8 T U R O XT XC XA XF Ud) (gg s0 n1 f1 n3 f3 Z S x7 x8 T U R O XT XC XA XF Ud):=⟨cD,λs=>by cases s<;>exact cD⟩
def JY (u v:Int) (o:Int×Int):Int×Int:=bif bb T U R O u v then(min o.1 (aY S T U R O u v),max o.2 (aZ S x7 T U R O u v)) else o
def BU (lo hi v:Int):Bool:=bif decide (lo<v) then decide (v<hi) else false
def Ad (S:bl) (x7:Int) (T:Nat) (U:bl) (R:Nat) (O:bl) (y0 y1 u:Int) (o:Int×Int):Nat->Int×Int
 |0=>o|k+1=>bif BU y0 y1 (aE (O k)) then JY S x7 T U R O u (aE (O k)) (Ad S x7 T U R O y0 y1 u o k) else Ad S x7 T U R O y0 y1 u o k
def CR (y0 y1 u:Int) (o:Int×Int):Int×Int:=JY S x7 T U R O u y1 (JY S x7 T U R O u y0 o)
def RS (y0 y1 u:Int) (o:Int×Int):Int×Int:=Ad S x7 T U R O y0 y1 u (CR S x7 T U R O y0 y1 u o) R
def Cw (S:bl) (x7:Int) (T:Nat) (U:bl) (R:Nat) (O:bl) (x0 x1 y0 y1:Int) (o:Int×Int):Nat->Int×Int
 |0=>o|k+1=>bif BU x0 x1 (aE (U k)) then RS S x7 T U R O y0 y1 (aE (U k)) (Cw S x7 T U R O x0 x1 y0 y1 o k) else Cw S x7 T U R O x0 x1 y0 y1 o k
def QP (x0 x1 y0 y1:Int):Int×Int:=(min (min (min (aY S T U R O x0 y0) (aY S T U R O x0 y1)) (aY S T U R O x1 y0)) (aY S T U R O x1 y1),max (max (max (aZ S x7 T U R O x0 y0) (aZ S x7 T U R O x0 y1)) (aZ S x7 T U R O x1 y0)) (aZ S x7 T U R O x1 y1))
def wL (x0 x1 y0 y1:Int):Int×Int:=Cw S x7 T U R O x0 x1 y0 y1 (RS S x7 T U R O y0 y1 x1 (RS S x7 T U R O y0 y1 x0 (QP S x7 T U R O x0 x1 y0 y1))) T
def iA:Int:=(wL S x7 T U R O (E (1000*XC)) (E (1000*XA)) (E (1000*XF)) (E (1000*Ud))).1
def iB:Int:=(wL S x7 T U R O (E (1000*XC)) (E (1000*XA)) (E (1000*XF)) (E (1000*Ud))).2
theorem oH {S:bl} {x7:Int} {T:Nat} {U:bl} {R:Nat} {O:bl} {u v:Int} {o:Int×Int} (h:bb T U R O u v=true):JY S x7 T U R O u v o=(min o.1 (aY S T U R O u v),max o.2 (aZ S x7 T U R O u v)):=by unfold JY;rw[h];rfl
theorem qO {S:bl} {x7:Int} {T:Nat} {U:bl} {R:Nat} {O:bl} {u v:Int} {o:Int×Int} (h:bb T U R O u v=false):JY S x7 T U R O u v o=o:=by unfold JY;rw[h];rfl
theorem uH {S:bl} {x7:Int} {T:Nat} {U:bl} {R:Nat} {O:bl} {y0 y1 u:Int} {o:Int×Int} {k:Nat} (h:(bif decide (y0<aE (O k)) then decide (aE (O k)<y1) else false)=true):Ad S x7 T U R O y0 y1 u o (k+1)=JY S x7 T U R O u (aE (O k)) (Ad S x7 T U R O y0 y1 u o k):=by show(bif BU _ _ _ then _ else _)=_;rw[show BU y0 y1 (aE (O k))=true from h];rfl
theorem F2 {S:bl} {x7:Int} {T:Nat} {U:bl} {R:Nat} {O:bl} {y0 y1 u:Int} {o:Int×Int} {k:Nat} (h:(bif decide (y0<aE (O k)) then decide (aE (O k)<y1) else false)=false):Ad S x7 T U R O y0 y1 u o (k+1)=Ad S x7 T U R O y0 y1 u o k:=by show(bif BU _ _ _ then _ else _)=_;rw[show BU y0 y1 (aE (O k))=false from h];rfl
theorem Xb {S:bl} {x7:Int} {T:Nat} {U:bl} {R:Nat} {O:bl} {x0 x1 y0 y1:Int} {o:Int×Int} {k:Nat} (h:(bif decide (x0<aE (U k)) then decide (aE (U k)<x1) else false)=true):Cw S x7 T U R O x0 x1 y0 y1 o (k+1)=RS S x7 T U R O y0 y1 (aE (U k)) (Cw S x7 T U R O x0 x1 y0 y1 o k):=by show(bif BU _ _ _ then _ else _)=_;rw[show BU x0 x1 (aE (U k))=true from h];rfl
theorem Ul {S:bl} {x7:Int} {T:Nat} {U:bl} {R:Nat} {O:bl} {x0 x1 y0 y1:Int} {o:Int×Int} {k:Nat} (h:(bif decide (x0<aE (U k)) then decide (aE (U k)<x1) else false)=false):Cw S x7 T U R O x0 x1 y0 y1 o (k+1)=Cw S x7 T U R O x0 x1 y0 y1 o k:=by show(bif BU _ _ _ then _ else _)=_;rw[show BU x0 x1 (aE (U k))=false from h];rfl
theorem Dj {S:bl} {x7:Int} {T:Nat} {U:bl} {R:Nat} {O:bl} {y0 y1 u:Int} {o:Int×Int} (h:bb T U R O u y0=true) (k:bb T U R O u y1=true):CR S x7 T U R O y0 y1 u o=(min (min o.1 (aY S T U R O u y0)) (aY S T U R O u y1),max (max o.2 (aZ S x7 T U R O u y0)) (aZ S x7 T U R O u y1)):=by unfold CR;rw[oH k,oH h]
theorem Db {S:bl} {x7:Int} {T:Nat} {U:bl} {R:Nat} {O:bl} {y0 y1 u:Int} {o:Int×Int} (h:bb T U R O u y0=true) (k:bb T U R O u y1=false):CR S x7 T U R O y0 y1 u o=(min o.1 (aY S T U R O u y0),max o.2 (aZ S x7 T U R O u y0)):=by unfold CR;rw[qO k,oH h]
theorem Cl {S:bl} {x7:Int} {T:Nat} {U:bl} {R:Nat} {O:bl} {y0 y1 u:Int} {o:Int×Int} (h:bb T U R O u y0=false) (k:bb T U R O u y1=true):CR S x7 T U R O y0 y1 u o=(min o.1 (aY S T U R O u y1),max o.2 (aZ S x7 T U R O u y1)):=by unfold CR;rw[oH k,qO h]
theorem DF {S:bl} {x7:Int} {T:Nat} {U:bl} {R:Nat} {O:bl} {y0 y1 u:Int} {o:Int×Int} (h:bb T U R O u y0=false) (k:bb T U R O u y1=false):CR S x7 T U R O y0 y1 u o=o:=by unfold CR;rw[qO k,qO h]
section
variable {Uc:Type} {Nx:Uc->V->Prop} {r:V}
include Uc Nx r
theorem C7 {X9 X4:Prop} {h0 N:Bool} {T11 T10 T01 T00:RT Uc} (hH:X9) (hQ:X4) (t11:h0=true->N=true->bj Nx T11 r) (t10:h0=true->N=false->bj Nx T10 r) (t01:h0=false->N=true->bj Nx T01 r) (t00:h0=false->N=false->bj Nx T00 r) :
 bj Nx (.obp X9 (.obt (.br h0 (.obp X4 (.obt (.obc (.obt (.obp X9 (.obt (.br N (.obp X4 (.obt (.obc (.obt T11)))) T10))))))) (.obp X9 (.obt (.br N (.obp X4 (.obt (.obc (.obt T01)))) T00)))))) r :=
 Cv hH (AY (Ct (λa=>Cv hQ (AY (aG (AY (Cv hH (AY (Ct (λc=>Cv hQ (AY (aG (AY (t11 a c))))) (λc=>t10 a c)))))))) (λa=>Cv hH (AY (Ct (λc=>Cv hQ (AY (aG (AY (t01 a c))))) (λc=>t00 a c))))))
theorem OQ {X9 X4:Prop} {c0 c d h:Bool} {T1 T2 T3:RT Uc} (hc:c0=true) (hH:X9) (hQ:X4) (t1:c=true->h=true->bj Nx T1 r) (t2:c=true->h=false->bj Nx T2 r) (t3:c=false->bj Nx T3 r) :
 bj Nx (.ob c0 (.obi (.obi (.obi (.br c (.ob c (.ob c (.obp X9 (.obt (.br h (.obp X4 (.obt (.obc (.obt T1)))) T2))))) T3))))) r :=
 bf hc (CE (CE (CE (Ct (λa=>bf a (bf a (Cv hH (AY (Ct (λe=>Cv hQ (AY (aG (AY (t1 a e))))) (λe=>t2 a e)))))) (λa=>t3 a)))))
theorem Jf {c0 c:Bool} {T1 T3:RT Uc} (hc:c0=true) (t1:c=true->bj Nx T1 r) (t3:c=false->bj Nx T3 r) :
 bj Nx (.ob c0 (.obi (.obi (.obi (.br c (.ob c (.ob c T1)) T3))))) r :=
 bf hc (CE (CE (CE (Ct (λa=>bf a (bf a (t1 a))) t3))))
end
def SL:Int×Int:=QP (A [Ty.sl M] S) x7 T (A M U) R (A M O) (E (1000*XC)) (E (1000*XA)) (E (1000*XF)) (E (1000*Ud))
def Pl:Int×Int:=RS (A [Ty.sl M] S) x7 T (A M U) R (A M O) (E (1000*XF)) (E (1000*Ud)) (E (1000*XC)) (SL S x7 T U R O XC XA XF Ud)
def QM:Int×Int:=RS (A [Ty.sl M] S) x7 T (A M U) R (A M O) (E (1000*XF)) (E (1000*Ud)) (E (1000*XA)) (Pl S x7 T U R O XC XA XF Ud)
section
variable (s0:ByteArray) (n1:Nat) (f1:bl) (n3:Nat) (f3:bl) (Z:Nat) (S:bl) (x7:Int) (x8:Int) (T:Nat) (U:bl) (R:Nat) (O:bl) (XT:Int) (XC:Int) (XA:Int) (XF:Int) (Ud:Int) (hp:mt Z (A [Ty.sl M] S) T (A M U) R (A M O))
include hp
theorem ev2 (u i0 o1 o2:Int) (o:Int×Int) (nx:∃ XE,∀ l1,rh (gg s0 n1 f1 n3 f3 Z S x7 x8 T U R O XT XC XA XF Ud) XE (.L2 (E (i0+1)) l1 (Ad (A [Ty.sl M] S) x7 T (A M U) R (A M O) (E (1000*XF)) (E (1000*Ud)) u o R).1 (Ad (A [Ty.sl M] S) x7 T (A M U) R (A M O) (E (1000*XF)) (E (1000*Ud)) u o R).2) (.agg [D (iA (A [Ty.sl M] S) x7 T (A M U) R (A M O) XC XA XF Ud),D (iB (A [Ty.sl M] S) x7 T (A M U) R (A M O) XC XA XF Ud)])):∀ k,k<=R->∃ XE,∀ l0 l1,rh (gg s0 n1 f1 n3 f3 Z S x7 x8 T U R O XT XC XA XF Ud) XE (.L5 (k:Int) l0 (Ad (A [Ty.sl M] S) x7 T (A M U) R (A M O) (E (1000*XF)) (E (1000*Ud)) u o k).1 (Ad (A [Ty.sl M] S) x7 T (A M U) R (A M O) (E (1000*XF)) (E (1000*Ud)) u o k).2 u l1 i0 o1 o2) (.agg [D (iA (A [Ty.sl M] S) x7 T (A M U) R (A M O) XC XA XF Ud),D (iB (A [Ty.sl M] S) x7 T (A M U) R (A M O) XC XA XF Ud)]):=by
 refine gG λk hk ih=>?_;have hb:=hp.b;by_cases XD:k<R
 ·have hw:E ((k:Int)+1)=((k+1:Nat):Int):=by rw[C4 I I];omega
  obtain⟨XE,ih⟩:=ih XD;refine⟨XE+1,λl0 l1=>?_⟩;have ih:=ih l0 l1;refine(show bj (rh (gg s0 n1 f1 n3 f3 Z S x7 x8 T U R O XT XC XA XF Ud) XE) _ _ from ?_);refine iY (Cg I) (OQ (d:=true) (Cg I) (Ik hp) hp (λa e=>b9 ?_) (λa e=>b9 ?_) (λa=>b9 ?_))
  ·rw[hw];have e:bb T (A M U) R (A M O) u (aE ((A M O) k))=true:=e;rw[uH (O:=(A M O)) (k:=k) a,oH e]at ih;exact ih
  ·rw[hw];have e:bb T (A M U) R (A M O) u (aE ((A M O) k))=false:=e;rw[uH (O:=(A M O)) (k:=k) a,qO e]at ih;exact ih
  ·rw[hw];rw[F2 (O:=(A M O)) (k:=k) a]at ih;exact ih
 ·have e:k=R:=by omega
  obtain⟨Y6,nx⟩:=nx;refine⟨Y6+1,λl0 l1=>?_⟩;refine(show bj (rh (gg s0 n1 f1 n3 f3 Z S x7 x8 T U R O XT XC XA XF Ud) Y6) _ _ from ?_);refine ib (fB I) ?_;rw[e];exact b9 (nx l1)
theorem at1:∀ k,k<=T->∃ XE,∀ l,rh (gg s0 n1 f1 n3 f3 Z S x7 x8 T U R O XT XC XA XF Ud) XE (.L2 (k:Int) l (Cw (A [Ty.sl M] S) x7 T (A M U) R (A M O) (E (1000*XC)) (E (1000*XA)) (E (1000*XF)) (E (1000*Ud)) (QM S x7 T U R O XC XA XF Ud) k).1 (Cw (A [Ty.sl M] S) x7 T (A M U) R (A M O) (E (1000*XC)) (E (1000*XA)) (E (1000*XF)) (E (1000*Ud)) (QM S x7 T U R O XC XA XF Ud) k).2) (.agg [D (iA (A [Ty.sl M] S) x7 T (A M U) R (A M O) XC XA XF Ud),D (iB (A [Ty.sl M] S) x7 T (A M U) R (A M O) XC XA XF Ud)]):=by
 refine gG λk hk ih=>?_;have ha:=hp.a;by_cases XD:k<T
 ·have hw:E ((k:Int)+1)=((k+1:Nat):Int):=by rw[C4 I I];omega
  have ih:=ih XD;rw[← hw]at ih;by_cases hc:(bif decide ((E (1000*XC))<aE ((A M U) k)) then decide (aE ((A M U) k)<(E (1000*XA))) else false)=true
  ·rw [Xb hc]at ih
   obtain⟨XE,nx⟩:=ev2 s0 n1 f1 n3 f3 Z S x7 x8 T U R O XT XC XA XF Ud hp (aE (U k)) (k:Int) (Cw (A [Ty.sl M] S) x7 T (A M U) R (A M O) (E (1000*XC)) (E (1000*XA)) (E (1000*XF)) (E (1000*Ud)) (QM S x7 T U R O XC XA XF Ud) k).1 (Cw (A [Ty.sl M] S) x7 T (A M U) R (A M O) (E (1000*XC)) (E (1000*XA)) (E (1000*XF)) (E (1000*Ud)) (QM S x7 T U R O XC XA XF Ud) k).2 (CR (A [Ty.sl M] S) x7 T (A M U) R (A M O) (E (1000*XF)) (E (1000*Ud)) (aE (U k)) (Cw (A [Ty.sl M] S) x7 T (A M U) R (A M O) (E (1000*XC)) (E (1000*XA)) (E (1000*XF)) (E (1000*Ud)) (QM S x7 T U R O XC XA XF Ud) k)) ih 0 (Ho _);refine⟨XE+1,λl=>?_⟩;refine(show bj (rh (gg s0 n1 f1 n3 f3 Z S x7 x8 T U R O XT XC XA XF Ud) XE) _ _ from ?_);refine iY (Cg I) (Jf (Cg I) (λa=>AA λl5=>?_) (λa=>?_))
   ·rw [Hk]
    exact(C7 (Ik hp) hp (λh0 N=>ce λ_=>bm (by
     have X1:=nx l5 l;rw[Dj h0 N]at X1;exact X1)) (λh0 N=>ce λ_=>bm (by
     have X1:=nx l5 l;rw[Db h0 N]at X1;exact X1)) (λh0 N=>ce λ_=>bm (by
     have X1:=nx l5 l;rw[Cl h0 N]at X1;exact X1)) (λh0 N=>ce λ_=>bm (by
     have X1:=nx l5 l;rw[DF h0 N]at X1;exact X1)))
   ·exact absurd (hc.symm.trans a) aA
  ·have hc:=Bool.eq_false_iff.2 hc;rw[Ul hc]at ih;obtain⟨XE,ih⟩:=ih;refine⟨XE+1,λl=>?_⟩;refine(show bj (rh (gg s0 n1 f1 n3 f3 Z S x7 x8 T U R O XT XC XA XF Ud) XE) _ _ from ?_);refine iY (Cg I) (Jf (Cg I) (λa=>?_) (λa=>b9 (ih l)));exact absurd (hc.symm.trans a) aA
 ·have e:k=T:=by omega
  refine⟨1,λl=>?_⟩;refine(show bj (rh (gg s0 n1 f1 n3 f3 Z S x7 x8 T U R O XT XC XA XF Ud) 0) _ _ from ?_);refine ib (fB I) ?_;rw[e];exact Br rfl
theorem alB :∀ k,k<=R->∃ XE,∀ l0 n4 i5 n6 i7 i8,rh (gg s0 n1 f1 n3 f3 Z S x7 x8 T U R O XT XC XA XF Ud) XE (.L4 (k:Int) l0 (Ad (A [Ty.sl M] S) x7 T (A M U) R (A M O) (E (1000*XF)) (E (1000*Ud)) (E (1000*XA)) (CR (A [Ty.sl M] S) x7 T (A M U) R (A M O) (E (1000*XF)) (E (1000*Ud)) (E (1000*XA)) (Pl S x7 T U R O XC XA XF Ud)) k).1 (Ad (A [Ty.sl M] S) x7 T (A M U) R (A M O) (E (1000*XF)) (E (1000*Ud)) (E (1000*XA)) (CR (A [Ty.sl M] S) x7 T (A M U) R (A M O) (E (1000*XF)) (E (1000*Ud)) (E (1000*XA)) (Pl S x7 T U R O XC XA XF Ud)) k).2 n4 i5 n6 i7 i8) (.agg [D (iA (A [Ty.sl M] S) x7 T (A M U) R (A M O) XC XA XF Ud),D (iB (A [Ty.sl M] S) x7 T (A M U) R (A M O) XC XA XF Ud)]):=by
 refine gG λk hk ih=>?_;have hb:=hp.b;by_cases XD:k<R
 ·have hw:E ((k:Int)+1)=((k+1:Nat):Int):=by rw[C4 I I];omega
  obtain⟨XE,ih⟩:=ih XD;refine⟨XE+1,λl0 n4 i5 n6 i7 i8=>?_⟩;have ih:=ih l0 n4 i5 n6 i7 i8;refine(show bj (rh (gg s0 n1 f1 n3 f3 Z S x7 x8 T U R O XT XC XA XF Ud) XE) _ _ from ?_);refine iY (Cg I) (OQ (d:=true) (Cg I) (Ik hp) hp (λa e=>b9 ?_) (λa e=>b9 ?_) (λa=>b9 ?_))
  ·rw[hw];have e:bb T (A M U) R (A M O) (E (1000*XA)) (aE ((A M O) k))=true:=e;rw[uH (O:=(A M O)) (k:=k) a,oH e]at ih;exact ih
  ·rw[hw];have e:bb T (A M U) R (A M O) (E (1000*XA)) (aE ((A M O) k))=false:=e;rw[uH (O:=(A M O)) (k:=k) a,qO e]at ih;exact ih
  ·rw[hw];rw[F2 (O:=(A M O)) (k:=k) a]at ih;exact ih
 ·have e:k=R:=by omega
  obtain⟨Y6,nx⟩:=at1 s0 n1 f1 n3 f3 Z S x7 x8 T U R O XT XC XA XF Ud hp 0 (Ho _);refine⟨Y6+1,λl0 n4 i5 n6 i7 i8=>?_⟩;refine(show bj (rh (gg s0 n1 f1 n3 f3 Z S x7 x8 T U R O XT XC XA XF Ud) Y6) _ _ from ?_);refine ib (fB I) ?_;rw[e];exact ce λ_=>bm (nx n4)
theorem alN :∀ k,k<=R->∃ XE,∀ l0 n4,rh (gg s0 n1 f1 n3 f3 Z S x7 x8 T U R O XT XC XA XF Ud) XE (.L0 (k:Int) l0 (Ad (A [Ty.sl M] S) x7 T (A M U) R (A M O) (E (1000*XF)) (E (1000*Ud)) (E (1000*XC)) (CR (A [Ty.sl M] S) x7 T (A M U) R (A M O) (E (1000*XF)) (E (1000*Ud)) (E (1000*XC)) (SL S x7 T U R O XC XA XF Ud)) k).1 (Ad (A [Ty.sl M] S) x7 T (A M U) R (A M O) (E (1000*XF)) (E (1000*Ud)) (E (1000*XC)) (CR (A [Ty.sl M] S) x7 T (A M U) R (A M O) (E (1000*XF)) (E (1000*Ud)) (E (1000*XC)) (SL S x7 T U R O XC XA XF Ud)) k).2 n4) (.agg [D (iA (A [Ty.sl M] S) x7 T (A M U) R (A M O) XC XA XF Ud),D (iB (A [Ty.sl M] S) x7 T (A M U) R (A M O) XC XA XF Ud)]):=by
 refine gG λk hk ih=>?_;have hb:=hp.b;by_cases XD:k<R
 ·have hw:E ((k:Int)+1)=((k+1:Nat):Int):=by rw[C4 I I];omega
  obtain⟨XE,ih⟩:=ih XD;refine⟨XE+1,λl0 n4=>?_⟩;have ih:=ih l0 n4;refine(show bj (rh (gg s0 n1 f1 n3 f3 Z S x7 x8 T U R O XT XC XA XF Ud) XE) _ _ from ?_);refine iY (Cg I) (OQ (d:=true) (Cg I) (Ik hp) hp (λa e=>b9 ?_) (λa e=>b9 ?_) (λa=>b9 ?_))
  ·rw[hw];have e:bb T (A M U) R (A M O) (E (1000*XC)) (aE ((A M O) k))=true:=e;rw[uH (O:=(A M O)) (k:=k) a,oH e]at ih;exact ih
  ·rw[hw];have e:bb T (A M U) R (A M O) (E (1000*XC)) (aE ((A M O) k))=false:=e;rw[uH (O:=(A M O)) (k:=k) a,qO e]at ih;exact ih
  ·rw[hw];rw[F2 (O:=(A M O)) (k:=k) a]at ih;exact ih
 ·have e:k=R:=by omega
  obtain⟨Y6,nx⟩:=alB s0 n1 f1 n3 f3 Z S x7 x8 T U R O XT XC XA XF Ud hp 0 (Ho _);refine⟨Y6+1,λl0 n4=>?_⟩;refine(show bj (rh (gg s0 n1 f1 n3 f3 Z S x7 x8 T U R O XT XC XA XF Ud) Y6) _ _ from ?_);refine ib (fB I) ?_;rw[e];exact AA λl4=>(C7 (Ik hp) hp (λh0 N=>ce λ_=>bm (by
   have X1:=nx l4 n4 (R:Int) l0 (Pl S x7 T U R O XC XA XF Ud).1 (Pl S x7 T U R O XC XA XF Ud).2;rw[Dj h0 N]at X1;exact X1)) (λh0 N=>ce λ_=>bm (by
   have X1:=nx l4 n4 (R:Int) l0 (Pl S x7 T U R O XC XA XF Ud).1 (Pl S x7 T U R O XC XA XF Ud).2;rw[Db h0 N]at X1;exact X1)) (λh0 N=>ce λ_=>bm (by
   have X1:=nx l4 n4 (R:Int) l0 (Pl S x7 T U R O XC XA XF Ud).1 (Pl S x7 T U R O XC XA XF Ud).2;rw[Cl h0 N]at X1;exact X1)) (λh0 N=>ce λ_=>bm (by
   have X1:=nx l4 n4 (R:Int) l0 (Pl S x7 T U R O XC XA XF Ud).1 (Pl S x7 T U R O XC XA XF Ud).2;rw[DF h0 N]at X1;exact X1)))
end
theorem aaG (hp:mt Z (A [.sl M] S) T (A M U) R (A M O)):bj (Ev (gg s0 n1 f1 n3 f3 Z S x7 x8 T U R O XT XC XA XF Ud)) (Uv s0 n1 f1 n3 f3 Z S x7 x8 T U R O XT XC XA XF Ud) (.agg [D (iA (A [.sl M] S) x7 T (A M U) R (A M O) XC XA XF Ud),D (iB (A [.sl M] S) x7 T (A M U) R (A M O) XC XA XF Ud)]):=by
 obtain⟨XE,hN⟩:=alN s0 n1 f1 n3 f3 Z S x7 x8 T U R O XT XC XA XF Ud hp 0 (Ho _);exact Cv hp (AY (Cv hp (AY (Cv hp (AY (Cv hp (AY (aG (AY (AA λl4=>AA λl0=>(C7 (Ik hp) hp (λh0 N=>ce λ_=>bm (by
  have X1:=hN l0 l4;rw[Dj h0 N]at X1;exact⟨XE,X1⟩)) (λh0 N=>ce λ_=>bm (by
  have X1:=hN l0 l4;rw[Db h0 N]at X1;exact⟨XE,X1⟩)) (λh0 N=>ce λ_=>bm (by
  have X1:=hN l0 l4;rw[Cl h0 N]at X1;exact⟨XE,X1⟩)) (λh0 N=>ce λ_=>bm (by
  have X1:=hN l0 l4;rw[DF h0 N]at X1;exact⟨XE,X1⟩)))))))))))))
def VP:aH:=cG [.agg [.str,.sl M,.sl M,.sl [.sl M],tI,tI,.sl M,.sl M,tI],.agg lS] (λ
 |[.agg [.str s0,.sl n1 f1,.sl n3 f3,.sl Z S,.int _ x7,.int _ x8,.sl T U,.sl R O,.int _ XT],.agg [.int _ XC,.int _ XA,.int _ XF,.int _ Ud]]=>mt Z S T U R O|_=>False) λ
 |[.agg [.str s0,.sl n1 f1,.sl n3 f3,.sl Z S,.int _ x7,.int _ x8,.sl T U,.sl R O,.int _ XT],.agg [.int _ XC,.int _ XA,.int _ XF,.int _ Ud]]=>.agg [D (iA S x7 T U R O XC XA XF Ud),D (iB S x7 T U R O XC XA XF Ud)]|_=>.any
theorem abF:dL VP 50:=bH Nw λ_ hp=>ra (alx ..) (aaG _ _ _ _ _ _ _ _ _ _ _ _ _ _ _ _ _ _ hp)
def Jk:bo:=(50,.con VP)::we
theorem Jj:aX Tryz.prog BD CJ Jk:=.con abF (Nw)
def UI:RT Empty:=dm (s0,x1,x2,x4,x5,x6,XJ,XP,XT) (.cb (.cb (.ret (V.agg [D (j7 x3 x8 XH XC XA XF),D (j8 x3 x7 x9 XC XA XF)]))))
theorem flx:eJ eL (bu JJ Jk u0 OG [V.agg [V.str s0,D x1,D x2,D x3,D x4,D x5,D x6,D x7,D x8,D x9,D XH,D XJ,D XP,D XT],V.agg [D XC,D XA,D XF]]) (UI s0 x1 x2 x3 x4 x5 x6 x7 x8 x9 XH XJ XP XT XC XA XF):=cD
def hG:Int:=j7 x3 x8 XH XC XA XF
def d4:Int:=j8 x3 x7 x9 XC XA XF
def Lv:V:=dm (s0,x1,x2,x4,x5,x6,XJ,XP,XT) (.agg [D (hG x3 x8 XH XC XA XF),D (d4 x3 x7 x9 XC XA XF)])
theorem ih4:bj em (UI s0 x1 x2 x3 x4 x5 x6 x7 x8 x9 XH XJ XP XT XC XA XF) (Lv s0 x1 x2 x3 x4 x5 x6 x7 x8 x9 XH XJ XP XT XC XA XF):=aG (AY (aG (AY (Br (by unfold Lv hG d4;rfl)))))
def UG:aH:=cG [.agg ao,.agg cr] (λ_=>True) λ|[.agg [.str s0,.int _ x1,.int _ x2,.int _ x3,.int _ x4,.int _ x5,.int _ x6,.int _ x7,.int _ x8,.int _ x9,.int _ XH,.int _ XJ,.int _ XP,.int _ XT],.agg [.int _ XC,.int _ XA,.int _ XF]]=>Lv s0 x1 x2 x3 x4 x5 x6 x7 x8 x9 XH XJ XP XT XC XA XF|_=>.any
theorem acZ:dL UG 48:=bH Jj λ_ hp=>fb (flx ..) (ih4 _ _ _ _ _ _ _ _ _ _ _ _ _ _ _ _ _)
def yB:Int:=tN (E (tN (E (tN (E (x3*max 0 (E (1000000-E (x8*XC))))) 1000000*max 0 (E (1000-E (XH*XA))))) 1000*XF)) 1000
def zk:Int:=yc (E (yc (E (yc (E (x3*max 0 (E (1000000-E (x7*XC))))) 1000000*max 0 (E (1000-E (x9*XA))))) 1000*XF)) 1000
theorem akj (a b c d e f:Int):hG a b c d e f=yB a b c d e f:=by unfold hG yB j7;rw[Int.max_comm 0,Int.max_comm 0];rfl
theorem Aj (a b c d e f:Int):d4 a b c d e f=zk a b c d e f:=by unfold d4 zk j8;rw[Int.max_comm 0,Int.max_comm 0];rfl
def JO:bo:=(48,.con UG)::Jk
theorem Lb:aX Tryz.prog BD CJ JO:=.con acZ (Jj)
def jD:Int:=bif fw H (A au G) q (A ao W)==0 then bif !bh x4 0 (E ((q:Int)-1)) then 4 else fw H (A au G) q (A ao W) else fw H (A au G) q (A ao W)
theorem SE {x:Int} {n:Nat} (hn:n<=9223372036854775807) (h:(!aB x 0 (E ((n:Int)-1)))=false):decide (0<=x/\x<(n:Int))=true:=by
 rw[C4 I I]at h;unfold aB at h;refine Cg ?_;by_cases N:0<=x
 ·by_cases Q:x<=(n:Int)-1
  ·omega
  ·rw[Cg N,fB Q]at h;simp at h
 ·rw[fB N]at h;simp at h
def Wo:RT Empty:=.obp ((aT H G)/\aT q W) (.obt (.br (bN H (A au G) q (A ao W)!=0) (.ret (V.tup [V.agg [V.str (ByteArray.mk (Array.mk [])),D 0,D 0,D 0,D 0,D 0,D 0,D 0,D 0,D 0,D 0,D 0,D 0,D 0],D (bN H (A au G) q (A ao W))])) (.am q (.cb (.br (!aB x4 0 (E ((q:Int)-1))) (.ret (V.tup [V.agg [V.str (ByteArray.mk (Array.mk [])),D 0,D 0,D 0,D 0,D 0,D 0,D 0,D 0,D 0,D 0,D 0,D 0,D 0],D 4])) (.ob (dI x4 q) (.ret (V.tup [V.agg [V.str (sv (aI (W x4.toNat))),D (aW (W x4.toNat)),D (bZ (W x4.toNat)),D (cU (W x4.toNat)),D (cS (W x4.toNat)),D (bq (W x4.toNat)),D (bq (L (W x4.toNat))),D (bq (L (L (W x4.toNat)))),D (bq (L (L (L (W x4.toNat))))),D (bq (L (L (L (L (W x4.toNat)))))),D (bq (L (L (L (L (L (W x4.toNat))))))),D (bq (L (L (L (L (L (L (W x4.toNat)))))))),D (bq (L (L (L (L (L (L (L (W x4.toNat))))))))),D (bq (L (L (L (L (L (L (L (L (W x4.toNat))))))))))],D 0]))))))))
theorem hs':eJ eL (bu JJ JO u0 Ns [V.agg [V.sl H (A au G),V.sl q (A ao W)],D x4]) (Wo H G q W x4):=cD
def ti:ByteArray:=bif bN H (A au G) q (A ao W)!=0 then ByteArray.mk (Array.mk []) else bif !aB x4 0 (E ((q:Int)-1)) then ByteArray.mk (Array.mk []) else sv (aI (W x4.toNat))
def bB:Int:=bif bN H (A au G) q (A ao W)!=0 then 0 else bif !aB x4 0 (E ((q:Int)-1)) then 0 else aW (W x4.toNat)
def tL:Int:=bif bN H (A au G) q (A ao W)!=0 then 0 else bif !aB x4 0 (E ((q:Int)-1)) then 0 else bZ (W x4.toNat)
def cL:Int:=bif bN H (A au G) q (A ao W)!=0 then 0 else bif !aB x4 0 (E ((q:Int)-1)) then 0 else cU (W x4.toNat)
def nF:Int:=bif bN H (A au G) q (A ao W)!=0 then 0 else bif !aB x4 0 (E ((q:Int)-1)) then 0 else cS (W x4.toNat)
def nC:Int:=bif bN H (A au G) q (A ao W)!=0 then 0 else bif !aB x4 0 (E ((q:Int)-1)) then 0 else bq (W x4.toNat)
def nK:Int:=bif bN H (A au G) q (A ao W)!=0 then 0 else bif !aB x4 0 (E ((q:Int)-1)) then 0 else bq (L (W x4.toNat))
def dE:Int:=bif bN H (A au G) q (A ao W)!=0 then 0 else bif !aB x4 0 (E ((q:Int)-1)) then 0 else bq (L (L (W x4.toNat)))
def eg:Int:=bif bN H (A au G) q (A ao W)!=0 then 0 else bif !aB x4 0 (E ((q:Int)-1)) then 0 else bq (L (L (L (W x4.toNat))))
def dG:Int:=bif bN H (A au G) q (A ao W)!=0 then 0 else bif !aB x4 0 (E ((q:Int)-1)) then 0 else bq (L (L (L (L (W x4.toNat)))))
def dt:Int:=bif bN H (A au G) q (A ao W)!=0 then 0 else bif !aB x4 0 (E ((q:Int)-1)) then 0 else bq (L (L (L (L (L (W x4.toNat))))))
def qZ:Int:=bif bN H (A au G) q (A ao W)!=0 then 0 else bif !aB x4 0 (E ((q:Int)-1)) then 0 else bq (L (L (L (L (L (L (W x4.toNat)))))))
def qQ:Int:=bif bN H (A au G) q (A ao W)!=0 then 0 else bif !aB x4 0 (E ((q:Int)-1)) then 0 else bq (L (L (L (L (L (L (L (W x4.toNat))))))))
def pV:Int:=bif bN H (A au G) q (A ao W)!=0 then 0 else bif !aB x4 0 (E ((q:Int)-1)) then 0 else bq (L (L (L (L (L (L (L (L (W x4.toNat)))))))))
def bR:Int:=bif bN H (A au G) q (A ao W)!=0 then bN H (A au G) q (A ao W) else bif !aB x4 0 (E ((q:Int)-1)) then 4 else 0
def BK:V:=.tup [.agg [.str (ti H G q W x4),D (bB H G q W x4),D (tL H G q W x4),D (cL H G q W x4),D (nF H G q W x4),D (nC H G q W x4),D (nK H G q W x4),D (dE H G q W x4),D (eg H G q W x4),D (dG H G q W x4),D (dt H G q W x4),D (qZ H G q W x4),D (qQ H G q W x4),D (pV H G q W x4)],D (bR H G q W x4)]
theorem aaV (hp:aT H G/\aT q W):bj em (Wo H G q W x4) (BK H G q W x4):=Cv (by first|assumption|(exact hp)) (AY (Ct (λh0=>Br (by unfold BK ti bB tL cL nF nC nK dE eg dG dt qZ qQ pV bR;try rw[h0];rfl)) (λh0=>H1 (λa1=>aG (AY (Ct (λN=>Br (by unfold BK ti bB tL cL nF nC nK dE eg dG dt qZ qQ pV bR;try rw[h0];try rw[N];rfl)) (λN=>bf (by first|assumption|((exact SE (a1 rfl) N))) (Br (by unfold BK ti bB tL cL nF nC nK dE eg dG dt qZ qQ pV bR;try rw[h0];try rw[N];rfl)))))))))
def Wq:aH:=cG [.agg [.sl au,.sl ao],tI] (λ
 |[.agg [.sl H G,.sl q W],.int _ x4]=>aT H G/\aT q W|_=>False) λ
 |[.agg [.sl H G,.sl q W],.int _ x4]=>BK H G q W x4|_=>.any
theorem acy:dL Wq 45:=bH Lb λ_ hp=>fb (hs' ..) (aaV _ _ _ _ _ hp)
structure fO (n:Nat) (f:bl):Prop where
 r:∀i,i<n->-5000<=aE (f i)/\aE (f i)<=5000
 u:∀i,i+1<n->aE (f i)<aE (f (i+1))
theorem Tp {n:Nat} {f g:bl} (hn:n<=12) (e:∀ i,aE (g i)=aE (f i)) (N:FW n g=true) (Q:ic n g=true):fO n f:=by
 refine⟨λi hi=>?_,λi hi=>?_⟩
 ·have:=dh N i hi;have:=qR this;rw[e]at this;exact this
 ·have:=dh Q (i+1) hi
  have:decide (aE (g i)<aE (g (i+1)))=true:=by unfold Oq at this;rw[C4 I I,show((((i+1:Nat):Int)==0)=false) from by simp;omega]at this;have h3:decide (aE (g ((((i+1:Nat):Int)-1).toNat))<aE (g (((i+1:Nat):Int).toNat)))=true:=this;rw[show(((i+1:Nat):Int)-1).toNat=i by omega,show((i+1:Nat):Int).toNat=i+1 by omega]at h3;exact h3
  have:=HT this;rw[e,e]at this;exact this
theorem Td {G:bl} {a:Nat} (h:oD (A au G) a=0):fO (aL (aI (L (G a)))) (b7 (aI (L (G a))))/\fO (aL (aI (L (L (G a))))) (b7 (aI (L (L (G a))))):=by have t:=JI h;unfold oD at h;obtain⟨_,h⟩:=hZ h aA;obtain⟨_,h⟩:=hZ h aA;unfold KU at h;obtain⟨_,h⟩:=hZ h aA;obtain⟨N,h⟩:=hZ h aA;obtain⟨Q,_⟩:=hZ h aA;obtain⟨r1,r2⟩:=Ju N;obtain⟨u1,u2⟩:=Ju Q;exact⟨Tp t.u.2 (λi=>rfl) r1 u1,Tp t.v.2 (λi=>rfl) r2 u2⟩
theorem akN {x:List V} {X9:Int} (t:mw x) (u:fO (aL (aI (L x))) (b7 (aI (L x)))) (v:fO (aL (aI (L (L x)))) (b7 (aI (L (L x))))) (h:1<=X9/\X9<=30000) :
 mt (yx x) (pY x) (aL (aI (L x))) (bc (b7 (aI (L x))) X9) (aL (aI (L (L x)))) (bc (b7 (aI (L (L x)))) X9):=by
 have key:∀ {n:Nat} {f:bl},fO n f->∀ i:Nat,i+1<n->E (aE (bc f X9 (i+1))-aE (bc f X9 i))≠0:=by
  intro n f w i hi;have hu:=w.u i hi;have r0:=w.r i I;have r1:=w.r (i+1) hi;have b:∀a:Int,-5000<=a/\a<=5000->-150000000<=a*X9/\a*X9<=150000000:=λa ha=>by have N:a*X9<=5000*X9:=H9 ha.2 I;have Q:(-5000)*X9<=a*X9:=H9 ha.1 I;omega
  have b0:=b _ r0;have b1:=b _ r1;have e:∀j,aE (bc f X9 j)=E (aE (f j)*X9):=λj=>rfl;rw[e,e,C4 (x:=aE (f i)*X9) I I,C4 (x:=aE (f (i+1))*X9) I I,C4 I I];have:aE (f i)*X9<aE (f (i+1))*X9:=Int.mul_lt_mul_of_pos_right hu I;omega
 refine⟨⟨t.u.1,by have:=t.u.2;omega⟩,⟨t.v.1,by have:=t.v.2;omega⟩,by rw[t.n];exact Dm _,λi hi=>?_,key u,key v⟩;have:=t.row i hi;show _<=aL (aI (pY x i));omega
theorem Ua {H:Nat} {G:bl} {q:Nat} {W:bl} {x4:Int} (h:bR H G q W x4=0) :
 (0<=bB H G q W x4/\bB H G q W x4<(H:Int))/\oD (A au (A au G)) (bB H G q W x4).toNat=0:=by
 unfold bR at h;have e:bN H (A au G) q (A ao W)=0:=by
  by_cases e:bN H (A au G) q (A ao W)=0
  ·exact e
  ·have:(bN H (A au G) q (A ao W)!=0)=true:=by simpa using e
   rw[this]at h;exact h
 have c:=lz H (A au G) q (A ao W);have v:zH H (A au G) q (A ao W):=yW (by have:=congrArg (λp=>p.2.2) c;exact this.symm.trans e);have ne:(bN H (A au G) q (A ao W)!=0)=false:=by rw[e];rfl
 rw[ne]at h;have hb:(!aB x4 0 (E ((q:Int)-1)))=false:=by
  cases hh:(!aB x4 0 (E ((q:Int)-1))) with
  |false=>rfl|true=>rw[hh]at h;cases h
 have l2:=v.l2;have r:=HT (SE I hb);have x27:bB H G q W x4=aW (W x4.toNat):=by unfold bB;rw[ne,hb];rfl
 have lm:=(S9 (a:=x4.toNat) v.l0 (v.lm x4.toNat I)).t;have lm:0<=aW (W x4.toNat)/\aW (W x4.toNat)<(H:Int):=lm;rw[x27];exact⟨lm,v.tb _ I⟩
def Nz:bo:=(45,.con Wq)::JO
theorem Lx:aX Tryz.prog BD CJ Nz:=.con acy (Lb)
def tG:=λi=>aw M (b7 (aI (L (G (bB H (A au G) q (A ao W) x4).toNat))) i)
def tT:=λi=>aw M (b7 (aI (L (L (G (bB H (A au G) q (A ao W) x4).toNat)))) i)
def zK:=((2:Nat)<=aL (aI (L (G (bB H (A au G) q (A ao W) x4).toNat)))/\aL (aI (L (G (bB H (A au G) q (A ao W) x4).toNat)))<=(1000:Nat))/\((2:Nat)<=aL (aI (L (L (G (bB H (A au G) q (A ao W) x4).toNat))))/\aL (aI (L (L (G (bB H (A au G) q (A ao W) x4).toNat))))<=(1000:Nat))/\aL (aI (L (G (bB H (A au G) q (A ao W) x4).toNat)))<=aL (aI (L (L (L (G (bB H (A au G) q (A ao W) x4).toNat)))))/\(∀(i:Nat),i<aL (aI (L (L (L (G (bB H (A au G) q (A ao W) x4).toNat)))))->aL (aI (L (L (G (bB H (A au G) q (A ao W) x4).toNat))))<=aL (aI (b7 (aI (L (L (L (G (bB H (A au G) q (A ao W) x4).toNat))))) i)))/\(∀(i:Nat),i+(1:Nat)<aL (aI (L (G (bB H (A au G) q (A ao W) x4).toNat)))->E (aE (bc (tG H G q W x4) XP (i+(1:Nat)))-aE (bc (tG H G q W x4) XP i))≠(0:Int))/\∀(i:Nat),i+(1:Nat)<aL (aI (L (L (G (bB H (A au G) q (A ao W) x4).toNat))))->E (aE (bc (tT H G q W x4) XP (i+(1:Nat)))-aE (bc (tT H G q W x4) XP i))≠(0:Int)
def tn:RT Empty:=.obp (nz 1000) (.obt (.obp (nz 1000) (.obt (.ret (V.tup [V.agg [D (bO (E (iA (λi=>aw [Ty.sl M] (b7 (aI (L (L (L (G (bB H (A au G) q (A ao W) x4).toNat))))) i)) (cS (G (bB H (A au G) q (A ao W) x4).toNat)) (aL (aI (L (G (bB H (A au G) q (A ao W) x4).toNat)))) (A M (bc (tG H G q W x4) XP)) (aL (aI (L (L (G (bB H (A au G) q (A ao W) x4).toNat))))) (A M (bc (tT H G q W x4) XP)) x8 x9 XH XJ*hG (cL H (A au G) q (A ao W) x4) (eg H (A au G) q (A ao W) x4) (dt H (A au G) q (A ao W) x4) x5 x6 x7)) 1000),D (bD (E (iB (λi=>aw [Ty.sl M] (b7 (aI (L (L (L (G (bB H (A au G) q (A ao W) x4).toNat))))) i)) (cS (G (bB H (A au G) q (A ao W) x4).toNat)) (aL (aI (L (G (bB H (A au G) q (A ao W) x4).toNat)))) (A M (bc (tG H G q W x4) XP)) (aL (aI (L (L (G (bB H (A au G) q (A ao W) x4).toNat))))) (A M (bc (tT H G q W x4) XP)) x8 x9 XH XJ*d4 (cL H (A au G) q (A ao W) x4) (dE H (A au G) q (A ao W) x4) (dG H (A au G) q (A ao W) x4) x5 x6 x7)) 1000)],D 0])))))
def iD:RT Empty:=.obp (zK H G q W x4 XP) (.obt (tn H G q W x4 x5 x6 x7 x8 x9 XH XJ XP))
def nG:=aL (aI (L (G (bB H (A au G) q (A ao W) x4).toNat)))<=(1000:Nat)/\aL (aI (L (L (G (bB H (A au G) q (A ao W) x4).toNat))))<=(1000:Nat)
def qu:RT Empty:=.und (.obp (nG H G q W x4) (.obt (.und (iD H G q W x4 x5 x6 x7 x8 x9 XH XJ XP) (iD H G q W x4 x5 x6 x7 x8 x9 XH XJ XP)))) (.obp (nG H G q W x4) (.obt (iD H G q W x4 x5 x6 x7 x8 x9 XH XJ XP)))
def yF:RT Empty:=.ob (dI (bB H (A au G) q (A ao W) x4) H) (.und (.cb (.und (.obp (nG H G q W x4) (.obt (.und (.obp (zK H G q W x4 XP) (.obt (.und (tn H G q W x4 x5 x6 x7 x8 x9 XH XJ XP) (tn H G q W x4 x5 x6 x7 x8 x9 XH XJ XP)))) (.und (.und (iD H G q W x4 x5 x6 x7 x8 x9 XH XJ XP) (iD H G q W x4 x5 x6 x7 x8 x9 XH XJ XP)) (.und (iD H G q W x4 x5 x6 x7 x8 x9 XH XJ XP) (iD H G q W x4 x5 x6 x7 x8 x9 XH XJ XP)))))) (.und (qu H G q W x4 x5 x6 x7 x8 x9 XH XJ XP) (qu H G q W x4 x5 x6 x7 x8 x9 XH XJ XP)))) (.und (.und (.cb (qu H G q W x4 x5 x6 x7 x8 x9 XH XJ XP)) (.cb (.obp (nG H G q W x4) (.obt (iD H G q W x4 x5 x6 x7 x8 x9 XH XJ XP))))) (.und (.cb (qu H G q W x4 x5 x6 x7 x8 x9 XH XJ XP)) (.cb (.obp (nG H G q W x4) (.obt (iD H G q W x4 x5 x6 x7 x8 x9 XH XJ XP)))))))
def zF:RT Empty:=.br (bR H (A au G) q (A ao W) x4==0) (.cb (.br (eR x8 x9 XH XJ XP !=0) (.ret (V.tup [V.agg JK,D (eR x8 x9 XH XJ XP)])) (yF H G q W x4 x5 x6 x7 x8 x9 XH XJ XP))) (.br (bR H (A au G) q (A ao W) x4 !=0) (.ret (V.tup [V.agg JK,D (bR H (A au G) q (A ao W) x4)])) (yF H G q W x4 x5 x6 x7 x8 x9 XH XJ XP))
def Ut:RT Empty:=.obp ((aT H G)/\aT q W) (.obt (.br (bR H (A au G) q (A ao W) x4==0) (.ob (bR H (A au G) q (A ao W) x4==0) (.cb (.br (da x5 x6 x7) (.brf (.brt (.ret (V.tup [V.agg JK,D 7])))) (zF H G q W x4 x5 x6 x7 x8 x9 XH XJ XP)))) (zF H G q W x4 x5 x6 x7 x8 x9 XH XJ XP)))
theorem hb1:eJ eL (bu JJ Nz u0 yS [V.agg [V.sl H (A au G),V.sl q (A ao W)],D x4,V.agg [D x5,D x6,D x7],V.agg [D x8,D x9,D XH,D XJ],D XP]) (Ut H G q W x4 x5 x6 x7 x8 x9 XH XJ XP):=cD
def xy (x:List V) (a c d e h:Int):Int:=iA (pY x) (cS x) (aL (aI (L x))) (A M (bc (b7 (aI (L x))) h)) (aL (aI (L (L x)))) (A M (bc (b7 (aI (L (L x)))) h)) a c d e
def AN (x:List V) (a c d e h:Int):Int:=iB (pY x) (cS x) (aL (aI (L x))) (A M (bc (b7 (aI (L x))) h)) (aL (aI (L (L x)))) (A M (bc (b7 (aI (L (L x)))) h)) a c d e
def Aa:Int:=bif bR H G q W x4==0 then bif da x5 x6 x7 then 7 else eR x8 x9 XH XJ XP else bR H G q W x4
def twL:Int:=bO (E (xy (G (bB H G q W x4).toNat) x8 x9 XH XJ XP*hG (cL H G q W x4) (eg H G q W x4) (dt H G q W x4) x5 x6 x7)) 1000
def QW:Int:=bD (E (AN (G (bB H G q W x4).toNat) x8 x9 XH XJ XP*d4 (cL H G q W x4) (dE H G q W x4) (dG H G q W x4) x5 x6 x7)) 1000
def cX:Int:=bif Aa H G q W x4 x5 x6 x7 x8 x9 XH XJ XP==0 then twL H G q W x4 x5 x6 x7 x8 x9 XH XJ XP else 0
def dB:Int:=bif Aa H G q W x4 x5 x6 x7 x8 x9 XH XJ XP==0 then QW H G q W x4 x5 x6 x7 x8 x9 XH XJ XP else 0
def fJ:Int:=Aa H G q W x4 x5 x6 x7 x8 x9 XH XJ XP
theorem hvu (hp:aT H (A au G)/\aT q (A ao W)):bj em (Ut H G q W x4 x5 x6 x7 x8 x9 XH XJ XP) (.tup [.agg [D (cX H (A au G) q (A ao W) x4 x5 x6 x7 x8 x9 XH XJ XP),D (dB H (A au G) q (A ao W) x4 x5 x6 x7 x8 x9 XH XJ XP)],D (fJ H (A au G) q (A ao W) x4 x5 x6 x7 x8 x9 XH XJ XP)]):=by
 have leaf:Aa H (A au G) q (A ao W) x4 x5 x6 x7 x8 x9 XH XJ XP=0->bj em (tn H G q W x4 x5 x6 x7 x8 x9 XH XJ XP) (.tup [.agg [D (cX H (A au G) q (A ao W) x4 x5 x6 x7 x8 x9 XH XJ XP),D (dB H (A au G) q (A ao W) x4 x5 x6 x7 x8 x9 XH XJ XP)],D (fJ H (A au G) q (A ao W) x4 x5 x6 x7 x8 x9 XH XJ XP)]):=λh=>Cv aA (AY (Cv aA (AY (Br (by unfold cX dB fJ;rw[h];rfl)))));have bad:∀ {e:Int},Aa H (A au G) q (A ao W) x4 x5 x6 x7 x8 x9 XH XJ XP=e->e≠0->bj em (.ret (V.tup [V.agg [D 0,D 0],D e])) (.tup [.agg [D (cX H (A au G) q (A ao W) x4 x5 x6 x7 x8 x9 XH XJ XP),D (dB H (A au G) q (A ao W) x4 x5 x6 x7 x8 x9 XH XJ XP)],D (fJ H (A au G) q (A ao W) x4 x5 x6 x7 x8 x9 XH XJ XP)]):=λh h0=>Br (by unfold cX dB fJ;rw[h,show(_==(0:Int))=false from by simpa using h0];rfl);have L7:(bR H (A au G) q (A ao W) x4=0->da x5 x6 x7=false)->bj em (zF H G q W x4 x5 x6 x7 x8 x9 XH XJ XP) (.tup [.agg [D (cX H (A au G) q (A ao W) x4 x5 x6 x7 x8 x9 XH XJ XP),D (dB H (A au G) q (A ao W) x4 x5 x6 x7 x8 x9 XH XJ XP)],D (fJ H (A au G) q (A ao W) x4 x5 x6 x7 x8 x9 XH XJ XP)]):=λhw=>by
  have L2:bR H (A au G) q (A ao W) x4=0->eR x8 x9 XH XJ XP=0->bj em (yF H G q W x4 x5 x6 x7 x8 x9 XH XJ XP) (.tup [.agg [D (cX H (A au G) q (A ao W) x4 x5 x6 x7 x8 x9 XH XJ XP),D (dB H (A au G) q (A ao W) x4 x5 x6 x7 x8 x9 XH XJ XP)],D (fJ H (A au G) q (A ao W) x4 x5 x6 x7 x8 x9 XH XJ XP)]):=λh0 hr=>by
   have ht:Aa H (A au G) q (A ao W) x4 x5 x6 x7 x8 x9 XH XJ XP=0:=by unfold Aa;rw[h0,hw h0,hr];rfl
   have hb:=Ua h0;have tb:=JI hb.2;have up:=Td hb.2;have hH:1<=XP/\XP<=30000:=by
    unfold eR at hr;cases hh:aB XP 1 30000 with
    |true=>exact qR hh|false=>rw[hh]at hr;cases hr
   have vw:=akN (X9:=XP) tb up.1 up.2 hH;have c4:zK H G q W x4 XP:=vw;have c6:nG H G q W x4:=⟨vw.1.2,vw.2.1.2⟩;have L3:=leaf ht;have L1:bj em (iD H G q W x4 x5 x6 x7 x8 x9 XH XJ XP) (.tup [.agg [D (cX H (A au G) q (A ao W) x4 x5 x6 x7 x8 x9 XH XJ XP),D (dB H (A au G) q (A ao W) x4 x5 x6 x7 x8 x9 XH XJ XP)],D (fJ H (A au G) q (A ao W) x4 x5 x6 x7 x8 x9 XH XJ XP)]):=Cv c4 (AY L3);have L5:bj em (qu H G q W x4 x5 x6 x7 x8 x9 XH XJ XP) (.tup [.agg [D (cX H (A au G) q (A ao W) x4 x5 x6 x7 x8 x9 XH XJ XP),D (dB H (A au G) q (A ao W) x4 x5 x6 x7 x8 x9 XH XJ XP)],D (fJ H (A au G) q (A ao W) x4 x5 x6 x7 x8 x9 XH XJ XP)]):=⟨Cv c6 (AY ⟨L1,L1⟩),Cv c6 (AY L1)⟩;refine bf (Cg hb.1) ?_
   repeat' (first|exact L3|exact L1|exact L5|refine AY ?_|refine aG ?_|refine Cv c4 ?_|refine Cv c6 ?_|constructor)
  refine Ct (λh=>aG (AY (Ct (λQ=>?_) (λQ=>L2 (Jh h) (by simpa using Q)))) ) (λh=>Ct (λQ=>?_) (λQ=>?_))
  ·exact bad (by unfold Aa;rw[h,hw (Jh h)];rfl) (by simpa using Q)
  ·exact bad (by unfold Aa;rw[h];rfl) (by simpa using Q)
  ·exact absurd (by simpa using Q:bR H (A au G) q (A ao W) x4=0) (by simpa using h)
 refine Cv hp (AY (Ct (λh=>bf h (aG (AY (Ct (λQ=>w7 (ku (bad (by unfold Aa;rw[h,Q];rfl) aA))) (λQ=>L7 λ_=>Q))))) (λh=>L7 λQ=>?_)));exact absurd Q (by simpa using h)
def WS:aH:=cG [.agg [.sl au,.sl ao],tI,.agg cr,.agg lS,tI] (λ
 |[.agg [.sl H G,.sl q W],.int _ x4,.agg [.int _ x5,.int _ x6,.int _ x7],.agg [.int _ x8,.int _ x9,.int _ XH,.int _ XJ],.int _ XP]=>aT H G/\aT q W|_=>False) λ
 |[.agg [.sl H G,.sl q W],.int _ x4,.agg [.int _ x5,.int _ x6,.int _ x7],.agg [.int _ x8,.int _ x9,.int _ XH,.int _ XJ],.int _ XP]=>.tup [.agg [D (cX H G q W x4 x5 x6 x7 x8 x9 XH XJ XP),D (dB H G q W x4 x5 x6 x7 x8 x9 XH XJ XP)],D (fJ H G q W x4 x5 x6 x7 x8 x9 XH XJ XP)]|_=>.any
theorem ia2:dL WS 19:=bH Lx λ_ hp=>fb (hb1 ..) (hvu _ _ _ _ _ _ _ _ _ _ _ _ _ hp)
set_option maxHeartbeats 0
set_option linter.unusedSectionVars false
def Hg (h:Int):Prop:=(2<=n1/\n1<=1000)/\(2<=n3/\n3<=1000)/\n1<=Z/\(∀i:Nat,i<Z->n3<=aL (aI (S i)))/\(∀i:Nat,i+1<n1->E (E (aE (f1 (i+1))-aE (f1 i))*h)≠0)/\(∀i:Nat,i+1<n3->E (E (aE (f3 (i+1))-aE (f3 i))*h)≠0)
theorem Hg.a {n1:Nat} {f1:bl} {n3:Nat} {f3:bl} {Z:Nat} {S:bl} {h:Int} (hp:Hg n1 f1 n3 f3 Z S h):2<=n1/\n1<=1000:=hp.1
theorem Hg.b {n1:Nat} {f1:bl} {n3:Nat} {f3:bl} {Z:Nat} {S:bl} {h:Int} (hp:Hg n1 f1 n3 f3 Z S h):2<=n3/\n3<=1000:=hp.2.1
section
variable {n1:Nat} {f1:bl} {n3:Nat} {f3:bl} {Z:Nat} {S:bl} {h p X1:Int} (hp:Hg n1 f1 n3 f3 Z S h) (a:0<=p/\p+1<(n1:Int)) (c:0<=X1/\X1+1<(n3:Int))
include hp a c
end
section
variable (s0:ByteArray) (n1:Nat) (f1:bl) (n3:Nat) (f3:bl) (Z:Nat) (S:bl) (x7:Int) (x8:Int) (x9:Int) (XH:Int) (XJ:Int) (XP:Int) (XT:Int) (hp:Hg n1 (A M f1) n3 (A M f3) Z (A [Ty.sl M] S) XT)
include hp
end
end
noncomputable section
theorem tp (x:Int):bR H G q W x=jD H G q W x:=by
 have c:bN H (A au G) q (A ao W)=fw H (A au G) q (A ao W):=congrArg (λp=>p.2.2) (lz H (A au G) q (A ao W));unfold bR jD;rw[c];generalize fw H (A au G) q (A ao W)=e;by_cases he:e=0
 ·subst he;rfl
 ·rw[show(e !=0)=true from by simpa using he,show(e==0)=false from by simpa using he];rfl
theorem E9 (a b c:Int):(bif da a b c then(7:Int) else 0)=og a b c:=by unfold da og;have h:∀x l u,aB x l u=bh x l u:=λ_ _ _=>rfl;rw[h,h,h];cases bh a 0 200000<;>cases bh b 0 600<;>cases bh c 0 1000<;>rfl
def HV (Uc:Int->Int->Prop) (g0 g1:Int->Int->Int) (o:Int×Int):Prop:=(∃u v,Uc u v/\g0 u v=o.1)/\∃u v,Uc u v/\g1 u v=o.2
def Iu (g0 g1:Int->Int->Int) (u v:Int) (o:Int×Int):Prop:=o.1<=g0 u v/\g1 u v<=o.2
def zD (a b:Int×Int):Prop:=a.1<=b.1/\b.2<=a.2
theorem zD.refl (a:Int×Int):zD a a:=⟨H7 _,H7 _⟩
theorem zD.trans {a b c:Int×Int} (h:zD a b) (k:zD b c):zD a c:=⟨HE h.1 k.1,HE k.2 h.2⟩
theorem Iu.le {g0 g1:Int->Int->Int} {u v:Int} {o p:Int×Int} (h:Iu g0 g1 u v o) (k:zD p o):Iu g0 g1 u v p:=⟨HE k.1 h.1,HE h.2 k.2⟩
theorem tl {Uc:Int->Int->Prop} {g0 g1:Int->Int->Int} {o:Int×Int} {u v:Int} (h:HV Uc g0 g1 o) (s:Uc u v):HV Uc g0 g1 (min o.1 (g0 u v),max o.2 (g1 u v)):=by
 obtain⟨⟨a,b,s1,e1⟩,⟨c,d,s2,e2⟩⟩:=h;refine⟨?_,?_⟩
 ·show ∃ u' v',Uc u' v'/\g0 u' v'=min o.1 (g0 u v)
  rw[Int.min_def];split
  ·exact⟨a,b,s1,e1⟩
  ·exact⟨u,v,s,rfl⟩
 ·show ∃ u' v',Uc u' v'/\g1 u' v'=max o.2 (g1 u v)
  rw[Int.max_def];split
  ·exact⟨u,v,s,rfl⟩
  ·exact⟨c,d,s2,e2⟩
theorem Gh {g0 g1:Int->Int->Int} {o:Int×Int} {u v:Int}:zD (min o.1 (g0 u v),max o.2 (g1 u v)) o/\Iu g0 g1 u v (min o.1 (g0 u v),max o.2 (g1 u v)) :=
 ⟨⟨Int.min_le_left _ _,Int.le_max_left _ _⟩,⟨Int.min_le_right _ _,Int.le_max_right _ _⟩⟩
section
variable (S:bl) (x7:Int) (T:Nat) (U:bl) (R:Nat) (O:bl)
def OS (n:Nat) (f:bl) (a b u:Int):Prop:=u=a∨u=b∨∃j,j<n/\BU a b (aE (f j))=true/\u=aE (f j)
theorem CY {Uc:Int->Int->Prop} {u v:Int} {o:Int×Int} (h:HV Uc (aY S T U R O) (aZ S x7 T U R O) o) (s:bb T U R O u v=true->Uc u v):HV Uc (aY S T U R O) (aZ S x7 T U R O) (JY S x7 T U R O u v o):=by
 cases hb:bb T U R O u v with
 |true=>rw[oH hb];exact tl h (s hb)|false=>rw[qO hb];exact h
theorem uq (u v:Int) (o:Int×Int):zD (JY S x7 T U R O u v o) o:=by
 cases hb:bb T U R O u v with
 |true=>rw[oH hb];exact(Gh (g0:=aY S T U R O) (g1:=aZ S x7 T U R O)).1|false=>rw[qO hb];exact zD.refl o
theorem CO (u v:Int) (o:Int×Int) (hb:bb T U R O u v=true):Iu (aY S T U R O) (aZ S x7 T U R O) u v (JY S x7 T U R O u v o):=by rw[oH hb];exact(Gh (g0:=aY S T U R O) (g1:=aZ S x7 T U R O)).2
theorem tH {y0 y1 u:Int} {o:Int×Int}:∀ k,k<=R ->
 (∀Uc:Int->Int->Prop,HV Uc (aY S T U R O) (aZ S x7 T U R O) o->(∀v,OS R O y0 y1 v->bb T U R O u v=true->Uc u v)->HV Uc (aY S T U R O) (aZ S x7 T U R O) (Ad S x7 T U R O y0 y1 u o k)) /\
 zD (Ad S x7 T U R O y0 y1 u o k) o /\
 ∀j,j<k->BU y0 y1 (aE (O j))=true->bb T U R O u (aE (O j))=true->Iu (aY S T U R O) (aZ S x7 T U R O) u (aE (O j)) (Ad S x7 T U R O y0 y1 u o k)
 |0,_=>⟨λUc h _=>h,zD.refl o,λj hj=>absurd hj (Ln j)⟩
 |k+1,hk=>by
   obtain⟨N,Q,h3⟩:=tH (y0:=y0) (y1:=y1) (u:=u) (o:=o) k I;cases hb:BU y0 y1 (aE (O k)) with
   |false=>
     rw[F2 hb];refine⟨N,Q,λj hj a b=>?_⟩;rcases Nat.lt_succ_iff_lt_or_eq.1 hj with h|h
     ·exact h3 j h a b
     ·subst h;rw[hb]at a;cases a
   |true=>
     rw[uH hb];refine⟨λUc h s=>CY S x7 T U R O (N Uc h s) (s _ (.inr (.inr ⟨k,I,hb,rfl⟩))),zD.trans (uq ..) Q,λj hj a b=>?_⟩;rcases Nat.lt_succ_iff_lt_or_eq.1 hj with h|h
     ·exact Iu.le (h3 j h a b) (uq ..)
     ·subst h;exact CO _ _ _ _ _ _ _ _ _ b
theorem vW {y0 y1 u:Int} {o:Int×Int} {Uc:Int->Int->Prop} (h:HV Uc (aY S T U R O) (aZ S x7 T U R O) o) (s:∀ v,OS R O y0 y1 v->bb T U R O u v=true->Uc u v):HV Uc (aY S T U R O) (aZ S x7 T U R O) (RS S x7 T U R O y0 y1 u o) :=
 (tH S x7 T U R O R (Dm _)).1 Uc (CY _ _ _ _ _ _ (CY _ _ _ _ _ _ h (s _ (.inl rfl))) (s _ (.inr (.inl rfl)))) s
theorem uy (y0 y1 u:Int) (o:Int×Int):zD (RS S x7 T U R O y0 y1 u o) o :=
 zD.trans (tH S x7 T U R O R (Dm _)).2.1 (zD.trans (uq ..) (uq ..))
theorem CK {y0 y1 u v:Int} {o:Int×Int} (y:OS R O y0 y1 v) (hb:bb T U R O u v=true):Iu (aY S T U R O) (aZ S x7 T U R O) u v (RS S x7 T U R O y0 y1 u o):=by
 have k:=tH S x7 T U R O (y0:=y0) (y1:=y1) (u:=u) (o:=CR S x7 T U R O y0 y1 u o) R (Dm _);rcases y with h|h|⟨j,hj,a,e⟩
 ·subst h;exact Iu.le (Iu.le (CO _ _ _ _ _ _ _ _ _ hb) (uq ..)) k.2.1
 ·subst h;exact Iu.le (CO _ _ _ _ _ _ _ _ _ hb) k.2.1
 ·subst e;exact k.2.2 j hj a hb
def xO (x0 x1 y0 y1 u v:Int):Prop:=((u=x0∨u=x1)/\(v=y0∨v=y1))∨(OS T U x0 x1 u/\OS R O y0 y1 v/\bb T U R O u v=true)
theorem yJ {x0 x1 y0 y1:Int} {o:Int×Int} (ho:HV (xO T U R O x0 x1 y0 y1) (aY S T U R O) (aZ S x7 T U R O) o):∀ k,k<=T ->
 HV (xO T U R O x0 x1 y0 y1) (aY S T U R O) (aZ S x7 T U R O) (Cw S x7 T U R O x0 x1 y0 y1 o k) /\
 zD (Cw S x7 T U R O x0 x1 y0 y1 o k) o /\
 ∀j,j<k->BU x0 x1 (aE (U j))=true->∀v,OS R O y0 y1 v->bb T U R O (aE (U j)) v=true->Iu (aY S T U R O) (aZ S x7 T U R O) (aE (U j)) v (Cw S x7 T U R O x0 x1 y0 y1 o k)
 |0,_=>⟨ho,zD.refl o,λj hj=>absurd hj (Ln j)⟩
 |k+1,hk=>by
   obtain⟨N,Q,h3⟩:=yJ ho k I;cases hb:BU x0 x1 (aE (U k)) with
   |false=>
     rw[Ul hb];refine⟨N,Q,λj hj a v y b=>?_⟩;rcases Nat.lt_succ_iff_lt_or_eq.1 hj with h|h
     ·exact h3 j h a v y b
     ·subst h;rw[hb]at a;cases a
   |true=>
     rw[Xb hb];refine⟨vW _ _ _ _ _ _ N (λv y hh=>.inr ⟨.inr (.inr ⟨k,I,hb,rfl⟩),y,hh⟩),zD.trans (uy ..) Q,λj hj a v y b=>?_⟩;rcases Nat.lt_succ_iff_lt_or_eq.1 hj with h|h
     ·exact Iu.le (h3 j h a v y b) (uy ..)
     ·subst h;exact CK _ _ _ _ _ _ y b
theorem M5 (x0 x1 y0 y1:Int):HV (xO T U R O x0 x1 y0 y1) (aY S T U R O) (aZ S x7 T U R O) (QP S x7 T U R O x0 x1 y0 y1) :=
 have a:HV (xO T U R O x0 x1 y0 y1) (aY S T U R O) (aZ S x7 T U R O) (aY S T U R O x0 y0,aZ S x7 T U R O x0 y0):=⟨⟨x0,y0,.inl ⟨.inl rfl,.inl rfl⟩,rfl⟩,⟨x0,y0,.inl ⟨.inl rfl,.inl rfl⟩,rfl⟩⟩
 tl (tl (tl a (.inl ⟨.inl rfl,.inr rfl⟩)) (.inl ⟨.inr rfl,.inl rfl⟩)) (.inl ⟨.inr rfl,.inr rfl⟩)
theorem abb {x0 x1 y0 y1 u v:Int} (hu:u=x0∨u=x1) (y:v=y0∨v=y1):Iu (aY S T U R O) (aZ S x7 T U R O) u v (QP S x7 T U R O x0 x1 y0 y1):=by unfold Iu QP;rcases hu with rfl|rfl<;>rcases y with rfl|rfl<;>dsimp only<;>omega
theorem CH (x0 x1 y0 y1:Int):HV (xO T U R O x0 x1 y0 y1) (aY S T U R O) (aZ S x7 T U R O) (wL S x7 T U R O x0 x1 y0 y1) :=
 (yJ S x7 T U R O (vW _ _ _ _ _ _ (vW _ _ _ _ _ _ (M5 ..) (λv y hh=>.inr ⟨.inl rfl,y,hh⟩)) (λv y hh=>.inr ⟨.inr (.inl rfl),y,hh⟩)) T (Dm _)).1
theorem LQ {x0 x1 y0 y1 u v:Int} (h:xO T U R O x0 x1 y0 y1 u v):Iu (aY S T U R O) (aZ S x7 T U R O) u v (wL S x7 T U R O x0 x1 y0 y1):=by
 have k:=yJ S x7 T U R O (vW _ _ _ _ _ _ (vW _ _ _ _ _ _ (M5 S x7 T U R O x0 x1 y0 y1) (λv y hh=>.inr ⟨.inl rfl,y,hh⟩)) (λv y hh=>.inr ⟨.inr (.inl rfl),y,hh⟩)) T (Dm _);rcases h with ⟨hu,y⟩|⟨hu,y,hb⟩
 ·exact Iu.le (Iu.le (Iu.le (abb _ _ _ _ _ _ hu y) (uy ..)) (uy ..)) k.2.1
 ·rcases hu with h|h|⟨j,hj,a,e⟩
  ·subst h;exact Iu.le (Iu.le (CK _ _ _ _ _ _ y hb) (uy ..)) k.2.1
  ·subst h;exact Iu.le (CK _ _ _ _ _ _ y hb) k.2.1
  ·subst e;exact k.2.2 j hj a v y hb
end
theorem vh {f:Nat->Int} {t:Int} {n:Nat} (hm:∀ a b,a<b->b<n->f a<f b):∀ d i j:Nat,j-i<=d->i<=j->j<=n->(∀ a,a<i->f a<t)->(∀ a,j<=a->a<n->t<=f a) ->
 (B7 f t d i j<=n/\∀a,a<n->(f a<t↔a<B7 f t d i j))
 |0,i,j,hd,wF,hj,N,Q=>by
   have:i=j:=by omega
   subst this;refine⟨hj,λa ha=>⟨λh=>?_,λh=>N a h⟩⟩;have e:B7 f t 0 i i=i:=rfl;rw[e];rcases M3 a i with X1|X1
   ·exact X1
   ·have:=Q a X1 ha;omega
 |d+1,i,j,hd,wF,hj,N,Q=>by
   unfold B7;cases hb:Nat.blt i j with
   |false=>
     have hn:¬i<j:=λh=>by rw[Nat.blt_eq.mpr h]at hb;cases hb
     have:i=j:=by omega
     subst this;refine⟨hj,λa ha=>⟨λh=>?_,λh=>N a h⟩⟩;show a<i;rcases M3 a i with X1|X1
     ·exact X1
     ·have:=Q a X1 ha;omega
   |true=>
     have XD:i<j:=Nat.blt_eq.mp hb;show(bif decide (f ((i+j) / 2)<t) then B7 f t d ((i+j) / 2+1) j else B7 f t d i ((i+j) / 2))<=n/\∀a,a<n->(f a<t↔a<(bif decide (f ((i+j) / 2)<t) then B7 f t d ((i+j) / 2+1) j else B7 f t d i ((i+j) / 2)));by_cases hc:f ((i+j) / 2)<t
     ·rw [Cg hc]
      refine vh hm d _ j I I hj (λa ha=>?_) Q;rcases M3 a ((i+j) / 2) with X1|X1
      ·have:=hm a _ X1 I;omega
      ·have:a=(i+j) / 2:=by omega
       subst this;exact hc
     ·rw [fB hc]
      refine vh hm d i _ I I I N (λa ha hn=>?_);rcases M3 ((i+j) / 2) a with X1|X1
      ·have:=hm _ a X1 hn;omega
      ·have:a=(i+j) / 2:=by omega
       subst this;omega
theorem Oh {n:Nat} {f:Nat->Int} (h:∀ i,i+1<n->f i<f (i+1)):∀ a b,a<b->b<n->f a<f b
 |a,0,ak,_=>absurd ak (Ln a)
 |a,b+1,ak,hb=>by
   have N:=h b hb;rcases Nat.lt_succ_iff_lt_or_eq.1 ak with X1|X1
   ·have:=Oh h a b X1 I;omega
   ·subst X1;exact N
section
variable {n:Nat} {f:bl} {X9:Int} (u:fO n f) (hn:2<=n/\n<=12) (hH:1<=X9/\X9<=30000)
include u hn hH
theorem fX (i:Nat) (hi:i<n):E (aE (f i)*X9)=aE (f i)*X9/\-150000000<=aE (f i)*X9/\aE (f i)*X9<=150000000:=by have _:=hn;have r:=u.r i hi;have N:aE (f i)*X9<=5000*X9:=H9 r.2 I;have Q:(-5000)*X9<=aE (f i)*X9:=H9 r.1 I;exact⟨C4 I I,I,I⟩
theorem Xl (i:Nat) (hi:i+1<n):E (aE (f i)*X9)<E (aE (f (i+1))*X9):=by rw[(fX u hn hH i I).1,(fX u hn hH (i+1) hi).1];exact Int.mul_lt_mul_of_pos_right (u.u i hi) I
end
section
variable {n:Nat} {f:bl} {m:Nat} {g:bl} {w:bl} {X9:Int} (hu:fO n f) (y:fO m g) (hn:2<=n/\n<=12) (hm:2<=m/\m<=12) (hH:1<=X9/\X9<=30000)
include hu y hn hm hH
end
theorem yR (a b c d h:Int):eR a b c d h=q9 a b c d h:=by unfold eR q9;rw[nY];rw[show(HC 4 λi=>bh (aE (A M (bE [D a,D b,D c,D d] 0 1) i)) (-200000) 200000)=((((true&&eS a)&&eS b)&&eS c)&&eS d) from rfl,show aB h 1 30000=bh h 1 30000 from rfl];generalize eS a=p;generalize eS b=X1;generalize eS c=r;generalize eS d=s;cases p<;>cases X1<;>cases r<;>cases s<;>rfl
theorem R3 {b:Bool} {z:Int} (h:(bif !!b then z else 7)=0):b=true/\z=0:=by
 cases b with
 |true=>exact⟨rfl,h⟩|false=>cases h
theorem ZB {a b c d h:Int} (e:q9 a b c d h=0):(1<=h/\h<=30000)/\(-200000<=a/\a<=200000)/\(-200000<=b/\b<=200000)/\(-200000<=c/\c<=200000)/\(-200000<=d/\d<=200000):=by unfold q9 at e;obtain⟨N,e⟩:=R3 e;obtain⟨Q,e⟩:=R3 e;obtain⟨h3,e⟩:=R3 e;obtain⟨h4,e⟩:=R3 e;obtain⟨h5,_⟩:=hZ e aA;exact⟨qR N,qR Q,qR h3,qR h4,qR (Hn h5)⟩
theorem Yn {H:Nat} {G:bl} {q:Nat} {W:bl} {x4:Int} (h:bR H G q W x4=0) :
 (bN H (A au G) q (A ao W)!=0)=false/\(!aB x4 0 (E ((q:Int)-1)))=false:=by
 unfold bR at h;cases e:(bN H (A au G) q (A ao W)!=0) with
 |true=>rw[e]at h;have h:bN H (A au G) q (A ao W)=0:=h;rw[h]at e;cases e
 |false=>
   rw[e]at h;cases hh:(!aB x4 0 (E ((q:Int)-1))) with
   |true=>rw[hh]at h;cases h|false=>exact⟨rfl,rfl⟩
theorem e9 (ts:List Ty) (f:bl):A ts (A ts f)=A ts f:=funext λi=>ea ts (f i)
end
noncomputable section
def akS (cx cy h vx vy dx dy:Int):Prop:=(-100000<=cx/\cx<=100000)/\(-100000<=cy/\cy<=100000)/\(1<=h/\h<=200)/\(-100000<=vx/\vx<=100000)/\(-100000<=vy/\vy<=100000)/\Hd dx dy
theorem agG:de=l7:=rfl
theorem Wg:c9=iz:=rfl
section
variable {cx cy h vx vy dx dy:Int} (o:akS cx cy h vx vy dx dy)
include o
end
end
noncomputable section
def ow (p:Nat->Bool) (v:Nat->Int):Nat->Int
 |0=>0|k+1=>bif p k then E (ow p v k+v k) else ow p v k
theorem hxx {p:Nat->Bool} {v:Nat->Int} {k:Nat} (h:p k=true):ow p v (k+1)=E (ow p v k+v k):=by show(bif p k then _ else _)=_;rw[h];rfl
theorem LL {p:Nat->Bool} {v:Nat->Int} {k:Nat} (h:p k=false):ow p v (k+1)=ow p v k:=by show(bif p k then _ else _)=_;rw[h];rfl
def Fg (i:Nat):Bool:=decide (0<=aE (X0 i))
end
noncomputable section
def ckV:Int:=eF H (A au G) q (A ao W) x4 Z (A ap S) n7 (A AV f7) T (A ar U) R (A al O) X2 (A M X0) XB (A cr X7)
def viE (e vx vy dx dy:Int):Int:=bif e==0 then bif !(GR vx&&GR vy) then 7 else bif !hle dx dy then 2 else 0 else e
theorem JA {x:Int} (h:(x !=0)=true):x≠0:=by simpa using h
end
noncomputable section
def Pm:bo:=(37,.inl O0 u0)::(19,.con WS)::Nz
theorem NN:aX Tryz.prog BD CJ Pm:=ij Tryz.func37 BF (.con ia2 (Lx))
def WN:RT Empty:=dm (H,G,q,W,x4,Z,S,n7,f7,T,U,R,O,X2,X0,XB,X7,Ud,YL,XN,Y8,Y9) (.cb (.cb (.ret (V.tup [D (E (lO (E (YB-XL)) (E (YF-XL))+lO (E (YE-XM)) (E (X5-XM)))),D (E (mq (E (YB-XL)) (E (YF-XL))+mq (E (YE-XM)) (E (X5-XM))))]))))
theorem fa1:eJ eL (bu JJ Pm u0 KV [V.agg [V.sl H (A au G),V.sl q (A ao W),D x4,V.sl Z (A ap S),V.sl n7 (A AV f7),V.sl T (A ar U),V.sl R (A al O),V.sl X2 (A M X0),V.sl XB (A cr X7),D Ud,V.str YL,D XL,D XM,D XN,D Y8,D Y9],V.agg [D YB,D YE,D YF,D X5]]) (WN H G q W x4 Z S n7 f7 T U R O X2 X0 XB X7 Ud YL XL XM XN Y8 Y9 YB YE YF X5):=cD
def F4:Int:=E (lO (E (YB-XL)) (E (YF-XL))+lO (E (YE-XM)) (E (X5-XM)))
def FE:Int:=E (mq (E (YB-XL)) (E (YF-XL))+mq (E (YE-XM)) (E (X5-XM)))
def Jm:V:=dm (H,G,q,W,x4,Z,S,n7,f7,T,U,R,O,X2,X0,XB,X7,Ud,YL,XN,Y8,Y9) (.tup [D (F4 XL XM YB YE YF X5),D (FE XL XM YB YE YF X5)])
theorem abD:bj em (WN H G q W x4 Z S n7 f7 T U R O X2 X0 XB X7 Ud YL XL XM XN Y8 Y9 YB YE YF X5) (Jm H G q W x4 Z S n7 f7 T U R O X2 X0 XB X7 Ud YL XL XM XN Y8 Y9 YB YE YF X5):=aG (AY (aG (AY (Br (by unfold Jm F4 FE;rfl)))))
def Uz:aH:=cG [.agg [.sl au,.sl ao,tI,.sl ap,.sl AV,.sl ar,.sl al,.sl M,.sl cr,tI,.str,tI,tI,tI,tI,tI],.agg lS] (λ_=>True) λ|[.agg [.sl H G,.sl q W,.int _ x4,.sl Z S,.sl n7 f7,.sl T U,.sl R O,.sl X2 X0,.sl XB X7,.int _ Ud,.str YL,.int _ XL,.int _ XM,.int _ XN,.int _ Y8,.int _ Y9],.agg [.int _ YB,.int _ YE,.int _ YF,.int _ X5]]=>Jm H G q W x4 Z S n7 f7 T U R O X2 X0 XB X7 Ud YL XL XM XN Y8 Y9 YB YE YF X5|_=>.any
theorem abt:dL Uz 58:=bH NN λ_ hp=>fb (fa1 ..) (abD _ _ _ _ _ _ _ _ _ _ _ _ _ _ _ _ _ _ _ _ _ _ _ _ _ _ _ _)
def nf1:Int:=bif x0 !=x2 then E (x0-x2) else E (x1-x3)
end
end Go.Dx
namespace Go.Dx
open Go.IntKind (i64 u64 u8)
open Go.Sx
noncomputable section
theorem parts {x:Int} (h0:0<=x) (N:x<18446744073709551616):0<=x / 4294967296/\x / 4294967296<=4294967295/\0<=x % 4294967296/\x % 4294967296<=4294967295:=by omega
end
noncomputable section
theorem uA {n d X1 r:Int} (hd:0<d) (h:n=d*X1+r) (N:0<=r) (Q:r<d):n / d=X1:=by rw[h,Int.add_comm,Int.add_mul_ediv_left _ _ I,Int.ediv_eq_zero_of_lt N Q];omega
theorem kK {n d B:Int} (hd:0<d) (N:-B<=n) (Q:n<=B):-B<=n / d/\n / d<=B:=by
 constructor
 ·have:-B<=n / d↔-B*d<=n:=Int.le_ediv_iff_mul_le hd
  rw[this];by_cases hB:0<=B
  ·have:B*1<=B*d:=Dw I hB;have e:-B*d=-(B*d):=Int.neg_mul _ _;omega
  ·omega
 ·have hB:0<=B:=by omega
  have:n / d<B+1↔n<(B+1)*d:=Int.ediv_lt_iff_lt_mul hd;have h3:(B+1)*1<=(B+1)*d:=Dw I I;have:=this.2 I;omega
section
variable {n d:Int} (hd:0<d) (ZH:d<=1000000000) (N:-1000000000000<=n) (Q:n<=1000000000000)
include n d hd ZH N Q
theorem Nl:qK n d=n / d:=by
 have hb:=kK hd N Q;unfold qK;by_cases hn:n<0
 ·rw[Cg hn,cond_true,C4 (x:=d-1) I I,C4 (x:=d-1-n) I I,MI I];have e:=Q2 n d;have r1:=PQ n (by omega:d≠0);have r2:=P7 n hd;have:(d-1-n) / d=-(n / d):=uA (r:=d-1-n % d) hd (by have:d*-(n / d)=-(d*(n / d)):=Int.mul_neg _ _;omega) I I;rw[this,C4 (x:=-(n / d)) I I,C4 I I];omega
 ·rw[fB hn,cond_false,MI I,C4 I I]
theorem rM:DY n d=n / d:=by
 have hb:=kK hd N Q;unfold DY;by_cases hn:n<0
 ·rw [Cg hn,cond_true]
  have e:=Q2 n d;have r1:=PQ n (by omega:d≠0);have r2:=P7 n hd;have ht:n.tdiv d=-((-n) / d):=by
   have:n=-(-n):=by omega
   rw[this,Int.neg_tdiv,MI I];simp
  have hm:n.tmod d=n-d*n.tdiv d:=Int.tmod_def n d;by_cases hr:n % d=0
  ·have hq:(-n) / d=-(n / d):=uA (r:=0) hd (by have:d*-(n / d)=-(d*(n / d)):=Int.mul_neg _ _;omega) I I
   have rN:n.tdiv d=n / d:=by rw[ht,hq];omega
   have qF:n.tmod d=0:=by rw[hm,rN];omega
   rw[qF,rN];exact C4 I I
  ·have h0:d*(-(n / d)-1)=-(d*(n / d))-d:=by rw[Int.mul_sub,Int.mul_neg];omega
   have hq:(-n) / d=-(n / d)-1:=uA (r:=d-n % d) hd I I I;have rN:n.tdiv d=n / d+1:=by rw[ht,hq];omega
   have qF:(n.tmod d !=0)=true:=by rw[bne_iff_ne,hm,rN,Int.mul_add];omega
   rw[qF,rN,cond_true];have YX:n / d<0:=by have:=kK (n:=n) hd N Q;rw[Int.ediv_lt_iff_lt_mul hd];omega
   rw[C4 (x:=n / d+1) I I,C4 I I];omega
 ·rw[fB hn,cond_false,cond_false,MI I,C4 I I]
end
theorem mF {x p XU B:Int} (N:-XU<=x) (Q:x<=XU) (h3:0<=p) (h4:p<=B):-(XU*B)<=x*p/\x*p<=XU*B:=by
 have hA:0<=XU:=by omega
 have a1:x*p<=XU*p:=H9 Q h3;have a2:XU*p<=XU*B:=Dw h4 hA;have a3:-XU*p<=x*p:=H9 N h3;rw[Int.neg_mul]at a3;exact⟨I,I⟩
theorem Gk {a b p X1:Int} (ha:-100000<=a/\a<=100000) (hb:-100000<=b/\b<=100000) (hp:0<=p/\p<=1000) (hq:0<=X1/\X1<=1000):Ku a b p X1=sS a b p X1/\Ky a b p X1=sU a b p X1:=by
 have m1:=mF (x:=b-a) (XU:=200000) I I hp.1 hp.2;have m2:=mF (x:=b-a) (XU:=200000) I I hq.1 hq.2;unfold Ku sS Ky sU
 rw [C4 (x:=1000*a) I I,C4 (x:=b-a) I I,C4 (x:=(b-a)*p) I I,C4 (x:=(b-a)*X1) I I,
  C4 (x:=1000*a+(b-a)*p) I I,C4 (x:=1000*a+(b-a)*X1) I I]
 generalize (b-a)*p=x at *
 generalize (b-a)*X1=At at *
 rw[C4 (x:=0-max (1000*a+x) (1000*a+At)) I I];rw[Nl I I I I,rM I I I I,Nl I I I I,rM I I I I];exact⟨rfl,rfl⟩
theorem tV {a l h:Int} (hf:jZ a l h=true):l<=a/\a<=h:=by
 unfold jZ at hf;by_cases N:l<=a
 ·rw[Cg N,cond_true]at hf;exact⟨N,HT hf⟩
 ·rw[fB N]at hf;cases hf
theorem ya {l:List V} (h:s9 l=false):0<=aE l/\aE l<aW l/\aW l<=1000:=by unfold s9 at h;simp only[PI]at h;refine⟨?_,?_,?_⟩<;>(apply Classical.byContradiction;intro hn)<;>simp_all<;>omega
theorem pX {f4:bl} {i:Nat} (h:cF f4 i=0) :
 (∀x,x∈[aE (f4 i),aW (f4 i),bZ (f4 i),cU (f4 i)]->-100000<=x/\x<=100000)/\aL (aI (L (L (L (L (f4 i))))))<=6/\∀j,j<aL (aI (L (L (L (L (f4 i))))))->s9 (aw lS (b7 (aI (L (L (L (L (f4 i)))))) j))=false:=by
 unfold cF RN at h;generalize aE (f4 i)=a at h ⊢;generalize aW (f4 i)=b at h ⊢;generalize bZ (f4 i)=c at h ⊢;generalize cU (f4 i)=d at h ⊢;generalize aL (aI (L (L (L (L (f4 i))))))=n at h ⊢;generalize aI (L (L (L (L (f4 i)))))=w at h ⊢;cases hp:WG 4 (A M (bE [V.int .i64 a,V.int .i64 b,V.int .i64 c,V.int .i64 d] 0 1)) with
 |false=>rw[hp]at h;cases h
 |true=>
   rw[hp,Mq,cond_false]at h;cases he:(a==c&&(b==d&&true)) with
   |true=>rw[he]at h;cases h
   |false=>
     rw[he,cond_false]at h;by_cases hn:6<(n:Int)
     ·rw[Cg hn]at h;cases h
     ·rw [fB hn,cond_false]at h
      cases hw:lq n (λj=>s9 (aw lS (b7 w j))) with
      |true=>rw[hw]at h;cases h
      |false=>
        unfold WG at hp;have h0:=tV (dh hp 0 I);have N:=tV (dh hp 1 I);have Q:=tV (dh hp 2 I);have h3:=tV (dh hp 3 I);refine⟨λx hx=>?_,I,λj hj=>?_⟩
        ·simp only[L8,Mx,or_false]at hx
         rcases hx with rfl|rfl|rfl|rfl
         ·exact h0
         ·exact N
         ·exact Q
         ·exact h3
        ·cases hb:s9 (aw lS (b7 w j)) with|false=>rfl|true=>rw[e7 j hj hb]at hw;cases hw
section
variable {e1 e2:Int} {bd:Bool} (h:e1=0->e2=(bif bd then 4 else 0))
include e1 e2 bd h
theorem H6 {z v v':Int} (y:e1=0->bd=false->v=v') :
 (bif e1==0 then bif e2 !=0 then z else v else bif e1 !=0 then z else v)=(bif bif e1==0 then bd else false then z else bif e1 !=0 then z else v'):=by
 by_cases he:e1=0
 ·rw[h he];subst he
  cases bd with
  |true=>rfl|false=>exact y rfl rfl
 ·have N:(e1==0)=false:=by simpa using he
  have Q:(e1 !=0)=true:=by simpa using he
  rw[N,Q];rfl
theorem adS :
 (bif e1==0 then bif e2 !=0 then e2 else 0 else bif e1 !=0 then e1 else 0)=(bif bif e1==0 then bd else false then 4 else bif e1 !=0 then e1 else 0):=by
 by_cases he:e1=0
 ·rw[h he];subst he;cases bd<;>rfl
 ·have N:(e1==0)=false:=by simpa using he
  have Q:(e1 !=0)=true:=by simpa using he
  rw[N,Q];rfl
end
theorem qy {e i m:Int} (h:Lc e i m=0):e=0/\0<=i/\i<m:=by
 unfold Lc at h;cases he:e==0 with
 |false=>rw[he,cond_false]at h;rw[h]at he;cases he
 |true=>
   rw[he,cond_true]at h;refine⟨Jh he,?_⟩;unfold mo at h;by_cases N:i<0
   ·rw[Cg N]at h;cases h
   ·rw[fB N,cond_false]at h
    by_cases Q:m<=i
    ·rw[Cg Q]at h;cases h
    ·omega
theorem pF {i m:Int} (h:mo i m=false):0<=i/\i<m:=by
 unfold mo at h;by_cases N:i<0
 ·rw[Cg N]at h;cases h
 ·rw[fB N,cond_false]at h;have:=Hv h;omega
section
variable {H:Nat} {G:bl} {q:Nat} {W:bl} {n4:Nat} {f4:bl} {n6:Nat} {f6:bl}
theorem gQ (x8 x9:Int):aM H G q W n4 f4 n6 f6 x8 x9=kg H G q W n4 f4 n6 f6 x8 x9/\aP H G q W n4 f4 n6 f6 x8 x9=jQ H G q W n4 f4 n6 f6 x8 x9/\aN H G q W n4 f4 n6 f6 x8 x9=jM H G q W n4 f4 n6 f6 x8 x9/\aO H G q W n4 f4 n6 f6 x8 x9=j9 H G q W n4 f4 n6 f6 x8 x9
 /\ ew H G q W n4 f4 n6 f6 x8 x9=ky H G q W n4 f4 n6 f6 x8 x9/\eC H G q W n4 f4 n6 f6 x8 x9=kD H G q W n4 f4 n6 f6 x8 x9/\kI H G q W n4 f4 n6 f6 x8 x9=oA H G q W n4 f4 n6 f6 x8 x9:=by
 have hc:=Tg (H:=H) (G:=G) (q:=q) (W:=W) (n4:=n4) (f4:=f4) (n6:=n6) (f6:=f6) (i:=x8) (m:=n4) (λh=>by have:=(s7 h).l4;omega);have hd:=BX (H:=H) (G:=G) (q:=q) (W:=W) (n4:=n4) (f4:=f4) (n6:=n6) (f6:=f6) (i:=x8) (m:=n4);have Yu:Lc (gq H (A ap G) q (A AV W) n4 (A ar f4) n6 (A al f6)) x8 n4=0->gq H (A ap G) q (A AV W) n4 (A ar f4) n6 (A al f6)=0/\cF f4 x8.toNat=0:=λh=>by obtain⟨N,Q,h3⟩:=qy h;exact⟨N,(s7 N).fr x8.toNat I⟩
 have he:Lc (gq H (A ap G) q (A AV W) n4 (A ar f4) n6 (A al f6)) x8 n4=0->kn H (A ap G) q (A AV W) n4 (A ar f4) n6 (A al f6) 2 (A M (bE [D x9,D (aL (aI (L (L (L (L (f4 x8.toNat)))))))] 0 1))=(bif mo x9 (aL (aI (L (L (L (L (f4 x8.toNat))))))) then 4 else 0):=λh=>by obtain⟨N,Q⟩:=Yu h;have:=(pX Q).2.1;rw[Tg (λ_=>by omega),N];rfl
 have y:Lc (gq H (A ap G) q (A AV W) n4 (A ar f4) n6 (A al f6)) x8 n4=0->mo x9 (aL (aI (L (L (L (L (f4 x8.toNat)))))))=false ->
  (∀x,x∈[aE (f4 x8.toNat),aW (f4 x8.toNat),bZ (f4 x8.toNat),cU (f4 x8.toNat)]->-100000<=x/\x<=100000)/\s9 (b7 (aI (L (L (L (L (f4 x8.toNat)))))) x9.toNat)=false:=λh hb=>by
  obtain⟨N,Q⟩:=Yu h;obtain⟨g1,g2,g3⟩:=pX Q;obtain⟨k1,k2⟩:=pF hb;exact⟨g1,g3 x9.toNat I⟩
 unfold aM aP aN aO ew eC kI kg jQ jM j9 ky kD oA;rw[hc,hd];refine⟨H6 he λa b=>?_,H6 he λa b=>?_,H6 he λa b=>?_,H6 he λa b=>?_,H6 he λ_ _=>rfl,H6 he λ_ _=>rfl,adS he⟩ <;>
 ·obtain⟨g1,g2⟩:=y a b
  have w:=ya g2;have s1:=Gk (g1 (aE (f4 x8.toNat)) aD) (g1 (bZ (f4 x8.toNat)) aD) (p:=aE (b7 (aI (L (L (L (L (f4 x8.toNat)))))) x9.toNat)) (X1:=aW (b7 (aI (L (L (L (L (f4 x8.toNat)))))) x9.toNat)) I I;have s2:=Gk (g1 (aW (f4 x8.toNat)) aD) (g1 (cU (f4 x8.toNat)) aD) (p:=aE (b7 (aI (L (L (L (L (f4 x8.toNat)))))) x9.toNat)) (X1:=aW (b7 (aI (L (L (L (L (f4 x8.toNat)))))) x9.toNat)) I I
  first|exact s1.1|exact s2.1|exact s1.2|exact s2.2
end
end
end Go.Dx
namespace Go.Dx
noncomputable section
def q2 (x At:Int):Int:=x*x+At*At
def wil (m64 x22 bx b2 px py k r n m:Int):Prop:=0<=n/\n<=m/\0<m/\q2 (m*px-k*((m-n)*m64+n*bx)) (m*py-k*((m-n)*x22+n*b2))<=(m*k*r)*(m*k*r)
abbrev wnW:=Int×Int
end
end Go.Dx
namespace Go.Dx
open Go.IntKind (i64 u64 u8)
open Go.Sx Go.Proofs
noncomputable section
attribute [local irreducible] na1 xD nf1
end
noncomputable section
attribute [local irreducible] s18 abE
end
noncomputable section
attribute [local irreducible] kn eU xe
end
variable (H:Nat) (G:bl) (x0 x1:Int) (q:Nat) (W:bl) (x2 x3 x4:Int) (Z:Nat) (S:bl) (x5 x6:Int) (n7:Nat) (f7:bl) (x7:Int) (T:Nat) (U:bl) (R:Nat) (O:bl) (X2:Nat) (X0:bl) (XB:Nat) (X7:bl) (Ud XK:Int) (YL:ByteArray) (XL XM XN Y8 Y9 YB YE YF X5 X6 XO:Int)
noncomputable section
def aje (ts:List Ty) (raw:List V) (r:V):aH:=cG ts (λds=>ds=ka ts (aw ts raw)) λ_=>r
theorem hpl {P:Program} {BD:List TypeId} {CJ:List gX} {ct:bo} {f:FuncId} {fn:Func} {sf:aU} {un:kZ} {ts:List Ty} {raw:List V} {r:V} (hT:aX P BD CJ ct) (hE:∀ t∈BD,dc P t) (hI:kG P BD CJ) (hf:P.funcs[f]? = some fn)
 (hn : (fn.name == "runtime.NumGoroutine") = false) (hc : ek P BD CJ fn = some sf) (hd : fN sf.ntmps sf.body = true) (ho : ge ts = true)
 (h:pi r (bu JJ ct un sf (ka ts (aw ts raw)))=bu JJ ct un sf (ka ts (aw ts raw))):(vP (Df [(aw ts raw,r)])).Ok P f :=
 yM (C:=aje ts raw r) (Dd (J:=JJ) (un:=un) hT hE hI hf hn hc hd ho λw0 ds hp=>by rw[hp];exact B5 h) _ (QK (Qu rfl rfl) Qj)
theorem aaT {ts:List Ty} {pre:List V->Prop} {preB:List V->Bool} {r:List V->V} (h:∀ ds,preB ds=true->pre ds) {ds:List V} {d p r'} (hc:Kt ts preB r ds=some (d,p,r')):∃ X1,cG ts pre r ds=some (d,X1,r')/\X1:=by
 unfold Kt at hc;cases hb:preB (ka ts ds) with
 |false=>rw[hb]at hc;cases hc
 |true=>rw[hb]at hc;simp only[cond_true,H2,Prod.mk.injEq]at hc;obtain⟨rfl,rfl,rfl⟩:=hc;exact⟨_,rfl,h _ hb⟩
theorem ajM {P:Program} {f:FuncId} {ts:List Ty} {pre:List V->Prop} {preB:List V->Bool} {r:List V->V} (h:∀ds,preB ds=true->pre ds) (hO:(vZ (cG ts pre r)).Ok P f):(vZ (Kt ts preB r)).Ok P f:=by refine⟨λB m lh w args vs K hrel hargs ⟨ds,d,p,r',X,N,hX,Q,h3,h5,h6⟩=>?_,λ_ _ _ _ _ hk ⟨ds,d,p,r,X,N,Q,h3,h4,h5,h6⟩=>⟨ds,d,p,r,X,N,Q,h3,h4,h5,λx new hx=>hk _ _ (h6 x new hx)⟩,λ_ _ _ _ ⟨_,_,_,_,_,_,_,_,_,⟨x,new,hx⟩,h6⟩=>h6 x new hx⟩;obtain⟨X1,e,hq⟩:=aaT h Q;exact hO.sound B m lh w args vs K hrel hargs ⟨ds,d,X1,r',X,N,hX,e,⟨h3.1,hq⟩,h5,h6⟩
def DK:List V->Bool
 |[.agg [.str _,.sl n1 _,.sl n3 _,.sl _ _,.int _ _,.int _ _],.int _ _]=>Nat.ble n1 1000&&Nat.ble n3 1000|_=>false
theorem ab9 (ds:List V) (h:DK ds=true):Uo ds:=by
 unfold DK at h;split at h
 ·simp only[DD]at h;exact⟨HS h.1,HS h.2⟩
 ·cases h
def Dz:aH:=Kt yT DK L9
theorem dqt:(vZ Dz).Ok Tryz.prog 49:=ajM ab9 Oj
theorem aie:∀ds d p r,Dz ds=some (d,p,r)->d.1=d.2->p->∀w0 lh args,bp w0 lh Nu.nil ds args->∃x new,vr w0 (lh++new) Nu.nil r x:=λds d p r h N _=>by obtain⟨X1,e,hq⟩:=aaT ab9 h;exact GM ds d X1 r e N hq
def eo (XU B:aH):aH:=Pe (λds=>(XU ds).isSome) XU B
theorem bA {P:Program} {f:FuncId} {XU B:aH} (hA:(vP XU).Ok P f) (hB:(vP B).Ok P f):(vP (eo XU B)).Ok P f:=DJ _ _ _ hA hB
theorem cZ {ct:bo} {f:FuncId} {fn:Func} {sf:aU} {ts:List Ty} {raw:List V} {r:V} (hT:aX Tryz.prog BD CJ ct) (hf:Tryz.prog.funcs[f]? = some fn) (hk:PW fn sf ts=(false,some sf,true,true)) (h:pi r (bu JJ ct uB sf (ka ts (aw ts raw)))=bu JJ ct uB sf (ka ts (aw ts raw))):(vP (Df [(aw ts raw,r)])).Ok Tryz.prog f:=hpl hT hE hI hf (eP hk).1 (eP hk).2.1 (eP hk).2.2.1 (eP hk).2.2.2 h
def Lm:bo:=Pm
theorem hkw:aX Tryz.prog BD CJ Lm:=NN
def adM:V:=.sl 2 λ|0=>[D 0]|_=>[D 100]
def afs:V:=.sl 2 λ|0=>[D 100]|_=>[D 300]
def aei:V:=.sl 2 λ|0=>[D 200]|_=>[D 600]
def Vq:V:=.sl 2 λ|0=>[D 700]|_=>[D 700]
def Lr:V:=.str ⟨#[97,115,112,104,97,108,116]⟩
def OF:V:=.sl 2 λ|0=>[D (-1000)]|_=>[D 1000]
def xA:V:=.sl 2 λ|0=>[D (-5000)]|_=>[D 5000]
def FJ:V:=.sl 2 λ|0=>[D (-8000000)]|_=>[D 8000000]
def ah9:V:=.sl 1 λ_=>P6
def Ak:V:=.sl 2 λ|0=>[D (-40000000)]|_=>[D 40000000]
def Dt:V:=.sl 3 λ|0=>[D (-1000)]|1=>[D 0]|_=>[D 2000]
def wc:V:=.sl 3 λ|0=>[D (-8000000)]|1=>[D 0]|_=>[D 16000000]
def yw:V:=.agg [D (-4000),D (-4000),D 0,D 0]
def yn:V:=.agg [D (-4000),D 0,D (-4000),D 0]
def xV:V:=.agg [D (-4000),D 4000,D 0,D 8000]
def zj:V:=.agg [D (-4000),D 0,D 4000,D 8000]
def CZ:V:=.agg [.str ⟨#[99]⟩,D 0,D 0,D 80,D 0,D 1]
def OB:V:=.sl 1 λ_=>[.str ⟨#[99]⟩,D 0,D 0,D 80,D 0,D 1]
def Cu:V:=.sl 2 λ|0=>[Vq]|_=>[Vq]
def aaS:V:=.sl 3 λ|0=>JK|1=>[D 10000,D 0]|_=>[D 10000,D 10000]
def Dq:V:=.sl 3 λ|0=>[afs]|1=>[aei]|_=>[adM]
def NO:V:=.sl 1 λ_=>[.str ⟨#[104,105,103,104]⟩,D 0,aaS,D 4000]
def tZ:V:=.sl 1 λ_=>[.str ⟨#[104,101,97,100]⟩,D 0,D 1,D 8000,D 60000,D 500,D 50,D 2,D 4,D 3,D 5,D 100000,D 200,D 0]
def Di:V:=.agg [NO,.sl 0 λ_=>[],.sl 0 λ_=>[],OB]
def JX:V:=.pd [Lr,xA,xA,Cu,D 0,D 0,Ak,Ak,D 8000]
def On:V:=.agg [Lr,xA,xA,Cu,D 0,D 0,Ak,Ak,D 8000]
def ry:V:=.pd [.str ⟨#[119,105,100,101]⟩,Dt,OF,Dq,D 50,D 5,wc,FJ,D 8000]
def Mt:V:=.agg [.str ⟨#[119,105,100,101]⟩,Dt,OF,Dq,D 50,D 5,wc,FJ,D 8000]
def uM:V:=.sl 2 λ|0=>[.str ⟨#[119,105,100,101]⟩,Dt,OF,Dq,D 50,D 5]|_=>[Lr,xA,xA,Cu,D 0,D 0]
def pq:V:=.agg [uM,tZ,D 1,NO,.sl 0 λ_=>[],.sl 0 λ_=>[],OB,.sl 1 λ_=>[D 0],ah9,D 0,.str ⟨#[99]⟩,D 0,D 0,D 80,D 0,D 1]
def adK:List Ty:=[.agg ao,.agg cr]
def aeS:List Ty:=[.agg [.sl au,.sl ao,tI,.sl ap,.sl M,.sl M,.sl al,.sl M,.sl cr,tI,.str,tI,tI,tI,tI,tI]]
def Ov:List Ty:=[.agg cO,tI,tI,tI,tI]
def lB:List Ty:=[.agg cO,.sl cO]
def xg:List Ty:=[.sl M,tI]
def sB:List Ty:=[tI,.pd [.str,.sl M,.sl M,.sl [.sl M],tI,tI,.sl M,.sl M,tI],.pd M,.pd M]
def LM:List Ty:=[.agg [.sl ap,.sl M,.sl M,.sl al],tI,.agg lS]
def I6:List Ty:=[.agg al,.agg lS]
def OL:List Ty:=[.agg [.sl au,.sl ao,tI,.sl ap,.sl M,.sl M,.sl al,.sl M,.sl cr,tI,.str,tI,tI,tI,tI,tI],.agg lS,tI,tI]
def vH:List Ty:=[.agg [.str,.sl M,.sl M,.sl [.sl M],tI,tI,.sl M,.sl M,tI],tI,tI]
def zx:List Ty:=[.agg [.str,.sl M,.sl M,.sl [.sl M],tI,tI,.sl M,.sl M,tI],.agg lS]
def aaE:List Ty:=[.agg [.sl au,.sl ao],tI,.agg lS,tI]
def DC:List Ty:=[.agg [.sl au,.sl ao],tI,.agg cr,.agg lS,tI]
def Cb:List Ty:=[.agg [.sl au,.sl ao,tI,.sl ap,.sl M,.sl M,.sl al,.sl M,.sl cr,tI,.str,tI,tI,tI,tI,tI],.agg lS,tI]
def ctK:bo:=[(55,.con Jr),(82,.con MH),(78,.con agW),(79,.con RI),(83,.con JH),(120,.con Io),(85,.con NB),(51,.con KD),(52,.con yaP),(59,.con Mv),(61,.con JP),(97,.con Mh),(96,.con Mg),(119,.con Kh),(49,.conZ Dz aie),(39,.inl agn uB),(131,.inl agM uB),(122,.inl akB uB),(67,.inl TS uB),(156,.inl Wk uB),(182,.inl NY uB),(99,.inl E2 uB),(7,.inl ac9 uB),(11,.inl ab6 uB),(22,.inl Pi uB),(23,.inl LA uB),(24,.inl ie5 uB),(25,.inl krA uB),(26,.inl ac7 uB),(27,.inl aav uB),(28,.inl abf uB),(29,.inl if8 uB),(30,.inl aaq uB),(43,.inl KX uB),(34,.inl It uB),(37,.inl O0 uB),(45,.inl Ns uB),(46,.inl Mj uB),(47,.inl IM uB),(58,.inl KV uB),(60,.inl LF uB),(62,.inl Is uB),(64,.inl acg uB),(68,.inl LG uB),(69,.inl MD uB),(70,.inl Iy uB),(71,.inl NX uB),(73,.inl NP uB),(84,.inl Nv uB),(89,.inl Lg uB),(90,.inl JC uB),(94,.inl acm uB),(95,.inl C6 uB),(98,.inl ID uB),(116,.inl Ix uB),(150,.inl Lw uB),(165,.inl KC uB),(166,.inl Lj uB)]
theorem agp:aX Tryz.prog BD CJ ctK:=.con alT (.con hmx (.con ahA (.con ahk (.con O3 (.con ME (.con N4 (.con hnd (.con grR (.con ha2 (.con hat (.con hdd (.con hin (.con by1 (.conZ dqt (ij Tryz.func39 BF (ij Tryz.func131 BF (ij Tryz.func122 BF (ij Tryz.func67 BF (ij Tryz.func156 BF (ij Tryz.func182 BF (ij Tryz.func99 BF (ij Tryz.func7 BF (ij Tryz.func11 BF (ij Tryz.func22 BF (ij Tryz.func23 BF (ij Tryz.func24 BF (ij Tryz.func25 BF (ij Tryz.func26 BF (ij Tryz.func27 BF (ij Tryz.func28 BF (ij Tryz.func29 BF (ij Tryz.func30 BF (ij Tryz.func43 BF (ij Tryz.func34 BF (ij Tryz.func37 BF (ij Tryz.func45 BF (ij Tryz.func46 BF (ij Tryz.func47 BF (ij Tryz.func58 BF (ij Tryz.func60 BF (ij Tryz.func62 BF (ij Tryz.func64 BF (ij Tryz.func68 BF (ij Tryz.func69 BF (ij Tryz.func70 BF (ij Tryz.func71 BF (ij Tryz.func73 BF (ij Tryz.func84 BF (ij Tryz.func89 BF (ij Tryz.func90 BF (ij Tryz.func94 BF (ij Tryz.func95 BF (ij Tryz.func98 BF (ij Tryz.func116 BF (ij Tryz.func150 BF (ij Tryz.func165 BF (ij Tryz.func166 BF (.nil))))))))))))))))))))))))))))))))))))))))))))))))))))))))))
def U5:aH:=Df [(aw adK [.agg [.str ⟨#[104,101,97,100]⟩,D 0,D 1,D 8000,D 60000,D 500,D 50,D 2,D 4,D 3,D 5,D 100000,D 200,D 0],.agg P6],.agg [D 8000,D 8000])]
theorem aeN:(vP U5).Ok Tryz.prog 48:=cZ (sf:=OG) agp Tryz.func48 BF BF
def GQ:bo:=(48,.con U5)::ctK
theorem yap:aX Tryz.prog BD CJ GQ:=.con aeN agp
def WC:aH:=Df [(aw aeS [pq],D 8000)]
theorem aeR:(vP WC).Ok Tryz.prog 56:=cZ (sf:=Mo) yap Tryz.func56 BF BF
def Fa:bo:=(56,.con WC)::GQ
theorem ql:aX Tryz.prog BD CJ Fa:=.con aeR yap
def Ee:aH:=Df [(aw Ov [.agg [D 0,D 1],D (-4000),D 4000,D 0,D 8000],xV)]
theorem hlj:(vP Ee).Ok Tryz.prog 66:=cZ (sf:=zT) ql Tryz.func66 BF BF
def Gr:aH:=Df [(aw Ov [.agg [D 0,D 1],D 0,D 0,D 0,D 0],.agg KY)]
theorem hp':(vP Gr).Ok Tryz.prog 66:=cZ (sf:=zT) ql Tryz.func66 BF BF
def FX:aH:=Df [(aw Ov [.agg [D 0,D 1],D (-4000),D (-4000),D 0,D 0],yw)]
theorem hfn:(vP FX).Ok Tryz.prog 66:=cZ (sf:=zT) ql Tryz.func66 BF BF
def Xk:aH:=eo Ee (eo Gr (FX))
theorem ahM:(vP Xk).Ok Tryz.prog 66:=bA hlj (bA hp' (hfn))
def F7:bo:=(66,.con Xk)::Fa
theorem eD:aX Tryz.prog BD CJ F7:=.con ahM ql
abbrev KZ:=[D 300,D 300]
abbrev LZ:=[D 300,D 475]
def Fe:aH:=Df [(aw lB [.agg KZ,.sl 3 λ|0=>[D 450,D 450]|1=>[D 312,D 313]|_=>[D 475,D 475]],.agg LZ)]
theorem c64:(vP Fe).Ok Tryz.prog 87:=cZ (sf:=gW) eD Tryz.func87 BF BF
def Gg:aH:=Df [(aw lB [.agg LZ,.sl 1 λ_=>KZ],.agg LZ)]
theorem btw:(vP Gg).Ok Tryz.prog 87:=cZ (sf:=gW) eD Tryz.func87 BF BF
def E4:aH:=Df [(aw lB [.agg LZ,.sl 1 λ_=>[D 450,D 450]],.agg LZ)]
theorem bx0:(vP E4).Ok Tryz.prog 87:=cZ (sf:=gW) eD Tryz.func87 BF BF
def EJ:aH:=Df [(aw lB [.agg LZ,.sl 1 λ_=>[D 312,D 313]],.agg LZ)]
theorem alU:(vP EJ).Ok Tryz.prog 87:=cZ (sf:=gW) eD Tryz.func87 BF BF
def Fh:aH:=Df [(aw lB [.agg LZ,.sl 1 λ_=>[D 475,D 475]],.agg LZ)]
theorem hlo:(vP Fh).Ok Tryz.prog 87:=cZ (sf:=gW) eD Tryz.func87 BF BF
abbrev La:=[D 400,D 400]
def Fv:aH:=Df [(aw lB [.agg LZ,.sl 1 λ_=>La],.agg LZ)]
theorem hi3:(vP Fv).Ok Tryz.prog 87:=cZ (sf:=gW) eD Tryz.func87 BF BF
def GP:aH:=Df [(aw lB [.agg LZ,.sl 1 λ_=>[D 600,D 600]],.agg [D 300,D 600])]
theorem hol:(vP GP).Ok Tryz.prog 87:=cZ (sf:=gW) eD Tryz.func87 BF BF
def Gb:aH:=Df [(aw lB [.agg La,.sl 3 λ|0=>La|1=>La|_=>La],.agg La)]
theorem c68:(vP Gb).Ok Tryz.prog 87:=cZ (sf:=gW) eD Tryz.func87 BF BF
def EV:aH:=Df [(aw lB [.agg La,.sl 1 λ_=>La],.agg La)]
theorem hfl:(vP EV).Ok Tryz.prog 87:=cZ (sf:=gW) eD Tryz.func87 BF BF
abbrev Kf:=[D 700,D 700]
def Eb:aH:=Df [(aw lB [.agg Kf,.sl 3 λ|0=>Kf|1=>Kf|_=>Kf],.agg Kf)]
theorem alp:(vP Eb).Ok Tryz.prog 87:=cZ (sf:=gW) eD Tryz.func87 BF BF
def BE:aH:=Df [(aw lB [.agg Kf,.sl 1 λ_=>Kf],.agg Kf)]
theorem ajT:(vP BE).Ok Tryz.prog 87:=cZ (sf:=gW) eD Tryz.func87 BF BF
def A5:aH:=Df [(aw lB [.agg KZ,.sl 3 λ|0=>KZ|1=>KZ|_=>KZ],.agg KZ)]
theorem aiz:(vP A5).Ok Tryz.prog 87:=cZ (sf:=gW) eD Tryz.func87 BF BF
def AW:aH:=Df [(aw lB [.agg KZ,.sl 1 λ_=>KZ],.agg KZ)]
theorem agR:(vP AW).Ok Tryz.prog 87:=cZ (sf:=gW) eD Tryz.func87 BF BF
def UA:aH:=eo Fe (eo Gg (eo E4 (eo EJ (eo Fh (eo Fv (eo GP (eo Gb (eo EV (eo Eb (eo BE (eo A5 (AW))))))))))))
theorem afG:(vP UA).Ok Tryz.prog 87:=bA c64 (bA btw (bA bx0 (bA alU (bA hlo (bA hi3 (bA hol (bA c68 (bA hfl (bA alp (bA ajT (bA aiz (agR))))))))))))
def Et:bo:=(87,.con UA)::F7
theorem jX:aX Tryz.prog BD CJ Et:=.con afG eD
def Gj:aH:=Df [(aw xg [wc,D (-4000000)],D 0)]
theorem hi0:(vP Gj).Ok Tryz.prog 117:=cZ (sf:=pB) jX Tryz.func117 BF BF
def Ey:aH:=Df [(aw xg [FJ,D 0],D 0)]
theorem evL:(vP Ey).Ok Tryz.prog 117:=cZ (sf:=pB) jX Tryz.func117 BF BF
def F9:aH:=Df [(aw xg [FJ,D 8000000],D 0)]
theorem hrv:(vP F9).Ok Tryz.prog 117:=cZ (sf:=pB) jX Tryz.func117 BF BF
def Ed:aH:=Df [(aw xg [wc,D 4000000],D 1)]
theorem alC:(vP Ed).Ok Tryz.prog 117:=cZ (sf:=pB) jX Tryz.func117 BF BF
def Ei:aH:=Df [(aw xg [wc,D 0],D 1)]
theorem hd2:(vP Ei).Ok Tryz.prog 117:=cZ (sf:=pB) jX Tryz.func117 BF BF
def Ft:aH:=Df [(aw xg [Ak,D 0],D 0)]
theorem yaR:(vP Ft).Ok Tryz.prog 117:=cZ (sf:=pB) jX Tryz.func117 BF BF
def VZ:aH:=eo Gj (eo Ey (eo F9 (eo Ed (eo Ei (Ft)))))
theorem af7:(vP VZ).Ok Tryz.prog 117:=bA hi0 (bA evL (bA hrv (bA alC (bA hd2 (yaR)))))
def FO:bo:=(117,.con VZ)::Et
theorem gV:aX Tryz.prog BD CJ FO:=.con af7 jX
def E1:aH:=Df [(aw sB [D 0,ry,.pd [D 0],.pd [D 0]],.agg [D 200,D 200])]
theorem hnr:(vP E1).Ok Tryz.prog 118:=cZ (sf:=l8) gV Tryz.func118 BF BF
def GG:aH:=Df [(aw sB [D 1,ry,.pd [D 0],.pd [D 0]],.agg La)]
theorem hf':(vP GG).Ok Tryz.prog 118:=cZ (sf:=l8) gV Tryz.func118 BF BF
def Eg:aH:=Df [(aw sB [D 0,ry,.pd [D 0],.pd [D 8000000]],.agg KZ)]
theorem hap:(vP Eg).Ok Tryz.prog 118:=cZ (sf:=l8) gV Tryz.func118 BF BF
def D3:aH:=Df [(aw sB [D 1,ry,.pd [D 0],.pd [D 8000000]],.agg [D 600,D 600])]
theorem hgx:(vP D3).Ok Tryz.prog 118:=cZ (sf:=l8) gV Tryz.func118 BF BF
def GF:aH:=Df [(aw sB [D 2,ry,.pd [D 0],.pd [D 0]],.agg [D 50,D 50])]
theorem hcs:(vP GF).Ok Tryz.prog 118:=cZ (sf:=l8) gV Tryz.func118 BF BF
def EK:aH:=Df [(aw sB [D 2,ry,.pd [D 0],.pd [D 8000000]],.agg [D 100,D 100])]
theorem hfc:(vP EK).Ok Tryz.prog 118:=cZ (sf:=l8) gV Tryz.func118 BF BF
def G1:aH:=Df [(aw sB [D 0,JX,.pd [D 0],.pd [D 0]],.agg Kf)]
theorem hX':(vP G1).Ok Tryz.prog 118:=cZ (sf:=l8) gV Tryz.func118 BF BF
def D2:aH:=Df [(aw sB [D 1,JX,.pd [D 0],.pd [D 0]],.agg Kf)]
theorem frR:(vP D2).Ok Tryz.prog 118:=cZ (sf:=l8) gV Tryz.func118 BF BF
def Vw:aH:=eo E1 (eo GG (eo Eg (eo D3 (eo GF (eo EK (eo G1 (D2)))))))
theorem af2:(vP Vw).Ok Tryz.prog 118:=bA hnr (bA hf' (bA hap (bA hgx (bA hcs (bA hfc (bA hX' (frR)))))))
def DU:bo:=(118,.con Vw)::FO
theorem qt:aX Tryz.prog BD CJ DU:=.con af2 gV
def VM:aH:=Df [(aw LM [Di,D 0,zj],.tup JK)]
theorem aeT:(vP VM).Ok Tryz.prog 93:=cZ (sf:=Xy) qt Tryz.func93 BF BF
def U8:aH:=Df [(aw LM [Di,D 0,.agg KY],.tup JK)]
theorem afY:(vP U8).Ok Tryz.prog 93:=cZ (sf:=Xy) qt Tryz.func93 BF BF
def W3:aH:=Df [(aw LM [Di,D 0,yn],.tup JK)]
theorem agF:(vP W3).Ok Tryz.prog 93:=cZ (sf:=Xy) qt Tryz.func93 BF BF
def TF:aH:=eo VM (eo U8 (W3))
theorem k17:(vP TF).Ok Tryz.prog 93:=bA aeT (bA afY (agF))
def Vu:bo:=(93,.con TF)::DU
theorem yk:aX Tryz.prog BD CJ Vu:=.con k17 qt
def FC:aH:=Df [(aw I6 [CZ,zj],xV)]
theorem hfa:(vP FC).Ok Tryz.prog 44:=cZ (sf:=zU) yk Tryz.func44 BF BF
def Gd:aH:=Df [(aw I6 [CZ,.agg KY],.agg KY)]
theorem f13:(vP Gd).Ok Tryz.prog 44:=cZ (sf:=zU) yk Tryz.func44 BF BF
def EZ:aH:=Df [(aw I6 [CZ,yn],yw)]
theorem fc9:(vP EZ).Ok Tryz.prog 44:=cZ (sf:=zU) yk Tryz.func44 BF BF
def W5:aH:=eo FC (eo Gd (EZ))
theorem adP:(vP W5).Ok Tryz.prog 44:=bA hfa (bA f13 (fc9))
def EW:bo:=(44,.con W5)::Vu
theorem qk:aX Tryz.prog BD CJ EW:=.con adP yk
def Es:aH:=Df [(aw OL [pq,zj,D 11,D 75],.agg [D 11,D 75])]
theorem alr:(vP Es).Ok Tryz.prog 63:=cZ (sf:=CG) qk Tryz.func63 BF BF
def DW:aH:=Df [(aw OL [pq,.agg KY,D 3500,D 3500],.agg [D 3500,D 3500])]
theorem hch:(vP DW).Ok Tryz.prog 63:=cZ (sf:=CG) qk Tryz.func63 BF BF
def Gp:aH:=Df [(aw OL [pq,yn,D 26,D 27],.agg [D 26,D 27])]
theorem alS:(vP Gp).Ok Tryz.prog 63:=cZ (sf:=CG) qk Tryz.func63 BF BF
def Vp:aH:=eo Es (eo DW (Gp))
theorem adU:(vP Vp).Ok Tryz.prog 63:=bA alr (bA hch (alS))
def G6:bo:=(63,.con Vp)::EW
theorem iQ:aX Tryz.prog BD CJ G6:=.con adU qk
def FB:aH:=Df [(aw vH [Mt,D (-4000000),D 0],.agg KZ)]
theorem alK:(vP FB).Ok Tryz.prog 88:=cZ (sf:=ny) iQ Tryz.func88 BF BF
def G3:aH:=Df [(aw vH [Mt,D (-4000000),D 8000000],.agg [D 450,D 450])]
theorem alO:(vP G3).Ok Tryz.prog 88:=cZ (sf:=ny) iQ Tryz.func88 BF BF
def GO:aH:=Df [(aw vH [Mt,D 4000000,D 0],.agg [D 312,D 313])]
theorem hdr:(vP GO).Ok Tryz.prog 88:=cZ (sf:=ny) iQ Tryz.func88 BF BF
def Fo:aH:=Df [(aw vH [Mt,D 4000000,D 8000000],.agg [D 475,D 475])]
theorem hro:(vP Fo).Ok Tryz.prog 88:=cZ (sf:=ny) iQ Tryz.func88 BF BF
def ED:aH:=Df [(aw vH [Mt,D 0,D 0],.agg La)]
theorem f16:(vP ED).Ok Tryz.prog 88:=cZ (sf:=ny) iQ Tryz.func88 BF BF
def D6:aH:=Df [(aw vH [Mt,D 0,D 8000000],.agg [D 600,D 600])]
theorem yaZ:(vP D6).Ok Tryz.prog 88:=cZ (sf:=ny) iQ Tryz.func88 BF BF
def EO:aH:=Df [(aw vH [On,D 0,D 0],.agg Kf)]
theorem ybd:(vP EO).Ok Tryz.prog 88:=cZ (sf:=ny) iQ Tryz.func88 BF BF
def Xh:aH:=eo FB (eo G3 (eo GO (eo Fo (eo ED (eo D6 (EO))))))
theorem aee:(vP Xh).Ok Tryz.prog 88:=bA alK (bA alO (bA hdr (bA hro (bA f16 (bA yaZ (ybd))))))
def Fb:bo:=(88,.con Xh)::G6
theorem mV:aX Tryz.prog BD CJ Fb:=.con aee iQ
def Fq:aH:=Df [(aw zx [Mt,xV],.agg [D 300,D 600])]
theorem hc':(vP Fq).Ok Tryz.prog 50:=cZ (sf:=uK) mV Tryz.func50 BF BF
def GU:aH:=Df [(aw zx [Mt,.agg KY],.agg La)]
theorem hpa:(vP GU).Ok Tryz.prog 50:=cZ (sf:=uK) mV Tryz.func50 BF BF
def Ej:aH:=Df [(aw zx [On,.agg KY],.agg Kf)]
theorem hk1:(vP Ej).Ok Tryz.prog 50:=cZ (sf:=uK) mV Tryz.func50 BF BF
def D8:aH:=Df [(aw zx [Mt,yw],.agg KZ)]
theorem f12:(vP D8).Ok Tryz.prog 50:=cZ (sf:=uK) mV Tryz.func50 BF BF
def WY:aH:=eo Fq (eo GU (eo Ej (D8)))
theorem afD:(vP WY).Ok Tryz.prog 50:=bA hc' (bA hpa (bA hk1 (f12)))
def Ea:bo:=(50,.con WY)::Fb
theorem A3:aX Tryz.prog BD CJ Ea:=.con afD mV
def UV:aH:=Df [(aw aaE [.agg [uM,tZ],D 1,.agg KY,D 8000],.tup [.agg Kf,D 0])]
theorem ah3:(vP UV).Ok Tryz.prog 65:=cZ (sf:=abn) A3 Tryz.func65 BF BF
def En:bo:=(65,.con UV)::Ea
theorem qC:aX Tryz.prog BD CJ En:=.con ah3 A3
def EY:aH:=Df [(aw DC [.agg [uM,tZ],D 0,.agg P6,xV,D 8000],.tup [.agg [D 2400,D 4800],D 0])]
theorem hs4:(vP EY).Ok Tryz.prog 19:=cZ (sf:=yS) qC Tryz.func19 BF BF
def Ew:aH:=Df [(aw DC [.agg [uM,tZ],D 0,.agg P6,.agg KY,D 8000],.tup [.agg [D 3200,D 3200],D 0])]
theorem alH:(vP Ew).Ok Tryz.prog 19:=cZ (sf:=yS) qC Tryz.func19 BF BF
def Ep:aH:=Df [(aw DC [.agg [uM,tZ],D 0,.agg P6,yw,D 8000],.tup [.agg [D 2400,D 2400],D 0])]
theorem h3':(vP Ep).Ok Tryz.prog 19:=cZ (sf:=yS) qC Tryz.func19 BF BF
def WX:aH:=eo EY (eo Ew (Ep))
theorem afu:(vP WX).Ok Tryz.prog 19:=bA hs4 (bA alH (h3'))
def F5:bo:=(19,.con WX)::En
theorem qU:aX Tryz.prog BD CJ F5:=.con afu qC
def El:aH:=Df [(aw Cb [pq,zj,D 8000],.agg [D 2400,D 4800])]
theorem c62:(vP El).Ok Tryz.prog 57:=cZ (sf:=B9) qU Tryz.func57 BF BF
def E6:aH:=Df [(aw Cb [pq,.agg KY,D 8000],.agg [D 3200,D 3200])]
theorem alj:(vP E6).Ok Tryz.prog 57:=cZ (sf:=B9) qU Tryz.func57 BF BF
def Gm:aH:=Df [(aw Cb [pq,yn,D 8000],.agg [D 2400,D 2400])]
theorem alE:(vP Gm).Ok Tryz.prog 57:=cZ (sf:=B9) qU Tryz.func57 BF BF
def WA:aH:=eo El (eo E6 (Gm))
theorem afN:(vP WA).Ok Tryz.prog 57:=bA c62 (bA alj (alE))
def f15:bo:=(57,.con WA)::F5
theorem aij:aX Tryz.prog BD CJ f15:=.con afN qU
def W6:aH:=cG [] (λ_=>True) λ_=>.bool true
theorem ic7:(vP W6).Ok Tryz.prog 8:=Dd (J:=JJ) (un:=uB) (sf:=aa8) aij hE hI Tryz.func8 BF BF BF rfl (λw0 ds hp=>B5 BF)
def NS:bo:=Lm
theorem Jq:aX Tryz.prog BD CJ NS:=hkw
def Xg:RT Empty:=.obt (.ret (D (E (x0+E ((E (E (x1-x0)*E x2)).tdiv 255)))))
theorem alJ:eJ eL (bu JJ NS u0 abk [D x0,D x1,V.int u8 x2]) (Xg x0 x1 x2):=cD
def af:Int:=E (x0+E ((E (E (x1-x0)*E x2)).tdiv 255))
def IC:V:=D (af x0 x1 x2)
theorem aaZ:bj em (Xg x0 x1 x2) (IC x0 x1 x2):=AY (Br (by unfold IC af;rfl))
def Va:aH:=cG [tI,tI,.int .u8] (λ_=>True) λ|[.int _ x0,.int _ x1,.int _ x2]=>IC x0 x1 x2|_=>.any
theorem rdT:dL Va 9:=bH Jq λ_ hp=>fb (alJ ..) (aaZ _ _ _)
def Fz:bo:=NS
theorem JZ:aX Tryz.prog BD CJ Fz:=Jq
inductive qe where|L0 (_:Int) (_:Nat) (_:bl)
def hps:qe->bV×List AX×Option Ex
 |.L0 X8 Y7 ZY=>([(6,D X8),(5,V.gs 0 Y7),(4,V.pl 1 0),(2,V.pl 2 0),(1,D Ud)],[AX.gl 1 Y7 (A M ZY) 3,AX.cells [V.ns,V.ns,D 0,V.ns,V.ns,V.ns,V.ns,V.ns,V.ns] 35,AX.cells [V.sl H (A au G),V.sl q (A ao W),D x4,V.sl Z (A ap S),V.sl n7 (A AV f7),V.sl T (A ar U),V.sl R (A al O),V.sl X2 (A M X0),V.sl XB (A cr X7)] 35],none)
def rdL:qe->JJ
 |.L0 ..=>(0,[])
def Jb:Bj (cN JJ):=JG JJ Fz u0 aa4 [V.agg [V.sl H (A au G),V.sl q (A ao W),D x4,V.sl Z (A ap S),V.sl n7 (A AV f7),V.sl T (A ar U),V.sl R (A al O),V.sl X2 (A M X0),V.sl XB (A cr X7)],D Ud]
def Az (cx:List Cx):Lp JJ:=lc (kd (Jb H G q W x4 Z S n7 f7 T U R O X2 X0 XB X7 Ud) [])
def obs:JJ->Lp JJ
 |(0,cx)=>Az H G q W x4 Z S n7 f7 T U R O X2 X0 XB X7 Ud cx|(_,cx)=>Az H G q W x4 Z S n7 f7 T U R O X2 X0 XB X7 Ud cx
def afF:LD JJ qe:=⟨rdL,obs H G q W x4 Z S n7 f7 T U R O X2 X0 XB X7 Ud,hps H G q W x4 Z S n7 f7 T U R O X2 X0 XB X7 Ud⟩
def Cz:qe->RT qe
 |.L0 X8 Y7 ZY=>.am X2 (.br (decide (X8<(X2:Int))) (.br (X8==Ud) (.ob (dI X8 X2) (.obt (.ob (decide (Y7<=Y7/\(Y7+1)*8<=140737488355328)&&!Nat.beq 8 0) (.next [some (some 4),some (some 1),some (some 2)] (qe.L0 (E (X8+1)) (Y7+1) (dl Y7 (A M ZY) λx=>[D (aE (X0 X8.toNat))])) [⟨0,M,Y7+1,dl Y7 (A M ZY) λx=>[D (aE (X0 X8.toNat))],zo (fp rfl _ _) (Sf rfl _ rfl)⟩])))) (.obt (.ob (decide (Y7<=Y7/\(Y7+1)*8<=140737488355328)&&!Nat.beq 8 0) (.next [some (some 4),some (some 1),some (some 2)] (qe.L0 (E (X8+1)) (Y7+1) (dl Y7 (A M ZY) λx=>[D (-1)])) [⟨0,M,Y7+1,dl Y7 (A M ZY) λx=>[D (-1)],zo (fp rfl _ _) (Sf rfl _ rfl)⟩])))) (.ob (Y7.ble Y7) (.ret (V.agg [V.sl H (A au G),V.sl q (A ao W),D x4,V.sl Z (A ap S),V.sl n7 (A AV f7),V.sl T (A ar U),V.sl R (A al O),V.sl Y7 (A M ZY),V.sl XB (A cr X7)]))))
def UL:RT qe:=dm (H,G,q,W,x4,Z,S,n7,f7,T,U,R,O,X2,X0,XB,X7,Ud) (.enter [some none,some (some 1),some (some 0)] (qe.L0 0 0 (λi=>[])) [])
theorem hlt:gU Fz u0 (afF H G q W x4 Z S n7 f7 T U R O X2 X0 XB X7 Ud) (Jb H G q W x4 Z S n7 f7 T U R O X2 X0 XB X7 Ud) (UL H G q W x4 Z S n7 f7 T U R O X2 X0 XB X7 Ud) (Cz H G q W x4 Z S n7 f7 T U R O X2 X0 XB X7 Ud):=⟨cD,λs=>by cases s<;>exact cD⟩
def mM:Nat->List V:=λk=>[D (bif(k:Int)==Ud then aE (X0 k) else -1)]
def Gx:List Ty:=[.agg [.sl au,.sl ao,tI,.sl ap,.sl AV,.sl ar,.sl al,.sl M,.sl cr],tI]
def ahu:List V->Prop
 |[.agg [.sl _ _,.sl _ _,.int _ _,.sl _ _,.sl _ _,.sl _ _,.sl _ _,.sl X2 _,.sl _ _],.int _ _]=>X2<=1000|_=>False
def Uq:List V->V
 |[.agg [.sl H G,.sl q W,.int k4 x4,.sl Z S,.sl n7 f7,.sl T U,.sl R O,.sl X2 X0,.sl XB X7],.int _ Ud]=>.agg [.sl H G,.sl q W,.int k4 x4,.sl Z S,.sl n7 f7,.sl T U,.sl R O,.sl X2 (A M (mM X0 Ud)),.sl XB X7]|_=>.any
def NF:aH:=cG Gx ahu Uq
theorem aeb (sO:X2<=1000):∀ k,k<=X2->∀ f:bl,(∀ j,j<k->aw M (f j)=mM X0 Ud j)->Ev (Cz H G q W x4 Z S n7 f7 T U R O X2 X0 XB X7 Ud) (.L0 (k:Int) k f) (V.agg [V.sl H (A au G),V.sl q (A ao W),D x4,V.sl Z (A ap S),V.sl n7 (A AV f7),V.sl T (A ar U),V.sl R (A al O),V.sl X2 (A M (mM X0 Ud)),V.sl XB (A cr X7)]):=by
 refine gG λk hk ih f hf=>?_;refine Ev.of rfl (ce λ_=>?_);by_cases XD:k<X2
 ·have fg:E ((k:Int)+1)=((k+1:Nat):Int):=by rw[C4 I I];omega
  have hd:decide (0<=(k:Int)/\(k:Int)<(X2:Int))=true:=Cg I;have hs:(decide (k<=k/\(k+1)*8<=140737488355328)&&!Nat.beq 8 0)=true:=by simp only[DD];exact⟨Cg ⟨Dm _,I⟩,rfl⟩
  have key:∀ (z:Int),z=(bif(k:Int)==Ud then aE (X0 k) else -1)->∀ j,j<k+1->aw M (dl k (A M f) (λx=>[D z]) j)=mM X0 Ud j:=by
   intro z hz j hj;unfold dl;by_cases pO:j<k
   ·rw[E8 pO];show aw _ (aw _ (f j))=_;rw[ea];exact hf j pO
   ·have:j=k:=by omega
    subst this;rw[Mf (Dm _),hz];rfl
  refine iY (Cg I) (Ct (λh=>bf hd (AY (bf hs (b9 ?_)))) (λh=>AY (bf hs (b9 ?_))))
  ·rw[fg];exact ih XD _ (key _ (by rw[h];rfl))
  ·rw[fg];exact ih XD _ (key _ (by rw[h];rfl))
 ·have e:k=X2:=by omega
  subst e;refine ib (fB I) (bf (KW (Dm _)) (Br ?_));have e:=FQ (n:=k) (f:=A M f) (g:=A M (mM X0 Ud)) λi hi=>by show cA (aw _ (f i))=cA (aw _ (mM X0 Ud i));rw[hf i hi];rfl
  show ah.agg (cA _)=ah.agg (cA _);simp only[cA];rw[e]
theorem hzb (hp:X2<=1000):bj (Ev (Cz H G q W x4 Z S n7 f7 T U R O X2 X0 XB X7 Ud)) (UL H G q W x4 Z S n7 f7 T U R O X2 X0 XB X7 Ud) (V.agg [V.sl H (A au G),V.sl q (A ao W),D x4,V.sl Z (A ap S),V.sl n7 (A AV f7),V.sl T (A ar U),V.sl R (A al O),V.sl X2 (A M (mM (A M X0) Ud)),V.sl XB (A cr X7)]):=bm (aeb H G q W x4 Z S n7 f7 T U R O X2 X0 XB X7 Ud hp 0 (Ho _) _ λj hj=>absurd hj (Ln _))
section
variable (vs:List V)
include vs
theorem hb':b8 (aw cO vs):=by show b8 [V.int _ _,V.int _ _];simp only[b8,cI,MA]
theorem To:b8 (aw lS vs):=by show b8 [V.int _ _,V.int _ _,V.int _ _,V.int _ _];simp only[b8,cI,MA]
theorem aes:b8 (aw au vs):=by show b8 [V.str _,V.sl _ (A M _),V.sl _ (A M _),V.sl _ (A [Ty.sl M] _),V.int _ _,V.int _ _];simp only[b8,cI,HJ,K9,MA];exact⟨λ_ _=>gw _,λ_ _=>gw _,λ_ _=>rH _⟩
theorem ag8:b8 (aw ao vs):=by show b8 [V.str _,V.int _ _,V.int _ _,V.int _ _,V.int _ _,V.int _ _,V.int _ _,V.int _ _,V.int _ _,V.int _ _,V.int _ _,V.int _ _,V.int _ _,V.int _ _];simp only[b8,cI,HJ,K9,MA]
theorem aj6:b8 (aw ap vs):=by show b8 [V.str _,V.int _ _,V.sl _ (A cO _),V.int _ _];simp only[b8,cI,HJ,K9,MA];exact λ_ _=>hb' _
theorem ahp:b8 (aw AV vs):=by show b8 [V.int _ _,V.int _ _,V.int _ _,V.int _ _,V.int _ _];simp only[b8,cI,HJ,K9,MA]
theorem aiw:b8 (aw ar vs):=by show b8 [V.int _ _,V.int _ _,V.int _ _,V.int _ _,V.sl _ (A lS _)];simp only[b8,cI,HJ,K9,MA];exact λ_ _=>To _
theorem aid:b8 (aw al vs):=by show b8 [V.str _,V.int _ _,V.int _ _,V.int _ _,V.int _ _,V.int _ _];simp only[b8,cI,HJ,K9,MA]
theorem aiK:b8 (aw cr vs):=by show b8 [V.int _ _,V.int _ _,V.int _ _];simp only[b8,cI,HJ,K9,MA]
end
theorem age (ds:List V):cI (Uq (aw Gx ds)):=by show cI (.agg [V.sl _ (A au _),V.sl _ (A ao _),V.int _ _,V.sl _ (A ap _),V.sl _ (A AV _),V.sl _ (A ar _),V.sl _ (A al _),V.sl _ (A M _),V.sl _ (A cr _)]);simp only[cI,b8,HJ,K9];exact⟨λi hi=>aes _,λi hi=>ag8 _,λi hi=>aj6 _,λi hi=>ahp _,λi hi=>aiw _,λi hi=>aid _,λi hi=>gw _,λi hi=>aiK _⟩
theorem adQ (f:bl) (h:Int) (i:Nat):lY 1 (A M (mM f h) i)=true/\(cA (A M (mM f h) i)).all bC=true/\(A M (mM f h) i).all V.fc=true:=by refine⟨rfl,?_,rfl⟩;show(cA [D _]).all bC=true;simp only[cA,cP,Ib,bC,List.all_nil,Q9]
theorem hpe:∀ ds d p r,NF ds=some (d,p,r)->d.1=d.2->p->∀ w0 lh args,bp w0 lh Nu.nil ds args->∃ x new,vr w0 (lh++new) Nu.nil r x:=yE (λds Ym hp w0 lh args ha=>by
 have hp:aL (aI (L (L (L (L (L (L (L (du (aI ds))))))))))<=1000:=hp;change bp w0 lh Nu.nil [V.agg [V.sl _ _,V.sl _ _,V.int _ _,V.sl _ _,V.sl _ _,V.sl _ _,V.sl _ _,V.sl _ _,V.sl _ _],V.int _ _] args at ha;simp only[bp]at ha;obtain⟨a,as1,rfl,N,b,bs,rfl,Q,rfl⟩:=ha;rw[vr.eq_5]at N;obtain⟨cs,rfl,N⟩:=N;simp only[bp]at N;obtain⟨c0,_,rfl,g0,c1,_,rfl,g1,c2,_,rfl,g2,c3,_,rfl,g3,c4,_,rfl,g4,c5,_,rfl,g5,c6,_,rfl,g6,ic17,_,rfl,wrE,x24,_,rfl,x31,rfl⟩:=N;obtain⟨At,new,yaB⟩:=Dp (w0:=w0) (lh:=lh) (e:=1) (n:=aL (aI (L (L (L (L (L (L (L (du (aI ds))))))))))) (f:=A M (mM (A M (b7 (aI (L (L (L (L (L (L (L (du (aI ds)))))))))))) (aW ds))) I λi hi=>adQ _ _ i;have z:∀(l t:List av),tf l (l++t):=λl t k as1 ty hk=>by rw[Ht (List.getElem?_eq_some_iff.1 hk).1];exact hk
 have up:∀v a,vr w0 lh Nu.nil v a->vr w0 (lh++new) Nu.nil v a:=λv a h=>kJ (z _ _) v a h;refine⟨.agg [c0,c1,c2,c3,c4,c5,c6,At,x24],new,?_⟩;show vr w0 _ Nu.nil (.agg [V.sl _ _,V.sl _ _,V.int _ _,V.sl _ _,V.sl _ _,V.sl _ _,V.sl _ _,V.sl _ _,V.sl _ _]) _;rw[vr.eq_5];simp only[bp];exact⟨_,rfl,_,_,rfl,up _ _ g0,_,_,rfl,up _ _ g1,_,_,rfl,up _ _ g2,_,_,rfl,up _ _ g3,_,_,rfl,up _ _ g4,_,_,rfl,up _ _ g5,_,_,rfl,up _ _ g6,_,_,rfl,yaB,_,_,rfl,up _ _ x31,rfl⟩) rfl
theorem ie3:(vZ NF).Ok Tryz.prog 16:=Y4 JZ Tryz.func16 BF (λds _=>age ds) λds hp=>ra (hlt ..) (hzb _ _ _ _ _ _ _ _ _ _ _ _ _ _ _ _ _ _ hp)
def N6:bo:=(58,.con Uz)::Fz
theorem MU:aX Tryz.prog BD CJ N6:=.con abt (JZ)
def QU:Int:=bif jD H G q W x4==0 then og x5 x6 x7 else jD H G q W x4
def TY:Int:=bif QU H G q W x4 x5 x6 x7==0 then yB (cU (W x4.toNat)) (bq (L (L (L (W x4.toNat))))) (bq (L (L (L (L (L (W x4.toNat))))))) x5 x6 x7 else 0
def Hq:Int:=bif QU H G q W x4 x5 x6 x7==0 then zk (cU (W x4.toNat)) (bq (L (L (W x4.toNat)))) (bq (L (L (L (L (W x4.toNat)))))) x5 x6 x7 else 0
theorem ai8 {H:Nat} {G:bl} {q:Nat} {W:bl} {x4:Int} (h:bR H G q W x4=0) :
 cL H G q W x4=(cU (W x4.toNat))/\nF H G q W x4=(cS (W x4.toNat))/\nC H G q W x4=(bq (W x4.toNat))/\nK H G q W x4=(bq (L (W x4.toNat)))/\dE H G q W x4=(bq (L (L (W x4.toNat))))/\eg H G q W x4=(bq (L (L (L (W x4.toNat)))))/\dG H G q W x4=(bq (L (L (L (L (W x4.toNat))))))/\dt H G q W x4=(bq (L (L (L (L (L (W x4.toNat))))))):=by
 have l0:=Yn h;unfold cL nF nC nK dE eg dG dt;rw[l0.1,l0.2];exact⟨rfl,rfl,rfl,rfl,rfl,rfl,rfl,rfl⟩
theorem Fl {e z a b:Int} (h:e=z) (h0:z≠0):cP (V.tup [V.agg [D 0,D 0],D z])=cP (V.tup [V.agg [D (bif e==0 then a else 0),D (bif e==0 then b else 0)],D e]):=by subst h;rw[show(e==0)=false from by simpa using h0];rfl
theorem ac5 {e a b:Int} (h:e=0):cP (V.tup [V.agg [D a,D b],D 0])=cP (V.tup [V.agg [D (bif e==0 then a else 0),D (bif e==0 then b else 0)],D e]):=by subst h;rfl
theorem ahI {H:Nat} {G:bl} {q:Nat} {W:bl} {x4 x5 x6 x7:Int} (h:jD H G q W x4≠0):QU H G q W x4 x5 x6 x7=jD H G q W x4:=by unfold QU;rw[show(jD H G q W x4==0)=false from by simpa using h];rfl
theorem VU {H:Nat} {G:bl} {q:Nat} {W:bl} {x4 x5 x6 x7:Int} (h:jD H G q W x4=0):QU H G q W x4 x5 x6 x7=og x5 x6 x7:=by unfold QU;rw[h];rfl
theorem alc {a b c:Int} (h:da a b c=true):og a b c=7:=by rw[← E9,h];rfl
theorem TV {a b c:Int} (h:da a b c=false):og a b c=0:=by rw[← E9,h];rfl
def UP:RT Empty:=.obp (aT H (A au G)/\aT q (A ao W)) (.obt (.br (bR H (A au G) q (A ao W) x4 !=0) (.ret (V.tup [V.agg JK,D (bR H (A au G) q (A ao W) x4)])) (.cb (.br (da x5 x6 x7) (.ret (V.tup [V.agg JK,D 7])) (.cb (.ret (V.tup [V.agg [D (hG (cL H (A au G) q (A ao W) x4) (eg H (A au G) q (A ao W) x4) (dt H (A au G) q (A ao W) x4) x5 x6 x7),D (d4 (cL H (A au G) q (A ao W) x4) (dE H (A au G) q (A ao W) x4) (dG H (A au G) q (A ao W) x4) x5 x6 x7)],D 0])))))))
theorem hsb:eJ eL (bu JJ N6 u0 m63 [V.agg [V.sl H (A au G),V.sl q (A ao W)],D x4,V.agg [D x5,D x6,D x7]]) (UP H G q W x4 x5 x6 x7):=cD
theorem aa5 (hp:aT H (A au G)/\aT q (A ao W)):bj em (UP H G q W x4 x5 x6 x7) (.tup [.agg [D (TY H (A au G) q (A ao W) x4 x5 x6 x7),D (Hq H (A au G) q (A ao W) x4 x5 x6 x7)],D (QU H (A au G) q (A ao W) x4 x5 x6 x7)]):=by refine Cv hp (AY ?_);rw[tp];refine Ct (λh=>Br (Fl (ahI (JA h)) (JA h))) (λh=>?_);have h0:=nm h;have k:=ai8 ((tp ..).trans h0);rw[k.1,k.2.2.2.2.1,k.2.2.2.2.2.1,k.2.2.2.2.2.2.1,k.2.2.2.2.2.2.2,akj,Aj];exact aG (AY (Ct (λN=>Br (Fl ((VU h0).trans (alc N)) aA)) (λN=>aG (AY (Br (ac5 ((VU h0).trans (TV N))))))))
def Uf:aH:=cG [.agg [.sl au,.sl ao],tI,.agg cr] (λ
 |[.agg [.sl H G,.sl q W],.int _ x4,.agg [.int _ x5,.int _ x6,.int _ x7]]=>aT H G/\aT q W|_=>False) λ
 |[.agg [.sl H G,.sl q W],.int _ x4,.agg [.int _ x5,.int _ x6,.int _ x7]]=>.tup [.agg [D (TY H G q W x4 x5 x6 x7),D (Hq H G q W x4 x5 x6 x7)],D (QU H G q W x4 x5 x6 x7)]|_=>.any
theorem adl:dL Uf 100:=bH MU λ_ hp=>fb (hsb ..) (aa5 _ _ _ _ _ _ _ _ hp)
def Fy:bo:=(100,.con Uf)::N6
theorem CB:aX Tryz.prog BD CJ Fy:=.con adl (MU)
def Il (W X0 X7:bl) (i n:Int):Int:=iz (E (n*Hq H G q W (aE (X0 i.toNat)) (aE (X7 i.toNat)) (aW (X7 i.toNat)) (bZ (X7 i.toNat)))) 1000
def Xp:RT Empty:=dm (x4,Z,S,n7,f7,T,U,R,O,YL,XL,XM,XN,Y8,Y9) (.ob (dI Ud X2) (.ob (dI Ud XB) (.obp (aT H (A au G)/\aT q (A ao W)) (.obt (.obp (nz 1000) (.obt (.ret (D (c9 (E (YB*Hq H (A au G) q (A ao W) (aE (X0 Ud.toNat)) (aE (X7 Ud.toNat)) (aW (X7 Ud.toNat)) (bZ (X7 Ud.toNat)))) 1000)))))))))
theorem hl':eJ eL (bu JJ Fy u0 nc6 [V.agg [V.sl H (A au G),V.sl q (A ao W),D x4,V.sl Z (A ap S),V.sl n7 (A AV f7),V.sl T (A ar U),V.sl R (A al O),V.sl X2 (A M X0),V.sl XB (A cr X7),D Ud,V.str YL,D XL,D XM,D XN,D Y8,D Y9],D YB]) (Xp H G q W x4 Z S n7 f7 T U R O X2 X0 XB X7 Ud YL XL XM XN Y8 Y9 YB):=cD
theorem acx (H:Nat) (G:bl) (q:Nat) (W:bl) (x4:Int) (Z:Nat) (S:bl) (n7:Nat) (f7:bl) (T:Nat) (U:bl) (R:Nat) (O:bl) (X2:Nat) (X0:bl) (XB:Nat) (X7:bl) (Ud:Int) (YL:ByteArray) (XL XM XN Y8 Y9 YB:Int) (hp:(0<=Ud/\Ud<(X2:Int))/\(0<=Ud/\Ud<(XB:Int))/\(aT H (A au G)/\aT q (A ao W))):bj em (Xp H G q W x4 Z S n7 f7 T U R O X2 X0 XB X7 Ud YL XL XM XN Y8 Y9 YB) (D (Il H (A au G) q (A ao W) (A M X0) (A cr X7) Ud YB)):=by obtain⟨h0,N,hz⟩:=hp;exact bf (Cg h0) (bf (Cg N) (Cv hz (AY (Cv aA (AY (Br rfl))))))
def WO:aH:=cG [.agg [.sl au,.sl ao,tI,.sl ap,.sl AV,.sl ar,.sl al,.sl M,.sl cr,tI,.str,tI,tI,tI,tI,tI],tI] (λ
 |[.agg [.sl H G,.sl q W,.int _ x4,.sl Z S,.sl n7 f7,.sl T U,.sl R O,.sl X2 X0,.sl XB X7,.int _ Ud,.str YL,.int _ XL,.int _ XM,.int _ XN,.int _ Y8,.int _ Y9],.int _ YB]=>(0<=Ud/\Ud<(X2:Int))/\(0<=Ud/\Ud<(XB:Int))/\(aT H G/\aT q W)|_=>False) λ
 |[.agg [.sl H G,.sl q W,.int _ x4,.sl Z S,.sl n7 f7,.sl T U,.sl R O,.sl X2 X0,.sl XB X7,.int _ Ud,.str YL,.int _ XL,.int _ XM,.int _ XN,.int _ Y8,.int _ Y9],.int _ YB]=>D (Il H G q W X0 X7 Ud YB)|_=>.any
theorem nf6:dL WO 74:=bH CB λ_ hp=>fb (hl' ..) (acx _ _ _ _ _ _ _ _ _ _ _ _ _ _ _ _ _ _ _ _ _ _ _ _ _ hp)
def lN:Int:=bif decide (0<x0) then l7 (E (x0*x2)) x3 else x0
def lM:Int:=bif decide (x1<0) then iz (E (x1*x2)) x3 else x1
def LJ:RT Empty:=.br (decide (0<x0)) (.obp (nz x3) (.obt (.br (decide (x1<0)) (.obp (nz x3) (.obt (.ret (V.tup [D (de (E (x0*x2)) x3),D (c9 (E (x1*x2)) x3)])))) (.ret (V.tup [D (de (E (x0*x2)) x3),D x1]))))) (.br (decide (x1<0)) (.obp (nz x3) (.obt (.ret (V.tup [D x0,D (c9 (E (x1*x2)) x3)])))) (.ret (V.tup [D x0,D x1])))
theorem yaT:eJ eL (bu JJ Fy u0 ach [D x0,D x1,V.pd [D x2],V.pd [D x3]]) (LJ x0 x1 x2 x3):=cD
theorem mnZ (hp:x3=0->False):bj em (LJ x0 x1 x2 x3) (.tup [D (lN x0 x2 x3),D (lM x1 x2 x3)]):=by
 unfold LJ;rw[agG,Wg];refine Ct (λh=>Cv hp (AY (Ct (λk=>Cv hp (AY (Br ?_))) (λk=>Br ?_)))) (λh=>Ct (λk=>Cv hp (AY (Br ?_))) (λk=>Br ?_))
 all_goals
  unfold lN lM;rw[h,k];rfl
def Xn:aH:=cG [tI,tI,.pd M,.pd M] (λ
 |[.int _ x0,.int _ x1,.pd [.int _ x2],.pd [.int _ x3]]=>x3=0->False|_=>False) λ
 |[.int _ x0,.int _ x1,.pd [.int _ x2],.pd [.int _ x3]]=>.tup [D (lN x0 x2 x3),D (lM x1 x2 x3)]|_=>.any
theorem aaM:dL Xn 77:=bH CB λ_ hp=>fb (yaT ..) (mnZ _ _ _ _ hp)
def CM:bo:=(74,.con WO)::(77,.con Xn)::Fy
theorem GK:aX Tryz.prog BD CJ CM:=.con nf6 (.con aaM (CB))
def V4:RT Empty:=dm (x4,Z,S,n7,f7,T,U,R,O,XB,X7,YL,XL,XM,XN,Y8,Y9) (.ob (dI Ud X2) (.ob (dI (aE (X0 Ud.toNat)) q) (.ob (dI (aW (W (aE (X0 Ud.toNat)).toNat)) H) (.ret (V.agg [V.str (sv (aI (G (aW (W (aE (X0 Ud.toNat)).toNat)).toNat))),V.sl (aL (aI (L (G (aW (W (aE (X0 Ud.toNat)).toNat)).toNat)))) λi=>aw M (b7 (aI (L (G (aW (W (aE (X0 Ud.toNat)).toNat)).toNat))) i),V.sl (aL (aI (L (L (G (aW (W (aE (X0 Ud.toNat)).toNat)).toNat))))) λi=>aw M (b7 (aI (L (L (G (aW (W (aE (X0 Ud.toNat)).toNat)).toNat)))) i),V.sl (aL (aI (L (L (L (G (aW (W (aE (X0 Ud.toNat)).toNat)).toNat)))))) λi=>aw [Ty.sl M] (b7 (aI (L (L (L (G (aW (W (aE (X0 Ud.toNat)).toNat)).toNat))))) i),D (cS (G (aW (W (aE (X0 Ud.toNat)).toNat)).toNat)),D (bq (G (aW (W (aE (X0 Ud.toNat)).toNat)).toNat))])))))
theorem hsn:eJ eL (JG JJ CM u0 nh6 [V.agg [V.sl H (A au G),V.sl q (A ao W),D x4,V.sl Z (A ap S),V.sl n7 (A AV f7),V.sl T (A ar U),V.sl R (A al O),V.sl X2 (A M X0),V.sl XB (A cr X7),D Ud,V.str YL,D XL,D XM,D XN,D Y8,D Y9]]) (V4 H G q W x4 Z S n7 f7 T U R O X2 X0 XB X7 Ud YL XL XM XN Y8 Y9):=cD
def yaG:List Ty:=[.agg [.sl au,.sl ao,tI,.sl ap,.sl AV,.sl ar,.sl al,.sl M,.sl cr,tI,.str,tI,tI,tI,tI,tI]]
def y5 (H q:Nat) (W:bl) (X2:Nat) (X0:bl) (Ud:Int):Prop:=(0<=Ud/\Ud<(X2:Int))/\(0<=(aE (X0 Ud.toNat))/\(aE (X0 Ud.toNat))<(q:Int))/\(0<=(aW (W (aE (X0 Ud.toNat)).toNat))/\(aW (W (aE (X0 Ud.toNat)).toNat))<(H:Int))
def aho:List V->Prop
 |[.agg [.sl H G,.sl q W,.int _ x4,.sl Z S,.sl n7 f7,.sl T U,.sl R O,.sl X2 X0,.sl XB X7,.int _ Ud,.str YL,.int _ XL,.int _ XM,.int _ XN,.int _ Y8,.int _ Y9]]=>y5 H q W X2 X0 Ud|_=>False
def Uj:List V->V
 |[.agg [.sl H G,.sl q W,.int _ x4,.sl Z S,.sl n7 f7,.sl T U,.sl R O,.sl X2 X0,.sl XB X7,.int _ Ud,.str YL,.int _ XL,.int _ XM,.int _ XN,.int _ Y8,.int _ Y9]]=>.agg (G (aW (W (aE (X0 Ud.toNat)).toNat)).toNat)|_=>.any
def NM:aH:=cG yaG aho Uj
theorem id1 (hp:y5 H q (A ao W) X2 (A M X0) Ud):bj em (V4 H G q W x4 Z S n7 f7 T U R O X2 X0 XB X7 Ud YL XL XM XN Y8 Y9) (.agg (A au G (aW (A ao W (aE (A M X0 Ud.toNat)).toNat)).toNat)):=bf (Cg hp.1) (bf (Cg hp.2.1) (bf (Cg hp.2.2) (Br rfl)))
theorem ajG (ds:List V):cI (Uj (aw yaG ds)):=by show cI (.agg [V.str _,V.sl _ (A M _),V.sl _ (A M _),V.sl _ (A [Ty.sl M] _),V.int _ _,V.int _ _]);simp only[cI,b8,HJ,K9];exact⟨λi hi=>gw _,λi hi=>gw _,λi hi=>rH _⟩
theorem alM:∀ds d p r,NM ds=some (d,p,r)->d.1=d.2->p->∀w0 lh args,bp w0 lh Nu.nil ds args->∃x new,vr w0 (lh++new) Nu.nil r x:=yE (λds Ym hp w0 lh args ha=>by change y5 _ _ _ _ _ _ at hp;change bp w0 lh Nu.nil [V.agg (V.sl _ (A au _)::_)] args at ha;simp only[bp]at ha;obtain⟨a,as1,rfl,N,rfl⟩:=ha;rw[vr.eq_5]at N;obtain⟨cs,rfl,N⟩:=N;rw[bp.eq_2]at N;obtain⟨c0,_,rfl,g0,_⟩:=N;rw[vr.eq_8]at g0;obtain⟨p,c,esz,_,_,_,_,hall⟩:=g0;obtain⟨X1,as2,_,_,y,_⟩:=hall _ ((Int.toNat_lt hp.2.2.1).2 hp.2.2.2);refine⟨.agg as2,[],?_⟩;rw[Q7];show vr w0 lh Nu.nil (.agg _) _;rw[vr.eq_5];exact⟨as2,rfl,y⟩) rfl
theorem ade:(vZ NM).Ok Tryz.prog 75:=Y4 GK Tryz.func75 BF (λds _=>ajG ds) λds hp=>fb (hsn ..) (id1 _ _ _ _ _ _ _ _ _ _ _ _ _ _ _ _ _ _ _ _ _ _ _ _ hp)
def ML:bo:=(75,.conZ NM alM)::CM
theorem N9:aX Tryz.prog BD CJ ML:=.conZ ade (GK)
def va (h w:Int):Int:=E (E (100*h)-E (100*w))
def FI (cx cy h a c d e lo hi:Int):Int:=max (E (E (eE (E (a-cx)) (E (d-cx))+eE (E (c-cy)) (E (e-cy)))+eE (va h hi) (va h lo))) 1
def R8 (W X0 X7:bl) (Ud cx cy dx dy a c d e flat deep:Int):Int:=dB H G q W (aE (X0 Ud.toNat)) (aE (X7 Ud.toNat)) (aW (X7 Ud.toNat)) (bZ (X7 Ud.toNat)) (lN (dU cx cy dx dy a c d e) flat deep) (lM (dY cx cy dx dy a c d e) flat deep) (lN (dZ cx cy dx dy a c d e) flat deep) (lM (d0 cx cy dx dy a c d e) flat deep) flat
def Kc (W X0 X7:bl) (Ud cx cy h dx dy a c d e lo hi:Int):Int:=bif decide (va h lo<=0) then Il H G q W X0 X7 Ud (bq (G (aW (W (aE (X0 Ud.toNat)).toNat)).toNat)) else bif decide (va h hi<=0) then Il H G q W X0 X7 Ud (max (sK (yx (G (aW (W (aE (X0 Ud.toNat)).toNat)).toNat)) (pY (G (aW (W (aE (X0 Ud.toNat)).toNat)).toNat)) (cS (G (aW (W (aE (X0 Ud.toNat)).toNat)).toNat))) (bq (G (aW (W (aE (X0 Ud.toNat)).toNat)).toNat))) else R8 H G q W X0 X7 Ud cx cy dx dy a c d e (va h hi) (va h lo)
def xm (W X0 X7:bl) (Ud cx cy h dx dy a c d e lo hi:Int):Int:=iz (E (1000000*Kc H G q W X0 X7 Ud cx cy h dx dy a c d e lo hi)) (FI cx cy h a c d e lo hi)
def QR (G W X0:bl) (Ud:Int):Prop:=∀i,i<yx (G (aW (W (aE (X0 Ud.toNat)).toNat)).toNat)->1<=aL (aI (pY (G (aW (W (aE (X0 Ud.toNat)).toNat)).toNat) i))
theorem ahD (cx cy h a c d e lo hi:Int):FI cx cy h a c d e lo hi=0->False:=by unfold FI;omega
def Ow:RT Empty:=dm (x4,Z,S,n7,f7,T,U,R,O,YL) (.cb (.cb (.cb (.cb (.br (decide (va XN X6<=0)) (.obp (((0:Int)<=Ud/\Ud<(X2:Int))/\((0:Int)<=aE (X0 Ud.toNat)/\aE (X0 Ud.toNat)<(q:Int))/\(0:Int)<=aW (W (aE (X0 Ud.toNat)).toNat)/\aW (W (aE (X0 Ud.toNat)).toNat)<(H:Int)) (.obt (.obp (((0:Int)<=Ud/\Ud<(X2:Int))/\((0:Int)<=Ud/\Ud<(XB:Int))/\aT H (A au G)/\aT q (A ao W)) (.obt (.obp (nz (FI XL XM XN YB YE YF X5 X6 XO)) (.obt (.ret (D (c9 (E (1000000*Il H (A au G) q (A ao W) (A M X0) (A cr X7) Ud (bq (G (aW (W (aE (X0 Ud.toNat)).toNat)).toNat)))) (FI XL XM XN YB YE YF X5 X6 XO)))))))))) (.br (decide (va XN XO<=0)) (.obp (((0:Int)<=Ud/\Ud<(X2:Int))/\((0:Int)<=aE (X0 Ud.toNat)/\aE (X0 Ud.toNat)<(q:Int))/\(0:Int)<=aW (W (aE (X0 Ud.toNat)).toNat)/\aW (W (aE (X0 Ud.toNat)).toNat)<(H:Int)) (.obt (.obp (∀(i:Nat),i<aL (aI (L (L (L (G (aW (W (aE (X0 Ud.toNat)).toNat)).toNat)))))->(1:Nat)<=aL (aI (b7 (aI (L (L (L (G (aW (W (aE (X0 Ud.toNat)).toNat)).toNat))))) i))) (.obt (.obp (((0:Int)<=Ud/\Ud<(X2:Int))/\((0:Int)<=aE (X0 Ud.toNat)/\aE (X0 Ud.toNat)<(q:Int))/\(0:Int)<=aW (W (aE (X0 Ud.toNat)).toNat)/\aW (W (aE (X0 Ud.toNat)).toNat)<(H:Int)) (.obt (.obp (((0:Int)<=Ud/\Ud<(X2:Int))/\((0:Int)<=Ud/\Ud<(XB:Int))/\aT H (A au G)/\aT q (A ao W)) (.obt (.obp (nz (FI XL XM XN YB YE YF X5 X6 XO)) (.obt (.ret (D (c9 (E (1000000*Il H (A au G) q (A ao W) (A M X0) (A cr X7) Ud (max (oz (aL (aI (L (L (L (G (aW (W (aE (X0 Ud.toNat)).toNat)).toNat)))))) (λi=>aw [Ty.sl M] (b7 (aI (L (L (L (G (aW (A ao W (aE (A M X0 Ud.toNat)).toNat)).toNat))))) i)) (cS (G (aW (W (aE (X0 Ud.toNat)).toNat)).toNat))) (bq (G (aW (W (aE (X0 Ud.toNat)).toNat)).toNat))))) (FI XL XM XN YB YE YF X5 X6 XO)))))))))))))) (.obp (Hd Y8 Y9/\gH XL/\gH XM/\gH YB/\gH YE/\gH YF/\gH X5) (.obt (.obp (nz (va XN X6)) (.obt (.obp (nz (va XN X6)) (.obt (.ob (dI Ud X2) (.ob (dI Ud XB) (.obp (aT H (A au G)/\aT q (A ao W)) (.obt (.obp (nz (FI XL XM XN YB YE YF X5 X6 XO)) (.obt (.ret (D (c9 (E (1000000*dB H (A au G) q (A ao W) (aE (X0 Ud.toNat)) (aE (X7 Ud.toNat)) (aW (X7 Ud.toNat)) (bZ (X7 Ud.toNat)) (lN (dU XL XM Y8 Y9 YB YE YF X5) (va XN XO) (va XN X6)) (lM (dY XL XM Y8 Y9 YB YE YF X5) (va XN XO) (va XN X6)) (lN (dZ XL XM Y8 Y9 YB YE YF X5) (va XN XO) (va XN X6)) (lM (d0 XL XM Y8 Y9 YB YE YF X5) (va XN XO) (va XN X6)) (va XN XO))) (FI XL XM XN YB YE YF X5 X6 XO))))))))))))))))))))))
theorem hji:eJ eL (bu JJ ML u0 inT [V.agg [V.sl H (A au G),V.sl q (A ao W),D x4,V.sl Z (A ap S),V.sl n7 (A AV f7),V.sl T (A ar U),V.sl R (A al O),V.sl X2 (A M X0),V.sl XB (A cr X7),D Ud,V.str YL,D XL,D XM,D XN,D Y8,D Y9],V.agg [D YB,D YE,D YF,D X5,D X6,D XO]]) (Ow H G q W x4 Z S n7 f7 T U R O X2 X0 XB X7 Ud YL XL XM XN Y8 Y9 YB YE YF X5 X6 XO):=cD
theorem ie0 (H:Nat) (G:bl) (q:Nat) (W:bl) (x4:Int) (Z:Nat) (S:bl) (n7:Nat) (f7:bl) (T:Nat) (U:bl) (R:Nat) (O:bl) (X2:Nat) (X0:bl) (XB:Nat) (X7:bl) (Ud:Int) (YL:ByteArray) (XL XM XN Y8 Y9 YB YE YF X5 X6 XO:Int) (hp:(0<=Ud/\Ud<(X2:Int))/\(0<=Ud/\Ud<(XB:Int))/\(aT H (A au G)/\aT q (A ao W))/\y5 H q (A ao W) X2 (A M X0) Ud/\QR (A au G) (A ao W) (A M X0) Ud/\Hd Y8 Y9/\gH XL/\gH XM/\gH YB/\gH YE/\gH YF/\gH X5):bj em (Ow H G q W x4 Z S n7 f7 T U R O X2 X0 XB X7 Ud YL XL XM XN Y8 Y9 YB YE YF X5 X6 XO) (D (xm H (A au G) q (A ao W) (A M X0) (A cr X7) Ud XL XM XN Y8 Y9 YB YE YF X5 X6 XO)):=by
 obtain⟨h0,N,hz,hx,hr,hd,hp⟩:=hp;unfold Ow;rw[Wg];have hk:=ahD XL XM XN YB YE YF X5 X6 XO;refine aG (AY (aG (AY (aG (AY (aG (AY (Ct (λh=>(Cv hx (AY (Cv ⟨h0,N,hz⟩ (AY (Cv hk (AY (Br ?_)))))))) (λh=>Ct (λQ=>(Cv hx (AY (Cv hr (AY (Cv hx (AY (Cv ⟨h0,N,hz⟩ (AY (Cv hk (AY (Br ?_)))))))))))) (λQ=>(Cv ⟨hd,hp⟩ (AY (Cv ?_ (AY (Cv ?_ (AY (bf (Cg h0) (bf (Cg N) (Cv hz (AY (Cv hk (AY (Br ?_)))))))))))))))))))))))
 ·unfold xm Kc;rw[h];rfl
 ·unfold xm Kc;rw[h,Q];exact congrArg (λz=>cP (D (iz (E (1000000*Il H (A au G) q (A ao W) (A M X0) (A cr X7) Ud (max z _))) (FI XL XM XN YB YE YF X5 X6 XO)))) (tP hr)
 ·exact λe=>Hv h (Int.le_of_eq e)
 ·exact λe=>Hv h (Int.le_of_eq e)
 ·unfold xm Kc;rw[h,Q];rfl
def Vo:aH:=cG [.agg [.sl au,.sl ao,tI,.sl ap,.sl AV,.sl ar,.sl al,.sl M,.sl cr,tI,.str,tI,tI,tI,tI,tI],.agg [tI,tI,tI,tI,tI,tI]] (λ
 |[.agg [.sl H G,.sl q W,.int _ x4,.sl Z S,.sl n7 f7,.sl T U,.sl R O,.sl X2 X0,.sl XB X7,.int _ Ud,.str YL,.int _ XL,.int _ XM,.int _ XN,.int _ Y8,.int _ Y9],.agg [.int _ YB,.int _ YE,.int _ YF,.int _ X5,.int _ X6,.int _ XO]]=>(0<=Ud/\Ud<(X2:Int))/\(0<=Ud/\Ud<(XB:Int))/\(aT H G/\aT q W)/\y5 H q W X2 X0 Ud/\QR G W X0 Ud/\Hd Y8 Y9/\gH XL/\gH XM/\gH YB/\gH YE/\gH YF/\gH X5|_=>False) λ
 |[.agg [.sl H G,.sl q W,.int _ x4,.sl Z S,.sl n7 f7,.sl T U,.sl R O,.sl X2 X0,.sl XB X7,.int _ Ud,.str YL,.int _ XL,.int _ XM,.int _ XN,.int _ Y8,.int _ Y9],.agg [.int _ YB,.int _ YE,.int _ YF,.int _ X5,.int _ X6,.int _ XO]]=>D (xm H G q W X0 X7 Ud XL XM XN Y8 Y9 YB YE YF X5 X6 XO)|_=>.any
theorem abG:dL Vo 38:=bH N9 λ_ hp=>fb (hji ..) (ie0 _ _ _ _ _ _ _ _ _ _ _ _ _ _ _ _ _ _ _ _ _ _ _ _ _ _ _ _ _ _ hp)
theorem ak0 {H q X2:Nat} {G W X0 X7:bl} {i:Nat} (l2:q<=20) (lm:∀ i,i<q->MV H (W i)) (co:oy G q W X0 X7 i=0) (hi:i<X2) (h:Fg X0 i=true):y5 H q W X2 X0 (i:Int):=by
 have h:0<=aE (X0 i):=HT h;have a:ci (aE (X0 i)) (-1) (E ((q:Int)-1))=true:=by
  cases hb:ci (aE (X0 i)) (-1) (E ((q:Int)-1)) with
  |true=>rfl|false=>unfold oy at co;rw[UO hb]at co;cases co
 have r:=qR (x:=aE (X0 i)) a;rw[C4 I I]at r;have t:=(lm (aE (X0 i)).toNat I).t;exact⟨⟨I,I⟩,⟨h,by show aE (X0 i)<_;omega⟩,t⟩
theorem ajc {H q X2:Nat} {G W X0:bl} {i:Int} (x:y5 H q W X2 X0 i) (tb:∀i,i<H->mw (G i)):QR G W X0 i:=λk hk=>by have t:=tb (aW (W (aE (X0 i.toNat)).toNat)).toNat ((Int.toNat_lt x.2.2.1).2 x.2.2.2);have:=t.row k hk;have:=t.v.1;omega
theorem pl0:gH 0:=by unfold gH;omega
theorem GW {a b p X1:Int} (ha:-100000<=a/\a<=100000) (hb:-100000<=b/\b<=100000) (hp:0<=p/\p<=1000) (hq:0<=X1/\X1<=1000):gH (sS a b p X1)/\gH (sU a b p X1):=by
 have m1:=mF (x:=b-a) (p:=p) (XU:=200000) (B:=1000) I I hp.1 hp.2;have m2:=mF (x:=b-a) (p:=X1) (XU:=200000) (B:=1000) I I hq.1 hq.2;unfold gH sS sU
 rw [C4 (x:=b-a) I I,C4 (x:=(b-a)*p) I I,C4 (x:=(b-a)*X1) I I,C4 (x:=1000*a) I I,C4 (x:=1000*a+(b-a)*p) I I,C4 (x:=1000*a+(b-a)*X1) I I,C4 (x:=0-max (1000*a+(b-a)*p) (1000*a+(b-a)*X1)) I I,
  rM I I I I,rM I I I I]
 have d1:=kK (n:=min (1000*a+(b-a)*p) (1000*a+(b-a)*X1)) (d:=1000) (B:=300000000) I I I;have d2:=kK (n:=0-max (1000*a+(b-a)*p) (1000*a+(b-a)*X1)) (d:=1000) (B:=300000000) I I I;rw[C4 I I];omega
section
variable {H:Nat} {G:bl} {q:Nat} {W:bl} {n4:Nat} {f4:bl} {n6:Nat} {f6:bl} {x8 x9:Int}
theorem R9 {c1 c2:Bool} {z:Int} (h:c1=false->c2=false->gH z):gH (bif c1 then 0 else bif c2 then 0 else z):=by
 cases N:c1 with
 |true=>exact pl0
 |false=>
   cases Q:c2 with
   |true=>exact pl0|false=>exact h N Q
theorem IT:gH (kg H G q W n4 f4 n6 f6 x8 x9)/\gH (jQ H G q W n4 f4 n6 f6 x8 x9)/\gH (jM H G q W n4 f4 n6 f6 x8 x9)/\gH (j9 H G q W n4 f4 n6 f6 x8 x9):=by
 have hd:=BX (H:=H) (G:=G) (q:=q) (W:=W) (n4:=n4) (f4:=f4) (n6:=n6) (f6:=f6) (i:=x8) (m:=n4)
 have y:∀ {c2:Bool},(bif Lc (gq H (A ap G) q (A AV W) n4 (A ar f4) n6 (A al f6)) x8 n4==0 then mo x9 (aL (aI (L (L (L (L (f4 x8.toNat))))))) else false)=false->(Lc (gq H (A ap G) q (A AV W) n4 (A ar f4) n6 (A al f6)) x8 n4 != 0)=false ->
  (∀x,x∈[aE (f4 x8.toNat),aW (f4 x8.toNat),bZ (f4 x8.toNat),cU (f4 x8.toNat)]->-100000<=x/\x<=100000)/\s9 (b7 (aI (L (L (L (L (f4 x8.toNat)))))) x9.toNat)=false:=λ{c2} h Q=>by
  have Q:=nm Q;rw[Q]at h;obtain⟨k1,k2⟩:=pF (show mo x9 (aL (aI (L (L (L (L (f4 x8.toNat)))))))=false from h);obtain⟨h3,h4,h5⟩:=qy Q;have h6:cF f4 x8.toNat=0:=(s7 h3).fr x8.toNat I;obtain⟨g1,g2,g3⟩:=pX h6;exact⟨g1,g3 x9.toNat I⟩
 unfold kg jQ jM j9;rw[hd];refine⟨R9 λa b=>?_,R9 λa b=>?_,R9 λa b=>?_,R9 λa b=>?_⟩ <;>
 ·obtain⟨g1,g2⟩:=y (c2:=true) a b
  have w:=ya g2;have s1:=GW (g1 (aE (f4 x8.toNat)) aD) (g1 (bZ (f4 x8.toNat)) aD) (p:=aE (b7 (aI (L (L (L (L (f4 x8.toNat)))))) x9.toNat)) (X1:=aW (b7 (aI (L (L (L (L (f4 x8.toNat)))))) x9.toNat)) I I;have s2:=GW (g1 (aW (f4 x8.toNat)) aD) (g1 (cU (f4 x8.toNat)) aD) (p:=aE (b7 (aI (L (L (L (L (f4 x8.toNat)))))) x9.toNat)) (X1:=aW (b7 (aI (L (L (L (L (f4 x8.toNat)))))) x9.toNat)) I I
  first|with_reducible exact s1.1|with_reducible exact s2.1|with_reducible exact s1.2|with_reducible exact s2.2
end
def FG:bo:=(38,.con Vo)::ML
theorem OE:aX Tryz.prog BD CJ FG:=.con abG (N9)
def uD (Z:Nat) (S:bl) (n7:Nat) (f7:bl) (T:Nat) (U:bl) (R:Nat) (O:bl) (Ud:Int) (i:Nat):Bool:=bif Fg X0 i then KN Z S n7 f7 T U R O (i:Int) Ud else false
def sG (W X0 X7:bl) (Z:Nat) (S:bl) (n7:Nat) (f7:bl) (T:Nat) (U:bl) (R:Nat) (O:bl) (Ud XK:Int):Nat->Int:=ow (uD X0 Z S n7 f7 T U R O Ud) λi=>xm H G q W X0 X7 (i:Int) (aW (O i)) (bZ (O i)) (cU (O i)) (cS (O i)) (bq (O i)) (kg Z S n7 f7 T U R O Ud XK) (jQ Z S n7 f7 T U R O Ud XK) (jM Z S n7 f7 T U R O Ud XK) (j9 Z S n7 f7 T U R O Ud XK) (ky Z S n7 f7 T U R O Ud XK) (kD Z S n7 f7 T U R O Ud XK)
def rj (e:Int) (Z:Nat) (S:bl) (n7:Nat) (f7:bl) (T:Nat) (U:bl) (R:Nat) (O:bl) (Ud XK:Int):Int:=bif e==0 then oA Z S n7 f7 T U R O Ud XK else e
def QX (W X0 X7:bl) (Z:Nat) (S:bl) (n7:Nat) (f7:bl) (T:Nat) (U:bl) (R:Nat) (O:bl) (Ud XK:Int):Nat->Int:=sG H (A au G) q (A ao W) (A M X0) (A cr X7) Z (A ap S) n7 (A AV f7) T (A ar U) R (A al O) Ud XK
def Pu (Z:Nat) (S:bl) (n7:Nat) (f7:bl) (T:Nat) (U:bl) (R:Nat) (O:bl) (Ud:Int) (i:Nat):Bool:=uD (A M X0) Z (A ap S) n7 (A AV f7) T (A ar U) R (A al O) Ud i
def GdV:Prop:=I9 H (A au G) q (A ao W) x4 Z (A ap S) n7 (A AV f7) T (A ar U) R (A al O) X2 (A M X0) XB (A cr X7)
theorem Je {e z a:Int} (h:e=z) (h0:z≠0):cP (V.tup [D 0,D z])=cP (V.tup [D (jl e a),D e]):=by subst h;unfold jl;rw[show(e==0)=false from by simpa using h0];rfl
theorem Xe {e:Int} {Z:Nat} {S:bl} {n7:Nat} {f7:bl} {T:Nat} {U:bl} {R:Nat} {O:bl} {Ud XK:Int} (h:e≠0):rj e Z S n7 f7 T U R O Ud XK=e:=by unfold rj;rw[show(e==0)=false from by simpa using h];rfl
theorem Fx {e:Int} {Z:Nat} {S:bl} {n7:Nat} {f7:bl} {T:Nat} {U:bl} {R:Nat} {O:bl} {Ud XK:Int} (h:e=0):rj e Z S n7 f7 T U R O Ud XK=oA Z S n7 f7 T U R O Ud XK:=by subst h;rfl
theorem agb {X0:bl} {Z:Nat} {S:bl} {n7:Nat} {f7:bl} {T:Nat} {U:bl} {R:Nat} {O:bl} {Ud:Int} {i:Nat} (h:uD X0 Z S n7 f7 T U R O Ud i=true):Fg X0 i=true:=by
 unfold uD at h;cases hb:Fg X0 i with
 |true=>rfl|false=>rw[hb]at h;cases h
inductive oP where|L0 (_:Int) (_:Nat) (_:Int)
def hoj:oP->bV×List AX×Option Ex
 |.L0 X8 Y7 Yi=>([(8,D X8),(7,D (X2:Int)),(6,V.sl X2 (A M X0)),(5,V.pl 4 7),(0,V.yl Y7),(1,V.pl 4 0)],[AX.cells [V.sl H (A au G),V.sl q (A ao W),D x4,V.sl Z (A ap S),V.sl n7 (A AV f7),V.sl T (A ar U),V.sl R (A al O),V.sl X2 (A M X0),V.sl XB (A cr X7)] 35,AX.cells [D Ud] 3,AX.cells [D (aM Z (A ap S) n7 (A AV f7) T (A ar U) R (A al O) Ud XK),D (aP Z (A ap S) n7 (A AV f7) T (A ar U) R (A al O) Ud XK),D (aN Z (A ap S) n7 (A AV f7) T (A ar U) R (A al O) Ud XK),D (aO Z (A ap S) n7 (A AV f7) T (A ar U) R (A al O) Ud XK),D (ew Z (A ap S) n7 (A AV f7) T (A ar U) R (A al O) Ud XK),D (eC Z (A ap S) n7 (A AV f7) T (A ar U) R (A al O) Ud XK)] 65,AX.cells [D Yi] 3,AX.cells [V.sl H (A au G),V.sl q (A ao W),D x4,V.sl Z (A ap S),V.sl n7 (A AV f7),V.sl T (A ar U),V.sl R (A al O),V.sl X2 (A M X0),V.sl XB (A cr X7)] 35],none)
def aaI:oP->JJ
 |.L0 _ Y7 _=>(0,[Cx.n Y7])
def Iw:Bj (cN JJ):=bu JJ FG u0 ne4 [V.agg [V.sl H (A au G),V.sl q (A ao W),D x4,V.sl Z (A ap S),V.sl n7 (A AV f7),V.sl T (A ar U),V.sl R (A al O),V.sl X2 (A M X0),V.sl XB (A cr X7)],D Ud,D XK]
def BJ (cx:List Cx):Lp JJ:=lc (kd (Pw (kd (Iw H G q W x4 Z S n7 f7 T U R O X2 X0 XB X7 Ud XK) [false,false]) (Ab cx 0)) [])
def nf2:JJ->Lp JJ
 |(0,cx)=>BJ H G q W x4 Z S n7 f7 T U R O X2 X0 XB X7 Ud XK cx|(_,cx)=>BJ H G q W x4 Z S n7 f7 T U R O X2 X0 XB X7 Ud XK cx
def afx:LD JJ oP:=⟨aaI,nf2 H G q W x4 Z S n7 f7 T U R O X2 X0 XB X7 Ud XK,hoj H G q W x4 Z S n7 f7 T U R O X2 X0 XB X7 Ud XK⟩
def C0 (H:Nat) (G:bl) (q:Nat) (W:bl) (x4:Int) (Z:Nat) (S:bl) (n7:Nat) (f7:bl) (T:Nat) (U:bl) (R:Nat) (O:bl) (X2:Nat) (X0:bl) (XB:Nat) (X7:bl) (Ud XK:Int):oP->RT oP
 |.L0 X8 Y7 Yi=>.br (decide (X8<(X2:Int))) (.ob (dI X8 X2) (.iv (.obj (decide (0<=aE (X0 X8.toNat))) (dI X8 R) (.iv (.br (decide (0<=aE (X0 X8.toNat))) (.ob (decide (0<=aE (X0 X8.toNat))) (.ob (decide (0<=aE (X0 X8.toNat))) (.obp (aT Z (A ap S)/\aT R (A al O)) (.obt (.br (kE Z (A ap S) n7 (A AV f7) T (A ar U) R (A al O) X8 Ud) (.obp (((0:Int)<=X8/\X8<(X2:Int))/\((0:Int)<=X8/\X8<(XB:Int))/\(aT H (A au G)/\aT q (A ao W))/\y5 H q (A ao W) X2 (A M X0) X8/\QR (A au G) (A ao W) (A M X0) X8/\Hd (cS (O X8.toNat)) (bq (O X8.toNat))/\gH (aW (O X8.toNat))/\gH (bZ (O X8.toNat))/\gH (aM Z (A ap S) n7 (A AV f7) T (A ar U) R (A al O) Ud XK)/\gH (aP Z (A ap S) n7 (A AV f7) T (A ar U) R (A al O) Ud XK)/\gH (aN Z (A ap S) n7 (A AV f7) T (A ar U) R (A al O) Ud XK)/\gH (aO Z (A ap S) n7 (A AV f7) T (A ar U) R (A al O) Ud XK)) (.obt (.next (iR 0 5 []) (oP.L0 (E (X8+1)) Y7 (E (Yi+xm H (A au G) q (A ao W) (A M X0) (A cr X7) X8 (aW (O X8.toNat)) (bZ (O X8.toNat)) (cU (O X8.toNat)) (cS (O X8.toNat)) (bq (O X8.toNat)) (aM Z (A ap S) n7 (A AV f7) T (A ar U) R (A al O) Ud XK) (aP Z (A ap S) n7 (A AV f7) T (A ar U) R (A al O) Ud XK) (aN Z (A ap S) n7 (A AV f7) T (A ar U) R (A al O) Ud XK) (aO Z (A ap S) n7 (A AV f7) T (A ar U) R (A al O) Ud XK) (ew Z (A ap S) n7 (A AV f7) T (A ar U) R (A al O) Ud XK) (eC Z (A ap S) n7 (A AV f7) T (A ar U) R (A al O) Ud XK)))) []))) (.next (iR 0 5 []) (oP.L0 (E (X8+1)) Y7 Yi) [])))))) (.next (iR 0 5 []) (oP.L0 (E (X8+1)) Y7 Yi) [])))))) (.ret (V.tup [D Yi,D 0]))
def WH:RT oP:=.obp (aT H (A au G)/\aT q (A ao W)/\aT Z (A ap S)/\aT R (A al O)) (.obt (.br (ckV H G q W x4 Z S n7 f7 T U R O X2 X0 XB X7 !=0) (.ret (V.tup [D 0,D (ckV H G q W x4 Z S n7 f7 T U R O X2 X0 XB X7)])) (.obp (aT Z (A ap S)/\aT R (A al O)) (.obt (.br (kI Z (A ap S) n7 (A AV f7) T (A ar U) R (A al O) Ud XK !=0) (.ret (V.tup [D 0,D (kI Z (A ap S) n7 (A AV f7) T (A ar U) R (A al O) Ud XK)])) (.all (λl_15061=>.am X2 (.enter (iR 0 5 []) (oP.L0 0 (l_15061) 0) []))))))))
theorem hsl:gU FG u0 (afx H G q W x4 Z S n7 f7 T U R O X2 X0 XB X7 Ud XK) (Iw H G q W x4 Z S n7 f7 T U R O X2 X0 XB X7 Ud XK) (WH H G q W x4 Z S n7 f7 T U R O X2 X0 XB X7 Ud XK) (C0 H G q W x4 Z S n7 f7 T U R O X2 X0 XB X7 Ud XK):=⟨cD,λs=>by cases s<;>exact cD⟩
theorem aeF (hz:aT H (A au G)/\aT q (A ao W)) (Ya:GdV H G q W x4 Z S n7 f7 T U R O X2 X0 XB X7) (hn:X2<=9223372036854775807) (hr:aT Z (A ap S)/\aT R (A al O)) (l:Nat):∀ k,k<=X2->Ev (C0 H G q W x4 Z S n7 f7 T U R O X2 X0 XB X7 Ud XK) (.L0 (k:Int) l (QX H G q W X0 X7 Z S n7 f7 T U R O Ud XK k)) (.tup [D (QX H G q W X0 X7 Z S n7 f7 T U R O Ud XK X2),D 0]):=by
 refine gG λk hk ih=>Ev.of rfl ?_;have ll:=Ya.ll;have lu:=Ya.lu;by_cases XD:k<X2
 ·have hw:E ((k:Int)+1)=((k+1:Nat):Int):=by rw[C4 I I];omega
  have ih:=ih XD;rw[← hw]at ih;have c:=Ya.cl k I;have ix:Fg (A M X0) k=true->y5 H q (A ao W) X2 (A M X0) (k:Int):=λh=>ak0 (G:=A au G) (X7:=A cr X7) Ya.v2.l2 Ya.lm (Ya.co k I) XD h;have bx:=IT (H:=Z) (G:=A ap S) (q:=n7) (W:=A AV f7) (n4:=T) (f4:=A ar U) (n6:=R) (f6:=A al O) (x8:=Ud) (x9:=XK);have pc:gH (aW (A al O k))/\gH (bZ (A al O k)):=by have N:=c.px;have Q:=c.py;exact⟨⟨I,I⟩,⟨I,I⟩⟩
  refine iY (Cg I) (bf (Cg I) (CE (CE (CE (CE (jy (λ_=>(Cg I)) (CE (CE (CE (CE (Ct (λh=>bf h (bf h (Cv hr (AY (Ct (λQ=>?_) (λQ=>b9 ?_)))))) (λh=>b9 ?_))))))))))))
  ·rw[(gQ Ud XK).1,(gQ Ud XK).2.1,(gQ Ud XK).2.2.1,(gQ Ud XK).2.2.2.1,(gQ Ud XK).2.2.2.2.1,(gQ Ud XK).2.2.2.2.2.1]
   refine Cv ⟨I,I,hz,ix h,ajc (ix h) Ya.tb,c.hd,pc.1,pc.2,bx.1,bx.2.1,bx.2.2.1,bx.2.2.2⟩ (AY (b9 ?_));have h:Pu X0 Z S n7 f7 T U R O Ud k=true:=by unfold Pu uD;rw[show Fg (A M X0) k=true from h];exact(qn _ _).1.symm.trans Q
   unfold QX sG at ih;rw[hxx (show uD (A M X0) Z (A ap S) n7 (A AV f7) T (A ar U) R (A al O) Ud k=true from h)]at ih;exact ih
  ·have h:Pu X0 Z S n7 f7 T U R O Ud k=false:=by unfold Pu uD;rw[show Fg (A M X0) k=true from h];exact(qn _ _).1.symm.trans Q
   unfold QX sG at ih;rw[LL (show uD (A M X0) Z (A ap S) n7 (A AV f7) T (A ar U) R (A al O) Ud k=false from h)]at ih;exact ih
  ·have h:Pu X0 Z S n7 f7 T U R O Ud k=false:=by unfold Pu uD;rw[show Fg (A M X0) k=false from h];rfl
   unfold QX sG at ih;rw[LL (show uD (A M X0) Z (A ap S) n7 (A AV f7) T (A ar U) R (A al O) Ud k=false from h)]at ih;exact ih
 ·have e:k=X2:=by omega
  refine ib (fB I) ?_;rw[e];exact Br rfl
theorem if4 (hp:aT H (A au G)/\aT q (A ao W)/\aT Z (A ap S)/\aT R (A al O)):bj (Ev (C0 H G q W x4 Z S n7 f7 T U R O X2 X0 XB X7 Ud XK)) (WH H G q W x4 Z S n7 f7 T U R O X2 X0 XB X7 Ud XK) (.tup [D (jl (rj (eF H (A au G) q (A ao W) x4 Z (A ap S) n7 (A AV f7) T (A ar U) R (A al O) X2 (A M X0) XB (A cr X7)) Z (A ap S) n7 (A AV f7) T (A ar U) R (A al O) Ud XK) (sG H (A au G) q (A ao W) (A M X0) (A cr X7) Z (A ap S) n7 (A AV f7) T (A ar U) R (A al O) Ud XK X2)),D (rj (eF H (A au G) q (A ao W) x4 Z (A ap S) n7 (A AV f7) T (A ar U) R (A al O) X2 (A M X0) XB (A cr X7)) Z (A ap S) n7 (A AV f7) T (A ar U) R (A al O) Ud XK)]):=by refine Cv hp (AY (Ct (λh=>Br (Je (Xe (JA h)) (JA h))) (λh=>Cv ⟨hp.2.2.1,hp.2.2.2⟩ (AY ?_))));have h0:(eF H (A au G) q (A ao W) x4 Z (A ap S) n7 (A AV f7) T (A ar U) R (A al O) X2 (A M X0) XB (A cr X7))=0:=nm h;rw[(gQ Ud XK).2.2.2.2.2.2];refine Ct (λN=>Br (Je (Fx h0) (JA N))) (λN=>AA λl=>ce λhn=>bm ?_);have e:(rj (eF H (A au G) q (A ao W) x4 Z (A ap S) n7 (A AV f7) T (A ar U) R (A al O) X2 (A M X0) XB (A cr X7)) Z (A ap S) n7 (A AV f7) T (A ar U) R (A al O) Ud XK)=0:=(Fx h0).trans (nm N);rw[e];exact aeF H G q W x4 Z S n7 f7 T U R O X2 X0 XB X7 Ud XK ⟨hp.1,hp.2.1⟩ (uz h0) hn ⟨hp.2.2.1,hp.2.2.2⟩ l 0 (Ho _)
def VV:aH:=cG [.agg [.sl au,.sl ao,tI,.sl ap,.sl AV,.sl ar,.sl al,.sl M,.sl cr],tI,tI] (λ
 |[.agg [.sl H G,.sl q W,.int _ x4,.sl Z S,.sl n7 f7,.sl T U,.sl R O,.sl X2 X0,.sl XB X7],.int _ Ud,.int _ XK]=>aT H G/\aT q W/\aT Z S/\aT R O|_=>False) λ
 |[.agg [.sl H G,.sl q W,.int _ x4,.sl Z S,.sl n7 f7,.sl T U,.sl R O,.sl X2 X0,.sl XB X7],.int _ Ud,.int _ XK]=>.tup [D (jl (rj (eF H G q W x4 Z S n7 f7 T U R O X2 X0 XB X7) Z S n7 f7 T U R O Ud XK) (sG H G q W X0 X7 Z S n7 f7 T U R O Ud XK X2)),D (rj (eF H G q W x4 Z S n7 f7 T U R O X2 X0 XB X7) Z S n7 f7 T U R O Ud XK)]|_=>.any
theorem hts:dL VV 14:=bH OE λ_ hp=>ra (hsl ..) (if4 _ _ _ _ _ _ _ _ _ _ _ _ _ _ _ _ _ _ _ hp)
end
end Go.Dx
namespace Go.Dx
open Go.IntKind (i64 u64 u8)
noncomputable section
def Ig (XU B C Bp u v:Int):Int:=XU+B*u+(C+Bp*u)*v
theorem Nm {XU B p X1 u:Int} (h:p<=u) (k:u<=X1):XU+B*p<=XU+B*u∨XU+B*X1<=XU+B*u:=by
 rcases PF 0 B with b|b
 ·exact .inl (by have:=Dw h b;omega)
 ·exact .inr (by have:=P2 b k;omega)
theorem Oa {XU B p X1 u:Int} (h:p<=u) (k:u<=X1):XU+B*u<=XU+B*p∨XU+B*u<=XU+B*X1:=by
 rcases PF 0 B with b|b
 ·exact .inr (by have:=Dw k b;omega)
 ·exact .inl (by have:=P2 b h;omega)
theorem mU (XU B C Bp u v:Int):Ig XU B C Bp u v=(XU+C*v)+(B+Bp*v)*u:=by unfold Ig;grind
section
variable {XU B C Bp p X1 r s u v:Int} (N:p<=u) (Q:u<=X1) (h3:r<=v) (h4:v<=s)
include XU B C Bp p X1 r s u v N Q h3 h4
theorem rdY:∃ x At,(x=p∨x=X1)/\(At=r∨At=s)/\Ig XU B C Bp x At<=Ig XU B C Bp u v:=by
 have e1:∃ x,(x=p∨x=X1)/\Ig XU B C Bp x v<=Ig XU B C Bp u v:=by
  rcases Nm (XU:=XU+C*v) (B:=B+Bp*v) N Q with h|h
  ·exact⟨p,.inl rfl,by rw[mU,mU];exact h⟩
  ·exact⟨X1,.inr rfl,by rw[mU,mU];exact h⟩
 obtain⟨x,hx,e1⟩:=e1;rcases Nm (XU:=XU+B*x) (B:=C+Bp*x) h3 h4 with h|h
 ·exact⟨x,r,hx,.inl rfl,HE h e1⟩
 ·exact⟨x,s,hx,.inr rfl,HE h e1⟩
theorem acj:∃ x At,(x=p∨x=X1)/\(At=r∨At=s)/\Ig XU B C Bp u v<=Ig XU B C Bp x At:=by
 have e1:∃ x,(x=p∨x=X1)/\Ig XU B C Bp u v<=Ig XU B C Bp x v:=by
  rcases Oa (XU:=XU+C*v) (B:=B+Bp*v) N Q with h|h
  ·exact⟨p,.inl rfl,by rw[mU,mU];exact h⟩
  ·exact⟨X1,.inr rfl,by rw[mU,mU];exact h⟩
 obtain⟨x,hx,e1⟩:=e1;rcases Oa (XU:=XU+B*x) (B:=C+Bp*x) h3 h4 with h|h
 ·exact⟨x,r,hx,.inl rfl,HE e1 h⟩
 ·exact⟨x,s,hx,.inr rfl,HE e1 h⟩
end
def cell (x At z w a b c d u v:Int):Int:=(x*(d-v)+At*(v-c))*(b-u)+(z*(d-v)+w*(v-c))*(u-a)
theorem qH (x At z w a b c d u v:Int):cell x At z w a b c d u v=Ig ((x*d-At*c)*b-(z*d-w*c)*a) ((z*d-w*c)-(x*d-At*c)) ((At-x)*b-(w-z)*a) ((w-z)-(At-x)) u v:=by unfold cell Ig;grind
theorem hbv {x At z w a b c d u v s t r:Int} (hs:s*(d-c)<=x*(d-v)+At*(v-c)) (ht:t*(d-c)<=z*(d-v)+w*(v-c)) (hr:r*(b-a)<=s*(b-u)+t*(u-a)) (N:a<=u) (Q:u<=b) (h3:c<=d) :
 r*((b-a)*(d-c))<=cell x At z w a b c d u v:=by
 have k1:=H9 hs (show 0<=b-u by omega);have k2:=H9 ht (show 0<=u-a by omega);have k3:=H9 hr (show 0<=d-c by omega);unfold cell;have e1:r*((b-a)*(d-c))=r*(b-a)*(d-c):=by grind
 have e2:(s*(b-u)+t*(u-a))*(d-c)=s*(d-c)*(b-u)+t*(d-c)*(u-a):=by grind
 rw[e1];rw[e2]at k3;omega
theorem hnc {x At z w a b c d u v s t r:Int} (hs:x*(d-v)+At*(v-c)<=s*(d-c)) (ht:z*(d-v)+w*(v-c)<=t*(d-c)) (hr:s*(b-u)+t*(u-a)<=r*(b-a)) (N:a<=u) (Q:u<=b) (h3:c<=d) :
 cell x At z w a b c d u v<=r*((b-a)*(d-c)):=by
 have k1:=H9 hs (show 0<=b-u by omega);have k2:=H9 ht (show 0<=u-a by omega);have k3:=H9 hr (show 0<=d-c by omega);unfold cell;have e1:r*((b-a)*(d-c))=r*(b-a)*(d-c):=by grind
 have e2:(s*(b-u)+t*(u-a))*(d-c)=s*(d-c)*(b-u)+t*(d-c)*(u-a):=by grind
 rw[e1];rw[e2]at k3;omega
end
end Go.Dx
namespace Go.Dx
open Go.IntKind (i64 u64 u8)
open Go.Sx Go.Proofs
variable (x0 x1 x2 x3 x4 x5:Int)
noncomputable section
section
variable {a b:Int} (hb:0<b) (N:-4000000000000000000<=a) (Q:a<=4000000000000000000)
include a b hb N Q
theorem yp:bO a b=a / b:=by
 have e:=Q2 a b;have r1:=PQ a (by omega:b≠0);have r2:=P7 a hb;have bd:=kK hb N Q;unfold bO;rcases PF 0 a with h|h
 ·rw[fB (by have:=Int.tmod_nonneg b h;omega),cond_false,MI h,C4 I I]
 ·obtain ⟨n,rfl⟩:∃ n,a=-n:=⟨-a,I⟩
  have hn:0<=n:=by omega
  have ie10:=Q2 n b;have q1:=PQ n (by omega:b≠0);have q2:=P7 n hb;have ic16:=kK (n:=n) (B:=4000000000000000000) hb I I;rw[Int.neg_tmod,Int.neg_tdiv,MI hn,Int.tmod_eq_emod_of_nonneg hn,C4 (x:=-(n / b)) I I];by_cases X1:n % b=0
  ·rw[X1,fB I,cond_false];refine(uA hb (r:=0) ?_ (H7 _) hb).symm;rw[Int.mul_neg];omega
  ·rw[Cg I,cond_true,C4 I I]
   refine(uA hb (r:=b-n % b) ?_ I I).symm;have:b*(-(n / b)-1)=-(b*(n / b))-b:=by rw[Int.mul_sub,Int.mul_neg,Int.mul_one]
   rw[this];omega
theorem qM:bO a b*b<=a/\a<bO a b*b+b:=by rw[yp hb N Q,Int.mul_comm];have e:=Q2 a b;have r1:=PQ a (by omega:b≠0);have r2:=P7 a hb;omega
theorem jn:a<=bD a b*b/\bD a b*b<a+b:=by unfold bD;rw[C4 (x:=0-a) I I];have k:=qM (a:=0-a) hb I I;have bd:=kK (n:=0-a) (B:=4000000000000000000) hb I I;rw[← yp hb I I]at bd;rw[C4 (x:=0-bO (0-a) b) I I,Int.sub_mul,Int.zero_mul];omega
end
section
variable {x At a b n:Int} (ak:a<b) (ha:-200000000<=a/\a<=200000000) (hb:-200000000<=b/\b<=200000000) (hn:a<=n/\n<=b) (hx:0<=x/\x<=1000000000) (hy:0<=At/\At<=1000000000)
include x At a b n ak ha hb hn hx hy
theorem J0 :
 gz x At a b n*(b-a)<=x*(b-n)+At*(n-a)/\0<=gz x At a b n/\gz x At a b n<=1000000000:=by
 have k1:=mF (x:=x) (p:=b-n) (XU:=1000000000) (B:=400000000) I I I I;have k2:=mF (x:=At) (p:=n-a) (XU:=1000000000) (B:=400000000) I I I I;have z1:=Hf hx.1 (show 0<=b-n by omega);have z2:=Hf hy.1 (show 0<=n-a by omega);have u1:=H9 hx.2 (show 0<=b-n by omega);have u2:=H9 hy.2 (show 0<=n-a by omega);unfold gz;rw[C4 (x:=b-n) I I,C4 (x:=n-a) I I,C4 (x:=b-a) I I,C4 (x:=x*(b-n)) I I,C4 (x:=At*(n-a)) I I,C4 I I];have f:=qM (a:=x*(b-n)+At*(n-a)) (b:=b-a) I I I;refine⟨f.1,?_,?_⟩
 ·rw[yp I I I];exact PT I I
 ·rw[yp I I I];exact Nt (Int.ediv_lt_of_lt_mul I I)
theorem OD :
 x*(b-n)+At*(n-a)<=eM x At a b n*(b-a)/\0<=eM x At a b n/\eM x At a b n<=1000000000:=by
 have k1:=mF (x:=x) (p:=b-n) (XU:=1000000000) (B:=400000000) I I I I;have k2:=mF (x:=At) (p:=n-a) (XU:=1000000000) (B:=400000000) I I I I;have z1:=Hf hx.1 (show 0<=b-n by omega);have z2:=Hf hy.1 (show 0<=n-a by omega);have u1:=H9 hx.2 (show 0<=b-n by omega);have u2:=H9 hy.2 (show 0<=n-a by omega);unfold eM;rw[C4 (x:=b-n) I I,C4 (x:=n-a) I I,C4 (x:=b-a) I I,C4 (x:=x*(b-n)) I I,C4 (x:=At*(n-a)) I I,C4 I I];have f:=jn (a:=x*(b-n)+At*(n-a)) (b:=b-a) I I I;refine⟨f.1,?_,?_⟩
 ·have:0<=bD (x*(b-n)+At*(n-a)) (b-a)*(b-a):=by omega
  exact JF (by omega:0*(b-a)<=_) (by omega:0<b-a)
 ·have h:bD (x*(b-n)+At*(n-a)) (b-a)*(b-a)<1000000001*(b-a):=by omega
  exact Nt (P1 h I)
end
def tU (f:bl) (X9:Int) (i:Nat):Int:=aE (f i)*X9
section
variable {n:Nat} {f:bl} {X9:Int} (u:fO n f) (hn:2<=n/\n<=12) (hH:1<=X9/\X9<=30000)
include u hn hH
theorem jo (i:Nat) (hi:i+1<n):tU f X9 i<tU f X9 (i+1):=by have h:=Xl u hn hH i hi;rw[(fX u hn hH i I).1,(fX u hn hH (i+1) hi).1]at h;exact h
theorem W7:∀a b:Nat,a<b->b<n->tU f X9 a<tU f X9 b:=Oh (f:=tU f X9) (jo u hn hH)
theorem Cp {x:Int} (hx:tU f X9 0<=x/\x<=tU f X9 (n-1)):∃ i:Nat,aS n (A M (A M (bc f X9))) x=(i:Int)/\i+1<n/\tU f X9 i<=x/\x<=tU f X9 (i+1)/\∀ j:Nat,j+1<n->tU f X9 j<=x->x<=tU f X9 (j+1)->i=j∨(i=j+1/\x=tU f X9 (j+1)):=by
 have b0:=(fX u hn hH 0 I).2;have b1:=(fX u hn hH (n-1) I).2;have Yr:-200000000<=x/\x<=200000000:=by have N:tU f X9 0=aE (f 0)*X9:=rfl;have Q:tU f X9 (n-1)=aE (f (n-1))*X9:=rfl;omega
 have hb:=vh (f:=λk=>E (aE (f k)*X9)) (t:=x+1) (n:=n) (Oh (Xl u hn hH)) n 0 n I I (Dm _) (λa ha=>absurd ha (Ln a)) (λa N Q=>by omega);have e:Nf n (A M (A M (A M (bc f X9)))) (x+1)=B7 (λk=>E (aE (f k)*X9)) (x+1) n 0 n:=rfl;revert hb e;generalize B7 (λk=>E (aE (f k)*X9)) (x+1) n 0 n=r;intro hb e;have key:∀a,a<n->(tU f X9 a<=x↔a<r):=λa ha=>by rw[← hb.2 a ha];show _↔E (aE (f a)*X9)<x+1;rw[(fX u hn hH a ha).1];show aE (f a)*X9<=x↔_;omega
 have r0:0<r:=(key 0 I).1 hx.1;have evObt:=hb.1;unfold aS iG;rw[C4 (x:=x+1) I I,e,C4 (x:=(n:Int)-2) I I,C4 (x:=(r:Int)-1) I I];refine⟨min (r-1) (n-2),I,I,(key _ I).2 I,?_,?_⟩
 ·by_cases h:r<=n-1
  ·rw[show min (r-1) (n-2)+1=r by omega];have:¬tU f X9 r<=x:=λh=>Nat.lt_irrefl r ((key r I).1 h);omega
  ·rw[show min (r-1) (n-2)+1=n-1 by omega];exact hx.2
 ·intro j hj N Q
  have j1:=(key j I).1 N;by_cases h:j+1<r
  ·have h3:=(key (j+1) hj).2 h
   by_cases X1:j+2<n
   ·have k:=W7 u hn hH (j+1) (j+2) I X1
    have h5:¬j+2<r:=λh=>by have:=(key (j+2) X1).2 h;omega
    right;exact⟨I,I⟩
   ·left;omega
  ·left;omega
end
def wV (w:bl) (i k:Nat):Int:=aE (b7 (aI (w i)) k)
def zm (n m:Nat) (w:bl):Prop:=∀i,i<n->∀k,k<m->0<=wV w i k/\wV w i k<=1000000000
theorem ahQ {s x At z a b c d v:Int} (h:s*(d-c)<=At*(d-v)+z*(v-c)) (e:v=c) (hd:c<d) (hb:a<=c):s*(c-a)<=x*(c-v)+At*(v-a):=by subst e;rw[NE,NI,Int.add_zero]at h;rw[NE,NI,Int.zero_add];exact H9 (JF h I) I
theorem agw {s x At z a b c d v:Int} (h:At*(d-v)+z*(v-c)<=s*(d-c)) (e:v=c) (hd:c<d) (hb:a<=c):x*(c-v)+At*(v-a)<=s*(c-a):=by subst e;rw[NE,NI,Int.add_zero]at h;rw[NE,NI,Int.zero_add];exact H9 (JF h I) I
section
variable {n:Nat} {f:bl} {m:Nat} {g:bl} {w:bl} {X9:Int} (hu:fO n f) (y:fO m g) (hn:2<=n/\n<=12) (hm:2<=m/\m<=12) (hH:1<=X9/\X9<=30000) (hw:zm n m w)
include y hm hH hw
theorem nR {b:Int} {i K k0:Nat} (hi:i<n) (hK:K+1<m) (hk:k0+1<m) (N:tU g X9 K<=b) (Q:b<=tU g X9 (K+1)) (hs:K=k0∨(K=k0+1/\b=tU g X9 (k0+1))) :
 (ga (i:Int) (A [Ty.sl M] w) (A M (A M (bc g X9))) (K:Int) b*(tU g X9 (k0+1)-tU g X9 k0)<=wV w i k0*(tU g X9 (k0+1)-b)+wV w i (k0+1)*(b-tU g X9 k0)/\0<=ga (i:Int) (A [Ty.sl M] w) (A M (A M (bc g X9))) (K:Int) b/\ga (i:Int) (A [Ty.sl M] w) (A M (A M (bc g X9))) (K:Int) b<=1000000000) /\
 wV w i k0*(tU g X9 (k0+1)-b)+wV w i (k0+1)*(b-tU g X9 k0)<=eN (i:Int) (A [Ty.sl M] w) (A M (A M (bc g X9))) (K:Int) b*(tU g X9 (k0+1)-tU g X9 k0)/\0<=eN (i:Int) (A [Ty.sl M] w) (A M (A M (bc g X9))) (K:Int) b/\eN (i:Int) (A [Ty.sl M] w) (A M (A M (bc g X9))) (K:Int) b<=1000000000:=by
 have tK:=fX y hm hH K I;have tK1:=fX y hm hH (K+1) hK;have up:=jo y hm hH K hK;have upk:=jo y hm hH k0 hk;have e0:ga (i:Int) (A [Ty.sl M] w) (A M (A M (bc g X9))) (K:Int) b=gz (wV w i K) (wV w i (K+1)) (tU g X9 K) (tU g X9 (K+1)) b:=by unfold ga;rw[C4 (x:=(K:Int)+1) I I,show((K:Int)+1).toNat=K+1 by omega,Hk,Hk];show gz (wV w i K) (wV w i (K+1)) (E (aE (g K)*X9)) (E (aE (g (K+1))*X9)) b=_;rw[tK.1,tK1.1];rfl
 have e1:eN (i:Int) (A [Ty.sl M] w) (A M (A M (bc g X9))) (K:Int) b=eM (wV w i K) (wV w i (K+1)) (tU g X9 K) (tU g X9 (K+1)) b:=by unfold eN;rw[C4 (x:=(K:Int)+1) I I,show((K:Int)+1).toNat=K+1 by omega,Hk,Hk];show eM (wV w i K) (wV w i (K+1)) (E (aE (g K)*X9)) (E (aE (g (K+1))*X9)) b=_;rw[tK.1,tK1.1];rfl
 have n11:-200000000<=tU g X9 K/\tU g X9 K<=200000000:=by have h:tU g X9 K=aE (g K)*X9:=rfl;omega
 have bK1:-200000000<=tU g X9 (K+1)/\tU g X9 (K+1)<=200000000:=by have h:tU g X9 (K+1)=aE (g (K+1))*X9:=rfl;omega
 have lo:=J0 up n11 bK1 ⟨N,Q⟩ (hw i hi K I) (hw i hi (K+1) hK);have YC:=OD up n11 bK1 ⟨N,Q⟩ (hw i hi K I) (hw i hi (K+1) hK);rw[e0,e1];refine⟨⟨?_,lo.2⟩,?_,YC.2⟩
 ·rcases hs with rfl|⟨rfl,e⟩
  ·exact lo.1
  ·exact ahQ (b:=0) lo.1 e up I
 ·rcases hs with rfl|⟨rfl,e⟩
  ·exact YC.1
  ·exact agw (b:=0) YC.1 e up I
end
theorem fn0 {r s t p X1 u x At z w a b c d v:Int} (h:r*(X1-p)<=s*(X1-u)+t*(u-p)) (e:u=p) (hq:p<X1) (e2:u=b) (hs:s*(d-c)<=z*(d-v)+w*(v-c)) (ak:a<=b) (hcd:c<=d):r*((b-a)*(d-c))<=cell x At z w a b c d u v:=by
 subst e;rw[NE,NI,Int.add_zero]at h;have hr:r<=s:=JF h I;subst e2;unfold cell;rw[NE,NI,Int.zero_add];have k1:=H9 hs (show 0<=u-a by omega);have k2:=H9 hr (Hf (show 0<=u-a by omega) (show 0<=d-c by omega));have e3:s*((u-a)*(d-c))=s*(d-c)*(u-a):=by grind
 omega
theorem hdi {r s t p X1 u x At z w a b c d v:Int} (h:s*(X1-u)+t*(u-p)<=r*(X1-p)) (e:u=p) (hq:p<X1) (e2:u=b) (hs:z*(d-v)+w*(v-c)<=s*(d-c)) (ak:a<=b) (hcd:c<=d):cell x At z w a b c d u v<=r*((b-a)*(d-c)):=by
 subst e;rw[NE,NI,Int.add_zero]at h;have hr:s<=r:=JF h I;subst e2;unfold cell;rw[NE,NI,Int.zero_add];have k1:=H9 hs (show 0<=u-a by omega);have k2:=H9 hr (Hf (show 0<=u-a by omega) (show 0<=d-c by omega));have e3:s*((u-a)*(d-c))=s*(d-c)*(u-a):=by grind
 omega
section
variable {n:Nat} {f:bl} {m:Nat} {g:bl} {w:bl} {X9:Int} (hu:fO n f) (y:fO m g) (hn:2<=n/\n<=12) (hm:2<=m/\m<=12) (hH:1<=X9/\X9<=30000) (hw:zm n m w)
section
variable (hu:fO n f) (hn:2<=n/\n<=12) (hH:1<=X9/\X9<=30000) {i:Nat}
include hu hn hH i
theorem sD {j:Nat} (h:i<=j) (hj:j<n):tU f X9 i<=tU f X9 j:=by
 rcases Nat.lt_or_eq_of_le h with h|rfl
 ·exact Int.le_of_lt (W7 hu hn hH i j h hj)
 ·exact H7 _
theorem s4 (h:i<n):-200000000<=tU f X9 i/\tU f X9 i<=200000000:=by have k:=fX hu hn hH i h;have e:tU f X9 i=aE (f i)*X9:=rfl;omega
end
include hu y hn hm hH
theorem ye {a b:Int}:bb n (A M (A M (bc f X9))) m (A M (A M (bc g X9))) a b=true↔(tU f X9 0<=a/\a<=tU f X9 (n-1))/\tU g X9 0<=b/\b<=tU g X9 (m-1):=by unfold bb aB;show(bif(bif decide (E (aE (f 0)*X9)<=a) then decide (a<=E (aE (f (E ((n:Int)-1)).toNat)*X9)) else false) then(bif decide (E (aE (g 0)*X9)<=b) then decide (b<=E (aE (g (E ((m:Int)-1)).toNat)*X9)) else false) else false)=true↔_;rw[C4 (x:=(n:Int)-1) I I,C4 (x:=(m:Int)-1) I I,show((n:Int)-1).toNat=n-1 by omega,show((m:Int)-1).toNat=m-1 by omega];rw[(fX hu hn hH 0 I).1,(fX hu hn hH (n-1) I).1,(fX y hm hH 0 I).1,(fX y hm hH (m-1) I).1];show(bif(bif decide (tU f X9 0<=a) then decide (a<=tU f X9 (n-1)) else false) then(bif decide (tU g X9 0<=b) then decide (b<=tU g X9 (m-1)) else false) else false)=true↔_;by_cases N:tU f X9 0<=a<;>by_cases Q:a<=tU f X9 (n-1)<;>by_cases h3:tU g X9 0<=b<;>by_cases h4:b<=tU g X9 (m-1)<;>simp[N,Q,h3,h4]
include hw
theorem CC {a b side:Int} {i0 k0:Nat} (hi:i0+1<n) (hk:k0+1<m) (ha:tU f X9 i0<=a/\a<=tU f X9 (i0+1)) (hb:tU g X9 k0<=b/\b<=tU g X9 (k0+1)) :
 aY w n (A M (bc f X9)) m (A M (bc g X9)) a b*((tU f X9 (i0+1)-tU f X9 i0)*(tU g X9 (k0+1)-tU g X9 k0))<=cell (wV w i0 k0) (wV w i0 (k0+1)) (wV w (i0+1) k0) (wV w (i0+1) (k0+1)) (tU f X9 i0) (tU f X9 (i0+1)) (tU g X9 k0) (tU g X9 (k0+1)) a b /\
 cell (wV w i0 k0) (wV w i0 (k0+1)) (wV w (i0+1) k0) (wV w (i0+1) (k0+1)) (tU f X9 i0) (tU f X9 (i0+1)) (tU g X9 k0) (tU g X9 (k0+1)) a b<=aZ w side n (A M (bc f X9)) m (A M (bc g X9)) a b*((tU f X9 (i0+1)-tU f X9 i0)*(tU g X9 (k0+1)-tU g X9 k0)):=by
 have a0:=sD hu hn hH (Ho i0) I;have a1:=sD hu hn hH (show i0+1<=n-1 by omega) I;have b0:=sD y hm hH (Ho k0) I;have b1:=sD y hm hH (show k0+1<=m-1 by omega) I;have has:=(ye hu y hn hm hH (a:=a) (b:=b)).2 ⟨⟨I,I⟩,I,I⟩;obtain⟨XY,eI,I1,I2,I3,I4⟩:=Cp hu hn hH (x:=a) ⟨I,I⟩;obtain⟨K,eK,K1,K2,K3,K4⟩:=Cp y hm hH (x:=b) ⟨I,I⟩;have hs:=I4 i0 hi ha.1 ha.2;have XX:=nR y hm hH hw (i:=XY) I K1 hk K2 K3 (K4 k0 hk hb.1 hb.2);have R1:=nR y hm hH hw (i:=XY+1) I1 K1 hk K2 K3 (K4 k0 hk hb.1 hb.2);have up:=jo hu hn hH XY I1;have upi:=jo hu hn hH i0 hi;have upk:=jo y hm hH k0 hk;have bI:=s4 hu hn hH (show XY<n by omega);have bI1:=s4 hu hn hH I1;have eA:aE (A M (bc f X9) (XY:Int).toNat)=tU f X9 XY:=by rw[Hk];exact(fX hu hn hH XY I).1
 have eB:aE (A M (bc f X9) ((XY+1:Nat):Int).toNat)=tU f X9 (XY+1):=by rw[Hk];exact(fX hu hn hH (XY+1) I1).1
 unfold aY aZ;rw[has,Mq,cond_false,cond_false,eI,eK,C4 (x:=(XY:Int)+1) I I,show(XY:Int)+1=((XY+1:Nat):Int) by omega,eA,eB];revert XX R1;generalize ga (XY:Int) (A [Ty.sl M] w) (A M (A M (bc g X9))) (K:Int) b=s0;generalize eN (XY:Int) (A [Ty.sl M] w) (A M (A M (bc g X9))) (K:Int) b=s1;generalize ga ((XY+1:Nat):Int) (A [Ty.sl M] w) (A M (A M (bc g X9))) (K:Int) b=t0;generalize eN ((XY+1:Nat):Int) (A [Ty.sl M] w) (A M (A M (bc g X9))) (K:Int) b=t1;intro XX R1;have lo:=(J0 up bI bI1 ⟨I2,I3⟩ XX.1.2 R1.1.2).1;have YC:=(OD up bI bI1 ⟨I2,I3⟩ XX.2.2 R1.2.2).1;rcases hs with rfl|⟨rfl,e⟩
 ·exact⟨hbv XX.1.1 R1.1.1 lo ha.1 ha.2 I,hnc XX.2.1 R1.2.1 YC ha.1 ha.2 I⟩
 ·exact⟨fn0 lo e up e XX.1.1 I I,hdi YC e up e XX.2.1 I I⟩
end
section
variable {n:Nat} {f:bl} {m:Nat} {g:bl} {w:bl} {X9:Int} (hu:fO n f) (y:fO m g) (hn:2<=n/\n<=12) (hm:2<=m/\m<=12) (hH:1<=X9/\X9<=30000) (hw:zm n m w)
section
variable (hu:fO n f) (hn:2<=n/\n<=12) (hH:1<=X9/\X9<=30000)
include hu hn hH
theorem MG {i:Nat} (hi:i<n):aE (A M (bc f X9) i)=tU f X9 i:=(fX hu hn hH i hi).1
theorem M7 {x0 x1 u:Int} {i0:Nat} (hi:i0+1<n) (h:max x0 (tU f X9 i0)<=min x1 (tU f X9 (i0+1))) (e:u=max x0 (tU f X9 i0)∨u=min x1 (tU f X9 (i0+1))) :
 OS n (A M (bc f X9)) x0 x1 u/\tU f X9 i0<=u/\u<=tU f X9 (i0+1):=by
 have up:=jo hu hn hH i0 hi;have b:∀j,j<n->x0<tU f X9 j->tU f X9 j<x1->BU x0 x1 (aE (A M (bc f X9) j))=true:=λj hj N Q=>by rw[MG hu hn hH hj];unfold BU;rw[Cg N,Cg Q];rfl
 refine⟨?_,I,I⟩;rcases e with e|e
 ·by_cases N:x0<tU f X9 i0
  ·by_cases Q:tU f X9 i0<x1
   ·exact .inr (.inr ⟨i0,I,b i0 I N Q,by rw[MG hu hn hH I];omega⟩)
   ·exact .inr (.inl I)
  ·exact .inl I
 ·by_cases N:tU f X9 (i0+1)<x1
  ·by_cases Q:x0<tU f X9 (i0+1)
   ·exact .inr (.inr ⟨i0+1,hi,b (i0+1) hi Q N,by rw[MG hu hn hH hi];omega⟩)
   ·exact .inl I
  ·exact .inr (.inl I)
end
theorem zC (x At z w a b c d u v s:Int):cell x At z w (a*s) (b*s) (c*s) (d*s) (u*s) (v*s)=s*s*cell x At z w a b c d u v:=by unfold cell;grind
theorem UZ {x t s a:Int} (N:x*s<=a) (Q:t*s<=a):max x t*s<=a:=by rw[Int.max_def];split<;>assumption
theorem WI {x t s a:Int} (N:a<=x*s) (Q:a<=t*s):a<=min x t*s:=by rw[Int.min_def];split<;>assumption
include hu y hn hm hH
theorem Rw {a b:Int}:bb n (A M (bc f X9)) m (A M (bc g X9)) a b=true↔(tU f X9 0<=a/\a<=tU f X9 (n-1))/\tU g X9 0<=b/\b<=tU g X9 (m-1):=by have k:=ye hu y hn hm hH (a:=a) (b:=b);rw[e9,e9]at k;exact k
include hw
theorem abj {x0 x1 y0 y1 side u v:Int} {i0 k0:Nat} (hi:i0+1<n) (hk:k0+1<m) (hx:max x0 (tU f X9 i0)<=min x1 (tU f X9 (i0+1))) (hy:max y0 (tU g X9 k0)<=min y1 (tU g X9 (k0+1)))
 (eu:u=max x0 (tU f X9 i0)∨u=min x1 (tU f X9 (i0+1))) (ev:v=max y0 (tU g X9 k0)∨v=min y1 (tU g X9 (k0+1))) :
 (wL w side n (A M (bc f X9)) m (A M (bc g X9)) x0 x1 y0 y1).1*((tU f X9 (i0+1)-tU f X9 i0)*(tU g X9 (k0+1)-tU g X9 k0))<=cell (wV w i0 k0) (wV w i0 (k0+1)) (wV w (i0+1) k0) (wV w (i0+1) (k0+1)) (tU f X9 i0) (tU f X9 (i0+1)) (tU g X9 k0) (tU g X9 (k0+1)) u v /\
 cell (wV w i0 k0) (wV w i0 (k0+1)) (wV w (i0+1) k0) (wV w (i0+1) (k0+1)) (tU f X9 i0) (tU f X9 (i0+1)) (tU g X9 k0) (tU g X9 (k0+1)) u v<=(wL w side n (A M (bc f X9)) m (A M (bc g X9)) x0 x1 y0 y1).2*((tU f X9 (i0+1)-tU f X9 i0)*(tU g X9 (k0+1)-tU g X9 k0)):=by
 obtain⟨yaj,u1,u2⟩:=M7 hu hn hH hi hx eu;obtain⟨iv',v1,v2⟩:=M7 y hm hH hk hy ev;have a0:=sD hu hn hH (Ho i0) I;have a1:=sD hu hn hH (show i0+1<=n-1 by omega) I;have b0:=sD y hm hH (Ho k0) I;have b1:=sD y hm hH (show k0+1<=m-1 by omega) I;have c:=LQ w side n (A M (bc f X9)) m (A M (bc g X9)) (x0:=x0) (x1:=x1) (y0:=y0) (y1:=y1) (u:=u) (v:=v) (.inr ⟨yaj,iv',(Rw hu y hn hm hH).2 ⟨⟨I,I⟩,I,I⟩⟩);have k:=CC hu y hn hm hH hw (side:=side) hi hk ⟨u1,u2⟩ ⟨v1,v2⟩;have up:=jo hu hn hH i0 hi;have vp:=jo y hm hH k0 hk;have Bp:0<=(tU f X9 (i0+1)-tU f X9 i0)*(tU g X9 (k0+1)-tU g X9 k0):=Hf I I;exact⟨HE (H9 c.1 Bp) k.1,HE k.2 (H9 c.2 Bp)⟩
theorem ajp {x0 x1 y0 y1 side s a b:Int} {i0 k0:Nat} (hs:0<s) (hi:i0+1<n) (hk:k0+1<m) (ha:x0*s<=a/\a<=x1*s) (hb:y0*s<=b/\b<=y1*s) (n13:tU f X9 i0*s<=a/\a<=tU f X9 (i0+1)*s) (cb:tU g X9 k0*s<=b/\b<=tU g X9 (k0+1)*s) :
 s*s*((wL w side n (A M (bc f X9)) m (A M (bc g X9)) x0 x1 y0 y1).1*((tU f X9 (i0+1)-tU f X9 i0)*(tU g X9 (k0+1)-tU g X9 k0)))<=cell (wV w i0 k0) (wV w i0 (k0+1)) (wV w (i0+1) k0) (wV w (i0+1) (k0+1)) (tU f X9 i0*s) (tU f X9 (i0+1)*s) (tU g X9 k0*s) (tU g X9 (k0+1)*s) a b /\
 cell (wV w i0 k0) (wV w i0 (k0+1)) (wV w (i0+1) k0) (wV w (i0+1) (k0+1)) (tU f X9 i0*s) (tU f X9 (i0+1)*s) (tU g X9 k0*s) (tU g X9 (k0+1)*s) a b<=s*s*((wL w side n (A M (bc f X9)) m (A M (bc g X9)) x0 x1 y0 y1).2*((tU f X9 (i0+1)-tU f X9 i0)*(tU g X9 (k0+1)-tU g X9 k0))):=by
 have pa:=UZ ha.1 n13.1;have qa:=WI ha.2 n13.2;have pb:=UZ hb.1 cb.1;have qb:=WI hb.2 cb.2;have le:∀{p X1 c:Int},p*s<=c->c<=X1*s->p<=X1:=λN Q=>JF (HE N Q) hs;have hx:=le pa qa;have hy:=le pb qb;have ss:0<=s*s:=Hf I I;have n14:=λ{u v:Int}=>abj hu y hn hm hH hw (x0:=x0) (x1:=x1) (y0:=y0) (y1:=y1) (side:=side) (u:=u) (v:=v) hi hk hx hy;constructor
 ·rw [qH]
  obtain⟨X,Y,eX,eY,Y3⟩:=rdY (XU:=_) (B:=_) (C:=_) (Bp:=_) pa qa pb qb;refine HE ?_ Y3;rw[← qH];have key:∀u v:Int,(u=max x0 (tU f X9 i0)∨u=min x1 (tU f X9 (i0+1)))->(v=max y0 (tU g X9 k0)∨v=min y1 (tU g X9 (k0+1)))->X=u*s->Y=v*s->s*s*((wL w side n (A M (bc f X9)) m (A M (bc g X9)) x0 x1 y0 y1).1*((tU f X9 (i0+1)-tU f X9 i0)*(tU g X9 (k0+1)-tU g X9 k0)))<=cell (wV w i0 k0) (wV w i0 (k0+1)) (wV w (i0+1) k0) (wV w (i0+1) (k0+1)) (tU f X9 i0*s) (tU f X9 (i0+1)*s) (tU g X9 k0*s) (tU g X9 (k0+1)*s) X Y:=by rintro u v eu ev rfl rfl;rw[zC];exact Dw (n14 eu ev).1 ss
  rcases eX with rfl|rfl<;>rcases eY with rfl|rfl
  ·exact key _ _ (.inl rfl) (.inl rfl) rfl rfl
  ·exact key _ _ (.inl rfl) (.inr rfl) rfl rfl
  ·exact key _ _ (.inr rfl) (.inl rfl) rfl rfl
  ·exact key _ _ (.inr rfl) (.inr rfl) rfl rfl
 ·rw [qH]
  obtain⟨X,Y,eX,eY,Y3⟩:=acj (XU:=_) (B:=_) (C:=_) (Bp:=_) pa qa pb qb;refine HE Y3 ?_;rw[← qH];have key:∀u v:Int,(u=max x0 (tU f X9 i0)∨u=min x1 (tU f X9 (i0+1)))->(v=max y0 (tU g X9 k0)∨v=min y1 (tU g X9 (k0+1)))->X=u*s->Y=v*s->cell (wV w i0 k0) (wV w i0 (k0+1)) (wV w (i0+1) k0) (wV w (i0+1) (k0+1)) (tU f X9 i0*s) (tU f X9 (i0+1)*s) (tU g X9 k0*s) (tU g X9 (k0+1)*s) X Y<=s*s*((wL w side n (A M (bc f X9)) m (A M (bc g X9)) x0 x1 y0 y1).2*((tU f X9 (i0+1)-tU f X9 i0)*(tU g X9 (k0+1)-tU g X9 k0))):=by rintro u v eu ev rfl rfl;rw[zC];exact Dw (n14 eu ev).2 ss
  rcases eX with rfl|rfl<;>rcases eY with rfl|rfl
  ·exact key _ _ (.inl rfl) (.inl rfl) rfl rfl
  ·exact key _ _ (.inl rfl) (.inr rfl) rfl rfl
  ·exact key _ _ (.inr rfl) (.inl rfl) rfl rfl
  ·exact key _ _ (.inr rfl) (.inr rfl) rfl rfl
end
theorem yU {n:Nat} {f:bl} {X9 a:Int} (hu:fO n f) (hn:2<=n/\n<=12) (hH:1<=X9/\X9<=30000) (ha:tU f X9 0<=a/\a<=tU f X9 (n-1)):∃i:Nat,i+1<n/\tU f X9 i<=a/\a<=tU f X9 (i+1):=by obtain⟨i,_,N,Q,h3,_⟩:=Cp hu hn hH ha;exact⟨i,N,Q,h3⟩
theorem mH (f:bl) (d e:Int) (i:Nat):tU f e i*d=tU f d i*e:=by unfold tU;grind
section
variable {n:Nat} {f:bl} {m:Nat} {g:bl} {w:bl} {d e:Int} (hu:fO n f) (y:fO m g) (hn:2<=n/\n<=12) (hm:2<=m/\m<=12) (hd:1<=d/\d<=30000) (he:1<=e/\e<=30000) (hw:zm n m w)
include hu y hn hm hd he hw
theorem adO {u v x0 x1 y0 y1 s1 s2:Int} (hx:x0*d<=u*e/\u*e<=x1*d) (hy:y0*d<=v*e/\v*e<=y1*d) (h:bb n (A M (bc f d)) m (A M (bc g d)) u v=true) :
 aY w n (A M (bc f d)) m (A M (bc g d)) u v<=(wL w s2 n (A M (bc f e)) m (A M (bc g e)) x0 x1 y0 y1).2:=by
 obtain⟨⟨a0,a1⟩,b0,b1⟩:=(Rw hu y hn hm hd).1 h
 obtain⟨i,hi,i1,i2⟩:=yU hu hn hd ⟨a0,a1⟩
 obtain⟨k,hk,k1,k2⟩:=yU y hm hd ⟨b0,b1⟩
 have lo:=(CC hu y hn hm hd hw (side:=s1) hi hk ⟨i1,i2⟩ ⟨k1,k2⟩).1
 have e0:0<=e:=by omega
 have ov:=(ajp hu y hn hm he hw (x0:=x0) (x1:=x1) (y0:=y0) (y1:=y1) (side:=s2) (s:=d) (a:=u*e) (b:=v*e) I hi hk hx hy
  ⟨by rw[mH];exact H9 i1 e0,by rw[mH];exact H9 i2 e0⟩
  ⟨by rw[mH];exact H9 k1 e0,by rw[mH];exact H9 k2 e0⟩).2
 rw[mH f d e i,mH f d e (i+1),mH g d e k,mH g d e (k+1),zC]at ov
 have up:=jo hu hn hd i hi
 have vp:=jo y hm hd k hk
 have Bp:0<(tU f d (i+1)-tU f d i)*(tU g d (k+1)-tU g d k):=Int.mul_pos I I
 have ee:0<e*e:=Int.mul_pos I I
 have sc:d*d*((wL w s2 n (A M (bc f e)) m (A M (bc g e)) x0 x1 y0 y1).2*((tU f e (i+1)-tU f e i)*(tU g e (k+1)-tU g e k)))=e*e*((wL w s2 n (A M (bc f e)) m (A M (bc g e)) x0 x1 y0 y1).2*((tU f d (i+1)-tU f d i)*(tU g d (k+1)-tU g d k))):=by
  have N:=mH f d e (i+1);have Q:=mH f d e i;have h3:=mH g d e (k+1);have h4:=mH g d e k
  have h5:(tU f e (i+1)-tU f e i)*d=(tU f d (i+1)-tU f d i)*e:=by rw[Int.sub_mul,Int.sub_mul,N,Q]
  have h6:(tU g e (k+1)-tU g e k)*d=(tU g d (k+1)-tU g d k)*e:=by rw[Int.sub_mul,Int.sub_mul,h3,h4]
  generalize (wL w s2 n (A M (bc f e)) m (A M (bc g e)) x0 x1 y0 y1).2=o
  revert h5 h6
  generalize tU f e (i+1)-tU f e i=XU;generalize tU g e (k+1)-tU g e k=B;generalize tU f d (i+1)-tU f d i=A';generalize tU g d (k+1)-tU g d k=B'
  intro h5 h6
  calc d*d*(o*(XU*B))=o*((XU*d)*(B*d)):=by grind
   _=o*((A'*e)*(B'*e)):=by rw[h5,h6]
   _=e*e*(o*(A'*B')):=by grind
 rw[sc]at ov
 have c:=Int.le_of_mul_le_mul_left ov ee
 exact JF (HE lo c) Bp
theorem adN {u0 u1 v0 v1 x0 x1 y0 y1 s1 s2:Int} (hx:x0*d<=u0*e/\u0*e<=x1*d) (hy:y0*d<=v0*e/\v0*e<=y1*d) :
 (wL w s1 n (A M (bc f d)) m (A M (bc g d)) u0 u1 v0 v1).1<=0 ∨
 (wL w s1 n (A M (bc f d)) m (A M (bc g d)) u0 u1 v0 v1).1<=(wL w s2 n (A M (bc f e)) m (A M (bc g e)) x0 x1 y0 y1).2:=by
 have c:=(LQ w s1 n (A M (bc f d)) m (A M (bc g d)) (x0:=u0) (x1:=u1) (y0:=v0) (y1:=v1) (u:=u0) (v:=v0) (.inl ⟨.inl rfl,.inl rfl⟩)).1;cases h:bb n (A M (bc f d)) m (A M (bc g d)) u0 v0 with
 |true=>exact .inr (HE c (adO hu y hn hm hd he hw (s1:=s1) hx hy h))
 |false=>left;refine HE c ?_;unfold aY;rw[e9,e9,h];exact H7 0
end
section
variable {a c b:Int} (hb:0<b) (N:-4000000000000000000<=a) (Q:c<=4000000000000000000) (h:a<=c)
include a c b hb N Q h
theorem nW:bO a b<=bO c b:=by rw[yp hb N I,yp hb I Q];exact Int.ediv_le_ediv hb h
theorem RA:bO a b<=bD c b :=
 JF (HE (HE (qM hb N I).1 h) (jn hb I Q).1) hb
theorem pT:bD a b<=bD c b:=by have k:=(jn hb N I).2;have k2:=(jn hb I Q).1;refine Nt (P1 (a:=b) ?_ (Int.le_of_lt hb));rw[Int.add_mul,Int.one_mul];omega
end
theorem iS {x p X X4:Int} (hx:0<=x/\x<=X) (hp:0<=p/\p<=X4):0<=x*p/\x*p<=X*X4 :=
 ⟨Hf hx.1 hp.1,HE (H9 hx.2 hp.1) (Dw hp.2 I)⟩
theorem na {x p At r:Int} (hx:0<=x) (h:x<=At) (hp:0<=p) (k:p<=r):x*p<=At*r :=
 HE (H9 h hp) (Dw k I)
section
variable {x p X X1:Int} (hx:0<=x/\x<=X) (hX:X<=1000000) (hq:0<X1/\X1<=1000000) (hp:0<=p/\p<=X1)
include x p X X1 hx hX hq hp
theorem qI:E (x*p)=x*p/\0<=bO (x*p) X1/\bO (x*p) X1<=X:=by
 have k:=iS hx hp;have e:X*X1<=1000000*1000000:=(iS (x:=X) (X:=1000000) (p:=X1) (X4:=1000000) ⟨I,hX⟩ ⟨I,hq.2⟩).2;refine⟨C4 I I,?_,?_⟩
 ·rw[yp hq.1 I I];exact PT k.1 I
 ·exact JF (HE (qM hq.1 I I).1 k.2) hq.1
theorem oI:0<=bD (x*p) X1/\bD (x*p) X1<=X:=by
 have k:=iS hx hp;have e:X*X1<=1000000*1000000:=(iS (x:=X) (X:=1000000) (p:=X1) (X4:=1000000) ⟨I,hX⟩ ⟨I,hq.2⟩).2;have c:=jn (a:=x*p) hq.1 I I;constructor
 ·refine JF (a:=X1) ?_ hq.1;rw[Int.zero_mul];exact HE k.1 c.1
 ·refine Nt (P1 (a:=X1) ?_ I);rw[Int.add_mul,Int.one_mul];omega
end
def Ih (a h:Int):Int:=max (1000000-a*h) 0
def Ij (b m:Int):Int:=max (1000-b*m) 0
structure v7 (a b h m lv:Int):Prop where
 a:0<=a/\a<=1000
 b:0<=b/\b<=1000
 h:0<=h/\h<=200000
 m:0<=m/\m<=600
 lv:0<=lv/\lv<=1000
theorem PM {a b h m lv:Int} (u:v7 a b h m lv):E (1000000-E (a*h))=1000000-a*h/\E (1000-E (b*m))=1000-b*m/\(0<=Ih a h/\Ih a h<=1000000)/\0<=Ij b m/\Ij b m<=1000:=by have k1:=iS u.a u.h;have k2:=iS u.b u.m;unfold Ih Ij;rw[C4 (x:=a*h) I I,C4 (x:=b*m) I I,C4 I I,C4 I I];omega
def OX (XQ a b h m lv:Int):Int:=bO (bO (bO (XQ*Ih a h) 1000000*Ij b m) 1000*lv) 1000
def VO (XQ a b h m lv:Int):Int:=bD (bD (bD (XQ*Ih a h) 1000000*Ij b m) 1000*lv) 1000
section
variable {XQ a b h m lv:Int} (hL:0<=XQ/\XQ<=1000000) (u:v7 a b h m lv)
include hL u
theorem Ld:j7 XQ a b h m lv=OX XQ a b h m lv/\j8 XQ a b h m lv=VO XQ a b h m lv/\(0<=OX XQ a b h m lv/\OX XQ a b h m lv<=1000000)/\0<=VO XQ a b h m lv/\VO XQ a b h m lv<=1000000:=by
 obtain⟨e1,e2,hA,hB⟩:=PM u;have s1:=qI hL (H7 1000000) (X1:=1000000) aA hA;have s2:=qI s1.2 (H7 1000000) (X1:=1000) aA hB;have x13:=qI s2.2 (H7 1000000) (X1:=1000) aA u.lv;have t1:=oI hL (H7 1000000) (X1:=1000000) aA hA;have w2:=(qI t1 (H7 1000000) (X1:=1000) aA hB).1;have t2:=oI t1 (H7 1000000) (X1:=1000) aA hB;have w3:=(qI t2 (H7 1000000) (X1:=1000) aA u.lv).1;have t3:=oI t2 (H7 1000000) (X1:=1000) aA u.lv;unfold j7 j8 OX VO;rw[e1,e2];change _=_/\_;refine⟨?_,?_,⟨x13.2.1,I⟩,t3.1,I⟩
 ·show bO (E (bO (E (bO (E (XQ*Ih a h)) 1000000*Ij b m)) 1000*lv)) 1000=_;rw[s1.1,s2.1,x13.1]
 ·show bD (E (bD (E (bD (E (XQ*Ih a h)) 1000000*Ij b m)) 1000*lv)) 1000=_;rw[s1.1,w2,w3]
theorem bx1 {c d k n ly:Int} (v:v7 c d k n ly) (hA:Ih a h<=Ih c k) (hB:Ij b m<=Ij d n) (y:lv<=ly) :
 OX XQ a b h m lv<=OX XQ c d k n ly/\VO XQ a b h m lv<=VO XQ c d k n ly/\OX XQ a b h m lv<=VO XQ c d k n ly:=by
 obtain⟨_,_,A1,B1⟩:=PM u;obtain⟨_,_,A2,B2⟩:=PM v;have q6:(0:Int)<1000000/\(1000000:Int)<=1000000:=by decide
 have q3:(0:Int)<1000/\(1000:Int)<=1000000:=by decide
 have bd:∀{x p X4:Int},0<=x/\x<=1000000->0<=p/\p<=X4->X4<=1000000->0<=x*p/\x*p<=1000000000000:=λhx hp hQ=>by have:=iS (X:=1000000) (X4:=1000000) hx ⟨hp.1,I⟩;omega
 have m1:=na hL.1 (H7 XQ) A1.1 hA;have x1:=bd hL A1 aA;have x2:=bd hL A2 aA;have s1:=(qI hL (H7 1000000) q6 A1).2;have s1':=(qI hL (H7 1000000) q6 A2).2;have t1:=oI hL (H7 1000000) q6 A1;have t1':=oI hL (H7 1000000) q6 A2;have i1:=nW (b:=1000000) aA I I m1;have j1:=pT (b:=1000000) aA I I m1;have k1:=RA (b:=1000000) aA I I m1
 have ⟨⟨s2,s2'⟩,⟨t2,t2'⟩,i2,j2,k2⟩:(_/\_)/\(_/\_)/\_/\_/\_:=⟨⟨(qI s1 (H7 1000000) q3 B1).2,(qI s1' (H7 1000000) q3 B2).2⟩,⟨oI t1 (H7 1000000) q3 B1,oI t1' (H7 1000000) q3 B2⟩,
  nW (b:=1000) aA (by have:=bd s1 B1 aA;omega) (by have:=bd s1' B2 aA;omega) (na s1.1 i1 B1.1 hB),
  pT (b:=1000) aA (by have:=bd t1 B1 aA;omega) (by have:=bd t1' B2 aA;omega) (na t1.1 j1 B1.1 hB),
  RA (b:=1000) aA (by have:=bd s1 B1 aA;omega) (by have:=bd t1' B2 aA;omega) (na s1.1 k1 B1.1 hB)⟩
 exact ⟨nW (b:=1000) aA (by have:=bd s2 u.lv aA;omega) (by have:=bd s2' v.lv aA;omega) (na s2.1 i2 u.lv.1 y),
  pT (b:=1000) aA (by have:=bd t2 u.lv aA;omega) (by have:=bd t2' v.lv aA;omega) (na t2.1 j2 u.lv.1 y),
  RA (b:=1000) aA (by have:=bd s2 u.lv aA;omega) (by have:=bd t2' v.lv aA;omega) (na s2.1 k2 u.lv.1 y)⟩
end
def Js (x:Int):Prop:=0<=x/\x<=1000000000
section
variable {n:Nat} {f:bl} {m:Nat} {g:bl} {w:bl} {X9:Int} (hu:fO n f) (y:fO m g) (hn:2<=n/\n<=12) (hm:2<=m/\m<=12) (hH:1<=X9/\X9<=30000) (hw:zm n m w)
include hu y hn hm hH hw
theorem V8 {a b side:Int} (hs:Js side) :
 Js (aY w n (A M (bc f X9)) m (A M (bc g X9)) a b)/\Js (aZ w side n (A M (bc f X9)) m (A M (bc g X9)) a b):=by
 cases has:bb n (A M (A M (bc f X9))) m (A M (A M (bc g X9))) a b with
 |false=>unfold aY aZ;rw[has];exact⟨⟨H7 0,by show(0:Int)<=_;decide⟩,hs⟩
 |true=>
   obtain⟨⟨x1,x2⟩,y1,y2⟩:=(ye hu y hn hm hH (a:=a) (b:=b)).1 has;obtain⟨XY,eI,I1,I2,I3,I4⟩:=Cp hu hn hH (x:=a) ⟨I,I⟩;obtain⟨K,eK,K1,K2,K3,K4⟩:=Cp y hm hH (x:=b) ⟨I,I⟩;have XX:=nR y hm hH hw (i:=XY) I K1 K1 K2 K3 (.inl rfl);have R1:=nR y hm hH hw (i:=XY+1) I1 K1 K1 K2 K3 (.inl rfl);have up:=jo hu hn hH XY I1;have bI:=s4 hu hn hH (show XY<n by omega);have bI1:=s4 hu hn hH I1;have eA:aE (A M (bc f X9) (XY:Int).toNat)=tU f X9 XY:=by rw[Hk];exact(fX hu hn hH XY I).1
   have eB:aE (A M (bc f X9) ((XY+1:Nat):Int).toNat)=tU f X9 (XY+1):=by rw[Hk];exact(fX hu hn hH (XY+1) I1).1
   unfold aY aZ;rw[has,Mq,cond_false,cond_false,eI,eK,C4 (x:=(XY:Int)+1) I I,show(XY:Int)+1=((XY+1:Nat):Int) by omega,eA,eB];exact⟨(J0 up bI bI1 ⟨I2,I3⟩ XX.1.2 R1.1.2).2,(OD up bI bI1 ⟨I2,I3⟩ XX.2.2 R1.2.2).2⟩
theorem aec {side x0 x1 y0 y1:Int} (hs:Js side) :
 Js (wL w side n (A M (bc f X9)) m (A M (bc g X9)) x0 x1 y0 y1).1/\Js (wL w side n (A M (bc f X9)) m (A M (bc g X9)) x0 x1 y0 y1).2:=by
 obtain⟨⟨u,v,_,h⟩,u',v',_,h'⟩:=CH w side n (A M (bc f X9)) m (A M (bc g X9)) x0 x1 y0 y1;rw[← h,← h'];exact⟨(V8 hu y hn hm hH hw hs).1,(V8 hu y hn hm hH hw hs).2⟩
end
theorem Px {i f:Int} (hi:Js i) (hf:0<=f/\f<=1000000):E (i*f)=i*f/\0<=i*f/\i*f<=1000000000000000:=by have k:=iS hi hf;exact⟨C4 I I,k.1,I⟩
theorem Ka {i f:Int} (hi:Js i) (hf:0<=f/\f<=1000000):(0<=bO (E (i*f)) 1000/\bO (E (i*f)) 1000<=1000000000000)/\0<=bD (E (i*f)) 1000/\bD (E (i*f)) 1000<=1000000000000:=by obtain⟨e,h0,N⟩:=Px hi hf;rw[e];have a:=qM (a:=i*f) (b:=1000) aA I I;have b:=jn (a:=i*f) (b:=1000) aA I I;omega
theorem UK {i j f k:Int} (hi:Js i) (hj:Js j) (h:i<=0∨i<=j) (hf:0<=f/\f<=1000000) (hk:0<=k/\k<=1000000) (hfk:f<=k):bO (E (i*f)) 1000<=bD (E (j*k)) 1000:=by
 have wF:i<=j:=by have:=hi.1;have:=hj.1;omega
 obtain⟨e,h0,N⟩:=Px hi hf;obtain⟨e',if10,h1'⟩:=Px hj hk;rw[e,e'];exact RA aA I I (na hi.1 wF hf.1 hfk)
theorem A8 (a b:Int):l7 a b=bO a b:=rfl
theorem vv (a b:Int):iz a b=bD a b:=rfl
theorem BV {a b:Int} (h:a<=b):gA a<=gA b:=by unfold gA;omega
theorem ahh (a:Int):-200000<=gA a/\gA a<=200000:=by unfold gA;omega
section
variable {a b:Int} (hb:0<b)
include a b hb
theorem ng1 (N:-4000000000000000000<=a) (h:a<=0):bO a b<=0:=by have k:=nW (a:=a) (c:=0) hb N aA h;rw[yp (a:=0) hb aA aA,Int.zero_ediv]at k;exact k
theorem yv (N:a<=4000000000000000000) (h:0<=a):0<=bO a b:=by rw[yp hb I N];exact PT h I
theorem xZ (N:-4000000000000000000<=a) (h:a<=0):bD a b<=0:=by have k:=(jn (a:=a) hb N I).2;refine Nt (P1 (a:=b) ?_ I);rw[Int.add_mul,Int.one_mul];omega
theorem IF (N:a<=4000000000000000000) (h:0<=a):0<=bD a b:=by have k:=(jn (a:=a) hb I N).1;refine JF (a:=b) ?_ hb;rw[Int.zero_mul];omega
end
section
variable {s:Int} (hs:1<=s/\s<=2000000)
include hs
theorem Xx:E (1000000*s)=1000000*s/\1<=gT (1000000*s)/\gT (1000000*s)<=kt (1000000*s):=by
 have d:=uU (x:=1000000*s) I;refine⟨C4 I I,d.1,?_⟩;have e:=DV (x:=1000000*s) I;have e2:=qG (x:=1000000*s) I;rw[← e,← e2];unfold Iv;rw[e2];cases decide (E (gT (1000000*s)*gT (1000000*s))<1000000*s) with
 |true=>rw[cond_true,C4 I I];omega|false=>exact H7 _
theorem VK {m n:Int} (hm:ox m) (hn:ox n) (h:m<=n):Ha m s<=Ha n s:=by
 obtain⟨e,r1,r2⟩:=Xx hs;unfold Ha;rw[e,kj hm,kj hn,A8,A8,A8,A8];unfold ox at hm hn;by_cases N:m<0<;>by_cases Q:n<0
 ·rw[Cg N,Cg Q];exact BV (nW I I I I)
 ·rw[Cg N,fB Q];exact BV (HE (ng1 I I I) (yv I I I))
 ·omega
 ·rw[fB N,fB Q];exact BV (nW I I I I)
theorem Vb {m n:Int} (hm:ox m) (hn:ox n) (h:m<=n):Hy m s<=Hy n s:=by
 obtain⟨e,r1,r2⟩:=Xx hs;unfold Hy;rw[e,kj hm,kj hn,vv,vv,vv,vv];unfold ox at hm hn;by_cases N:m<0<;>by_cases Q:n<0
 ·rw[Cg N,Cg Q];exact BV (pT I I I I)
 ·rw[Cg N,fB Q];exact BV (HE (xZ I I I) (IF I I I))
 ·omega
 ·rw[fB N,fB Q];exact BV (pT I I I I)
theorem Tl {m:Int} (hm:ox m):Ha m s<=Hy m s:=by
 obtain⟨e,r1,r2⟩:=Xx hs;unfold Ha Hy;rw[e,kj hm,A8,A8,vv,vv];unfold ox at hm;have key:∀ {a b c:Int},0<b->0<c->-4000000000000000000<=a->a<=4000000000000000000->(0<=a->c<=b)->(a<0->b<=c)->bO a b<=bD a c:=λ{a b c} hb hc N Q h3 h4=>by
  by_cases h:0<=a
  ·have k1:=yv hb Q h;have k2:=(qM hb N Q).1;have k3:=(jn hc N Q).1;refine JF (a:=c) ?_ hc;have:=Dw (h3 h) k1;omega
  ·have k1:=xZ hc N I;have k2:=(qM hb N Q).1;have k3:=(jn hc N Q).1;refine JF (a:=b) ?_ hb;have:=P2 k1 (h4 I);omega
 by_cases N:m<0
 ·rw[Cg N];exact BV (key I I I I (λh=>by omega) (λh=>r2))
 ·rw[fB N];exact BV (key I I I I (λh=>r2) (λh=>by omega))
end
theorem Qv {x0 x1 X:Int} (d:Int) (h:x0<=X/\X<=x1):(x0*d<=X*d/\X*d<=x1*d)∨(x1*d<=X*d/\X*d<=x0*d):=by
 rcases PF 0 d with k|k
 ·exact .inl ⟨H9 h.1 k,H9 h.2 k⟩
 ·exact .inr ⟨Int.mul_le_mul_of_nonpos_right h.2 k,Int.mul_le_mul_of_nonpos_right h.1 k⟩
def sW (x fl deep:Int):Int:=bif decide (0<x) then l7 (E (x*fl)) deep else x
def sr (x fl deep:Int):Int:=bif decide (x<0) then iz (E (x*fl)) deep else x
section
variable {x X fl d deep:Int} (hf:1<=fl) (N:fl<=d) (Q:d<=deep) (h3:deep<=30000) (hx:-200000<=x/\x<=200000)
include x X fl d deep hf N Q h3 hx
theorem y6 (h:x<=X):sW x fl deep*d<=X*fl:=by
 unfold sW;have hX:=H9 h (show 0<=fl by omega);by_cases k:0<x
 ·rw[Cg k,cond_true,A8];have b:=iS (x:=x) (X:=200000) (p:=fl) (X4:=30000) ⟨I,hx.2⟩ ⟨I,I⟩;rw[C4 I I];have X1:=(qM (a:=x*fl) (b:=deep) I I I).1;have q0:=yv (a:=x*fl) (b:=deep) I I b.1;have:=Dw Q q0;omega
 ·rw[fB k,cond_false];have:=P2 (show x<=0 by omega) N;omega
theorem zB (h:X<=x):X*fl<=sr x fl deep*d:=by
 unfold sr;have hX:=H9 h (show 0<=fl by omega);by_cases k:x<0
 ·rw[Cg k,cond_true,vv];have b:=iS (x:=-x) (X:=200000) (p:=fl) (X4:=30000) ⟨I,I⟩ ⟨I,I⟩;rw[Int.neg_mul]at b;rw[C4 I I];have X1:=(jn (a:=x*fl) (b:=deep) I I I).1;have q0:=xZ (a:=x*fl) (b:=deep) I I I;have:=P2 q0 Q;omega
 ·rw[fB k,cond_false];have:=Dw N (show 0<=x by omega);omega
end
def ww (x At dx dy:Int):Int:=E (E (x*dy)-E (At*dx))
def wx (x At dx dy:Int):Int:=E (E (x*dx)+E (At*dy))
def zf (a b c d:Int):Int:=min (min (min (min a a) b) c) d
def yf (a b c d:Int):Int:=max (max (max (max a a) b) c) d
theorem ON :
 eh x0 x1 x2 x3 x4 x5=Ha (zf (ww x0 x2 x4 x5) (ww x1 x2 x4 x5) (ww x0 x3 x4 x5) (ww x1 x3 x4 x5)) (E (E (x4*x4)+E (x5*x5))) /\
 eT x0 x1 x2 x3 x4 x5=Hy (yf (ww x0 x2 x4 x5) (ww x1 x2 x4 x5) (ww x0 x3 x4 x5) (ww x1 x3 x4 x5)) (E (E (x4*x4)+E (x5*x5))) /\
 ei x0 x1 x2 x3 x4 x5=Ha (zf (wx x0 x2 x4 x5) (wx x1 x2 x4 x5) (wx x0 x3 x4 x5) (wx x1 x3 x4 x5)) (E (E (x4*x4)+E (x5*x5))) /\
 eQ x0 x1 x2 x3 x4 x5=Hy (yf (wx x0 x2 x4 x5) (wx x1 x2 x4 x5) (wx x0 x3 x4 x5) (wx x1 x3 x4 x5)) (E (E (x4*x4)+E (x5*x5))):=⟨rfl,rfl,rfl,rfl⟩
section
variable {dx dy:Int} (h:Hd dx dy)
include h
theorem xH {x At:Int} (hx:Bd x) (hy:Bd At):ww x At dx dy=x*dy-At*dx/\ox (ww x At dx dy):=by refine⟨?_,P4 h hx hy⟩;have a:=Ai hx h.2.1;have b:=Ai hy h.1;unfold ww;rw[C4 (x:=x*dy) I I,C4 (x:=At*dx) I I,C4 I I]
theorem xC {x At:Int} (hx:Bd x) (hy:Bd At):wx x At dx dy=x*dx+At*dy/\ox (wx x At dx dy):=by refine⟨?_,PS h hx hy⟩;have a:=Ai hx h.1;have b:=Ai hy h.2.1;unfold wx;rw[C4 (x:=x*dx) I I,C4 (x:=At*dy) I I,C4 I I]
theorem afE {x0 x1 y0 y1 X Y:Int} (Zf:Bd x0) (Zg:Bd x1) (Zi:Bd y0) (Zj:Bd y1) (hx:x0<=X/\X<=x1) (hy:y0<=Y/\Y<=y1) :
 (zf (ww x0 y0 dx dy) (ww x1 y0 dx dy) (ww x0 y1 dx dy) (ww x1 y1 dx dy)<=ww X Y dx dy/\ww X Y dx dy<=yf (ww x0 y0 dx dy) (ww x1 y0 dx dy) (ww x0 y1 dx dy) (ww x1 y1 dx dy)) /\
 zf (wx x0 y0 dx dy) (wx x1 y0 dx dy) (wx x0 y1 dx dy) (wx x1 y1 dx dy)<=wx X Y dx dy/\wx X Y dx dy<=yf (wx x0 y0 dx dy) (wx x1 y0 dx dy) (wx x0 y1 dx dy) (wx x1 y1 dx dy):=by
 have bX:Bd X:=by unfold Bd at *;omega
 have bY:Bd Y:=by unfold Bd at *;omega
 rw[(xH h Zf Zi).1,(xH h Zg Zi).1,(xH h Zf Zj).1,(xH h Zg Zj).1,(xH h bX bY).1,(xC h Zf Zi).1,(xC h Zg Zi).1,(xC h Zf Zj).1,(xC h Zg Zj).1,(xC h bX bY).1];have a:=Qv dy hx;have b:=Qv dx hy;have c:=Qv dx hx;have d:=Qv dy hy;unfold zf yf;constructor
 ·clear c d;omega
 ·clear a b;omega
theorem UW {x0 x1 y0 y1 X Y:Int} (Zf:Bd x0) (Zg:Bd x1) (Zi:Bd y0) (Zj:Bd y1) (hx:x0<=X/\X<=x1) (hy:y0<=Y/\Y<=y1) :
 (eh x0 x1 y0 y1 dx dy<=eh X X Y Y dx dy/\eh X X Y Y dx dy<=eT x0 x1 y0 y1 dx dy)/\ei x0 x1 y0 y1 dx dy<=ei X X Y Y dx dy/\ei X X Y Y dx dy<=eQ x0 x1 y0 y1 dx dy:=by
 have bX:Bd X:=by unfold Bd at *;omega
 have bY:Bd Y:=by unfold Bd at *;omega
 have hs:=OP h;unfold bW at hs;obtain⟨⟨a1,a2⟩,a3,a4⟩:=afE h Zf Zg Zi Zj hx hy;have XU:∀{x At:Int},Bd x->Bd At->ox (ww x At dx dy):=λN Q=>(xH h N Q).2;have XQ:∀{x At:Int},Bd x->Bd At->ox (wx x At dx dy):=λN Q=>(xC h N Q).2;have B4:∀{a b c d:Int},ox a->ox b->ox c->ox d->ox (zf a b c d)/\ox (yf a b c d):=λN Q h3 h4=>by unfold ox zf yf at *;omega
 have e:∀a:Int,zf a a a a=a/\yf a a a a=a:=λa=>by unfold zf yf;omega
 obtain⟨p0,p1⟩:=B4 (XU Zf Zi) (XU Zg Zi) (XU Zf Zj) (XU Zg Zj);obtain⟨q0,q1⟩:=B4 (XQ Zf Zi) (XQ Zg Zi) (XQ Zf Zj) (XQ Zg Zj);obtain⟨G,f1,W,f3⟩:=ON x0 x1 y0 y1 dx dy;obtain⟨g0,g1,g2,g3⟩:=ON X X Y Y dx dy;rw[(e _).1]at g0 g2;rw[G,f1,W,f3,g0,g2];exact⟨⟨VK hs p0 (XU bX bY) a1,HE (Tl hs (XU bX bY)) (Vb hs (XU bX bY) p1 a2)⟩,VK hs q0 (XQ bX bY) a3,HE (Tl hs (XQ bX bY)) (Vb hs (XQ bX bY) q1 a4)⟩
theorem ahN (x0 x1 y0 y1:Int):(-200000<=eh x0 x1 y0 y1 dx dy/\eh x0 x1 y0 y1 dx dy<=200000)/\(-200000<=eT x0 x1 y0 y1 dx dy/\eT x0 x1 y0 y1 dx dy<=200000)/\(-200000<=ei x0 x1 y0 y1 dx dy/\ei x0 x1 y0 y1 dx dy<=200000)/\-200000<=eQ x0 x1 y0 y1 dx dy/\eQ x0 x1 y0 y1 dx dy<=200000:=by
 have hd:=h;have X1:∀m s:Int,(-200000<=Ha m s/\Ha m s<=200000)/\-200000<=Hy m s/\Hy m s<=200000:=λm s=>by unfold Ha Hy;cases decide (m<0)<;>exact⟨ahh _,ahh _⟩
 obtain⟨G,f1,W,f3⟩:=ON x0 x1 y0 y1 dx dy;rw[G,f1,W,f3];exact⟨(X1 _ _).1,(X1 _ _).2,(X1 _ _).1,(X1 _ _).2⟩
end
theorem Vn {a b:Int} (h:ol a b 0 1000=true):0<=a/\a<=b/\b<=1000:=by
 unfold ol at h;cases Q:decide (a<=b) with
 |false=>rw[Q]at h;cases h
 |true=>
   rw[Q,cond_true]at h;cases N:bh a 0 1000 with
   |false=>rw[N]at h;cases h
   |true=>rw[N,cond_true]at h;have k1:=qR N;have k2:=qR h;have k3:=HT Q;omega
structure ahg (x:List V):Prop where
 ag:0<=bq (L (L x))/\bq (L (L x))<=bq (L (L (L x)))/\bq (L (L (L x)))<=1000
 di:0<=bq (L (L (L (L x))))/\bq (L (L (L (L x))))<=bq (L (L (L (L (L x)))))/\bq (L (L (L (L (L x)))))<=1000
theorem afo {H:Nat} {W:bl} {a:Nat} (h:pP H (A ao W) a=0):ahg (W a):=by unfold pP at h;obtain⟨_,h⟩:=hZ h aA;obtain⟨_,h⟩:=hZ h aA;unfold Sm C8 at h;obtain⟨_,h⟩:=hZ h aA;obtain⟨_,h⟩:=hZ h aA;obtain⟨h3,_⟩:=hZ h aA;have k:=(pQ (pQ (pQ (pQ (Hn h3)).2).2).2).2;exact⟨Vn (pQ k).1,Vn (pQ (pQ k).2).1⟩
section
variable {x:List V} (t:mw x) (u:fO (aL (aI (L x))) (b7 (aI (L x)))) (v:fO (aL (aI (L (L x)))) (b7 (aI (L (L x)))))
include t
theorem Tx:zm (aL (aI (L x))) (aL (aI (L (L x)))) (pY x):=λi hi k hk=>by
 have YC:i<yx x:=by rw[t.n];exact hi
 have:=t.val i YC k (by rw[t.row i YC];exact hk);unfold wV;omega
theorem aj9:Js (cS x):=by have:=t.side;unfold Js;omega
include u v
theorem AT {d:Int} (hd:1<=d/\d<=30000) (a c e f:Int):Js (xy x a c e f d)/\Js (AN x a c e f d) :=
 aec u v t.u t.v hd (Tx t) (aj9 t)
theorem ahe {d e:Int} (hd:1<=d/\d<=30000) (he:1<=e/\e<=30000) {a0 a1 b0 b1 A0 A1 B0 B1:Int} (ha:-200000<=a0/\a0<=200000) (hb:-200000<=b0/\b0<=200000) (hA0:-200000<=A0/\A0<=200000) (hA1:-200000<=A1/\A1<=200000) (hB0:-200000<=B0/\B0<=200000) (hB1:-200000<=B1/\B1<=200000)
 (hx:A0*d<=a0*e/\a0*e<=A1*d) (hy:B0*d<=b0*e/\b0*e<=B1*d):xy x a0 a1 b0 b1 d<=0∨xy x a0 a1 b0 b1 d<=AN x A0 A1 B0 B1 e:=by
 have w:∀{z:Int},-200000<=z/\z<=200000->E (1000*z)=1000*z:=λh=>C4 I I;have sc:∀{p X1:Int} {P X4:Int},P*X1<=p*X4->1000*P*X1<=1000*p*X4:=λh=>by rw[Int.mul_assoc,Int.mul_assoc];omega
 have k:=adN u v t.u t.v hd he (Tx t) (s1:=cS x) (s2:=cS x) (u0:=1000*a0) (u1:=E (1000*a1)) (v0:=1000*b0) (v1:=E (1000*b1)) (x0:=1000*A0) (x1:=1000*A1) (y0:=1000*B0) (y1:=1000*B1) ⟨sc hx.1,sc hx.2⟩ ⟨sc hy.1,sc hy.2⟩;unfold xy AN iA iB;rw[w ha,w hb,w hA0,w hA1,w hB0,w hB1];exact k
end
theorem KL {H:Nat} {G:bl} {q:Nat} {W:bl} {x4 x5 x6 x7 x8 x9 XH XJ XP:Int} (h:Aa H G q W x4 x5 x6 x7 x8 x9 XH XJ XP=0) :
 bR H G q W x4=0/\da x5 x6 x7=false/\eR x8 x9 XH XJ XP=0:=by
 unfold Aa at h;cases e:bR H G q W x4==0 with
 |true=>
   rw[e]at h;refine⟨Jh e,?_⟩;cases k:da x5 x6 x7 with
   |true=>rw[k]at h;cases h|false=>rw[k]at h;exact⟨rfl,h⟩
 |false=>rw[e]at h;have h:bR H G q W x4=0:=h;rw[h]at e;cases e
theorem Jy {a b c:Int} (h:da a b c=false):(0<=a/\a<=200000)/\(0<=b/\b<=600)/\0<=c/\c<=1000:=by
 unfold da at h;cases N:aB a 0 200000 with
 |false=>rw[N]at h;cases h
 |true=>
   rw[N]at h;cases Q:aB b 0 600 with
   |false=>rw[Q]at h;cases h
   |true=>rw[Q]at h;exact⟨qR (show bh a 0 200000=true from N),qR (show bh b 0 600=true from Q),qR (show bh c 0 1000=true from Hn h)⟩
section
variable {H:Nat} {G:bl} {q:Nat} {W:bl} {x4:Int}
structure Sa (H:Nat) (G:bl) (q:Nat) (W:bl) (x4:Int):Prop where
 tb:mw (G (bB H G q W x4).toNat)
 u:fO (aL (aI (L (G (bB H G q W x4).toNat)))) (b7 (aI (L (G (bB H G q W x4).toNat))))
 v:fO (aL (aI (L (L (G (bB H G q W x4).toNat))))) (b7 (aI (L (L (G (bB H G q W x4).toNat)))))
 l:0<=cL H G q W x4/\cL H G q W x4<=1000000
 ag:0<=dE H G q W x4/\dE H G q W x4<=eg H G q W x4/\eg H G q W x4<=1000
 di:0<=dG H G q W x4/\dG H G q W x4<=dt H G q W x4/\dt H G q W x4<=1000
theorem zW (h:bR H (A au G) q (A ao W) x4=0):Sa H (A au G) q (A ao W) x4:=by
 have hb:=Ua h;have l0:=Yn h;have w:=hb.2;rw[e9]at w;have u:=Td w;have e:bN H (A au (A au G)) q (A ao (A ao W))=0:=by
  have:=l0.1;by_cases e:bN H (A au (A au G)) q (A ao (A ao W))=0
  ·exact e
  ·have X1:(bN H (A au (A au G)) q (A ao (A ao W))!=0)=true:=by simpa using e
   rw[X1]at this;cases this
 have c:=lz H (A au (A au G)) q (A ao (A ao W));have v:zH H (A au (A au G)) q (A ao (A ao W)):=yW (by have:=congrArg (λp=>p.2.2) c;exact this.symm.trans e);have l2:=v.l2;have r:=HT (SE I l0.2);have n16:=v.lm x4.toNat I;have lm:=(S9 v.l0 n16).lum;have ag:=afo n16;have a3:cL H (A au G) q (A ao W) x4=cU (A ao W x4.toNat):=by unfold cL;rw[l0.1,l0.2];rfl
 have x20:dE H (A au G) q (A ao W) x4=bq (L (L (A ao W x4.toNat))):=by unfold dE;rw[l0.1,l0.2];rfl
 have x21:eg H (A au G) q (A ao W) x4=bq (L (L (L (A ao W x4.toNat)))):=by unfold eg;rw[l0.1,l0.2];rfl
 have a9:dG H (A au G) q (A ao W) x4=bq (L (L (L (L (A ao W x4.toNat))))):=by unfold dG;rw[l0.1,l0.2];rfl
 have a10:dt H (A au G) q (A ao W) x4=bq (L (L (L (L (L (A ao W x4.toNat)))))):=by unfold dt;rw[l0.1,l0.2];rfl
 have lm:1<=cU (A ao W x4.toNat)/\cU (A ao W x4.toNat)<=1000000:=lm;refine⟨JI w,u.1,u.2,by rw[a3];omega,?_,?_⟩
 ·rw[x20,x21];exact ag.ag
 ·rw[a9,a10];exact ag.di
end
section
variable {H:Nat} {G:bl} {q:Nat} {W:bl} {x4 x5 x6 x7:Int} (XQ:Sa H G q W x4) (hu:da x5 x6 x7=false)
include XQ hu
theorem R0:(0<=hG (cL H G q W x4) (eg H G q W x4) (dt H G q W x4) x5 x6 x7/\hG (cL H G q W x4) (eg H G q W x4) (dt H G q W x4) x5 x6 x7<=1000000) /\
 (0<=d4 (cL H G q W x4) (dE H G q W x4) (dG H G q W x4) x5 x6 x7/\d4 (cL H G q W x4) (dE H G q W x4) (dG H G q W x4) x5 x6 x7<=1000000) /\
 hG (cL H G q W x4) (eg H G q W x4) (dt H G q W x4) x5 x6 x7<=d4 (cL H G q W x4) (dE H G q W x4) (dG H G q W x4) x5 x6 x7:=by
 obtain⟨N,Q,h3⟩:=Jy hu;have a:=XQ.ag;have b:=XQ.di;have u1:v7 (eg H G q W x4) (dt H G q W x4) x5 x6 x7:=⟨I,I,N,Q,h3⟩;have u0:v7 (dE H G q W x4) (dG H G q W x4) x5 x6 x7:=⟨I,I,N,Q,h3⟩;have e1:=Ld XQ.l u1;have e0:=Ld XQ.l u0;have hA:Ih (eg H G q W x4) x5<=Ih (dE H G q W x4) x5:=by have:=H9 a.2.1 N.1;unfold Ih;omega
 have hB:Ij (dt H G q W x4) x6<=Ij (dG H G q W x4) x6:=by have:=H9 b.2.1 Q.1;unfold Ij;omega
 have m:=(bx1 XQ.l u1 u0 hA hB (H7 x7)).2.2;unfold hG d4;rw[e1.1,e0.2.1];exact⟨e1.2.2.1,e0.2.2.2,m⟩
theorem ahV {d:Int} (hd:1<=d/\d<=30000) (a b c e:Int):(0<=cX H G q W x4 x5 x6 x7 a b c e d/\cX H G q W x4 x5 x6 x7 a b c e d<=1000000000000)/\0<=dB H G q W x4 x5 x6 x7 a b c e d/\dB H G q W x4 x5 x6 x7 a b c e d<=1000000000000:=by
 have f:=R0 XQ hu;have t:=AT XQ.tb XQ.u XQ.v hd a b c e;unfold cX dB twL QW;cases Aa H G q W x4 x5 x6 x7 a b c e d==0 with
 |true=>exact⟨(Ka t.1 f.1).1,(Ka t.2 f.2.1).2⟩|false=>exact⟨⟨H7 0,by show(0:Int)<=_;decide⟩,H7 0,by show(0:Int)<=_;decide⟩
theorem afr {d e a0 a1 b0 b1 A0 A1 B0 B1:Int} (h:Aa H G q W x4 x5 x6 x7 a0 a1 b0 b1 d=0) (k:Aa H G q W x4 x5 x6 x7 A0 A1 B0 B1 e=0)
 (hx:A0*d<=a0*e/\a0*e<=A1*d) (hy:B0*d<=b0*e/\b0*e<=B1*d):cX H G q W x4 x5 x6 x7 a0 a1 b0 b1 d<=dB H G q W x4 x5 x6 x7 A0 A1 B0 B1 e:=by
 have f:=R0 XQ hu;have r1:=(KL h).2.2;have r2:=(KL k).2.2;rw[yR]at r1 r2;obtain⟨hd,ha,_,hb,_⟩:=ZB r1;obtain⟨he,hA0,hA1,hB0,hB1⟩:=ZB r2;have X1:=ahe XQ.tb XQ.u XQ.v hd he (a1:=a1) (b1:=b1) ha hb hA0 hA1 hB0 hB1 hx hy;have t:=(AT XQ.tb XQ.u XQ.v hd a0 a1 b0 b1).1;have t':=(AT XQ.tb XQ.u XQ.v he A0 A1 B0 B1).2;unfold cX dB;rw[h,k];exact UK t t' X1 f.1 f.2.1 f.2.2
end
theorem o3 (x:Int):0<=x*x:=by
 rcases PF 0 x with h|h
 ·exact Hf h h
 ·exact Int.mul_nonneg_of_nonpos_of_nonpos h h
theorem IX {p x:Int} (h:0<=p/\p<=x):p*p<=x*x:=na h.1 h.2 h.1 h.2
theorem o6 {p:Int} (h:-1000000000<=p/\p<=1000000000):p*p<=1000000000000000000:=by
 rcases PF 0 p with k|k
 ·exact(iS (x:=p) (X:=1000000000) (p:=p) (X4:=1000000000) ⟨k,h.2⟩ ⟨k,h.2⟩).2
 ·have:=(iS (x:=-p) (X:=1000000000) (p:=-p) (X4:=1000000000) ⟨I,I⟩ ⟨I,I⟩).2;rw[Int.neg_mul_neg]at this;exact this
theorem rp {p X1 x:Int} (hp:-1000000000<=p/\p<=1000000000) (hq:-1000000000<=X1/\X1<=1000000000) (h:p<=x/\x<=X1):0<=eE p X1/\eE p X1<=x*x:=by
 have a:=o6 hp;have b:=o6 hq;have a0:=o3 p;have b0:=o3 X1;unfold eE;rw[C4 (x:=p*p) I I,C4 (x:=X1*X1) I I];by_cases N:p<=0
 ·rw [Cg N,cond_true]
  by_cases Q:0<=X1
  ·rw[Cg Q,cond_true];exact⟨H7 0,o3 x⟩
  ·rw[fB Q,cond_false];have:=IX (p:=-X1) (x:=-x) ⟨I,I⟩;rw[Int.neg_mul_neg,Int.neg_mul_neg]at this;omega
 ·rw[fB N,cond_false];show 0<=min (p*p) (X1*X1)/\min (p*p) (X1*X1)<=x*x;have:=IX (p:=p) (x:=x) ⟨I,h.1⟩;omega
theorem hty {b i sq K:Int} (h:b<=i) (hi:0<=i/\i<=1000000000000) (hK:1<=K) (hs:K<=sq):(1000000*max (b-1) 0).tdiv sq<=bD (1000000*i) K:=by
 have hN:0<=1000000*max (b-1) 0/\1000000*max (b-1) 0<=1000000*i:=by omega
 rw[MI hN.1];have q0:0<=1000000*max (b-1) 0 / sq:=PT hN.1 I;have q1:=Int.ediv_mul_le (1000000*max (b-1) 0) (b:=sq) I;have q2:=Dw hs q0;have c:=(jn (a:=1000000*i) (b:=K) I I I).1;exact JF (HE q2 (HE q1 (HE hN.2 c))) I
section
variable {n:Nat} {f:bl} {m:Nat} {g:bl} {w:bl} {X9 Y6:Int} (hu:fO n f) (y:fO m g) (hn:2<=n/\n<=12) (hm:2<=m/\m<=12) (hH:1<=X9/\X9<=30000) (hw:zm n m w) (h0:0<=Y6) (hM:∀i,i<n->∀k,k<m->wV w i k<=Y6)
include hu y hn hm hH hw h0 hM
theorem af8 (a b:Int):aY w n (A M (bc f X9)) m (A M (bc g X9)) a b<=Y6:=by
 cases has:bb n (A M (bc f X9)) m (A M (bc g X9)) a b with
 |false=>unfold aY;rw[e9,e9,has];exact h0
 |true=>
   obtain⟨⟨a0,a1⟩,b0,b1⟩:=(Rw hu y hn hm hH).1 has;obtain⟨i,hi,i1,i2⟩:=yU hu hn hH ⟨a0,a1⟩;obtain⟨k,hk,k1,k2⟩:=yU y hm hH ⟨b0,b1⟩;have lo:=(CC hu y hn hm hH hw (side:=0) hi hk ⟨i1,i2⟩ ⟨k1,k2⟩).1;have up:=jo hu hn hH i hi;have vp:=jo y hm hH k hk;have m1:=hM i I k I;have m2:=hM i I (k+1) hk;have m3:=hM (i+1) hi k I;have m4:=hM (i+1) hi (k+1) hk;revert lo m1 m2 m3 m4 i1 i2 k1 k2 up vp;generalize aY w n (A M (bc f X9)) m (A M (bc g X9)) a b=r;generalize wV w i k=x;generalize wV w i (k+1)=At;generalize wV w (i+1) k=z;generalize wV w (i+1) (k+1)=t;generalize tU f X9 i=p;generalize tU f X9 (i+1)=X1;generalize tU g X9 k=c;generalize tU g X9 (k+1)=d;intro i1 i2 k1 k2 lo up vp m1 m2 m3 m4;unfold cell at lo;have s1:x*(d-b)+At*(b-c)<=Y6*(d-c):=by
    have u1:=H9 m1 (show 0<=d-b by omega);have u2:=H9 m2 (show 0<=b-c by omega);have e:Y6*(d-c)=Y6*(d-b)+Y6*(b-c):=by rw[← Int.mul_add];congr 1;omega
    omega
   have s2:z*(d-b)+t*(b-c)<=Y6*(d-c):=by
    have u1:=H9 m3 (show 0<=d-b by omega);have u2:=H9 m4 (show 0<=b-c by omega);have e:Y6*(d-c)=Y6*(d-b)+Y6*(b-c):=by rw[← Int.mul_add];congr 1;omega
    omega
   have v1:=H9 s1 (show 0<=X1-a by omega);have v2:=H9 s2 (show 0<=a-p by omega);have e:Y6*((X1-p)*(d-c))=Y6*(d-c)*(X1-a)+Y6*(d-c)*(a-p):=by grind
   refine JF (a:=(X1-p)*(d-c)) I (Int.mul_pos I I)
theorem aez (side x0 x1 y0 y1:Int):(wL w side n (A M (bc f X9)) m (A M (bc g X9)) x0 x1 y0 y1).1<=Y6:=by obtain⟨⟨u,v,_,h⟩,_⟩:=CH w side n (A M (bc f X9)) m (A M (bc g X9)) x0 x1 y0 y1;rw[← h];exact af8 hu y hn hm hH hw h0 hM u v
end
theorem IY {p:Nat->Int} {z:Int}:∀ {n i:Nat},i<n->p i<=tq p z n
 |0,_,h=>absurd h (Ln _)
 |n+1,i,h=>by
   show p i<=max (tq p z n) (p n);rcases Nat.lt_succ_iff_lt_or_eq.1 h with k|rfl
   ·have:=IY (p:=p) (z:=z) k;omega
   ·omega
theorem MO {p:Nat->Int} {z:Int}:∀ n,z<=tq p z n
 |0=>H7 z|n+1=>HE (MO n) (Int.le_max_left ..)
theorem U6 {l:Nat->Nat} {v:Nat->Nat->Int} {z:Int}:∀ n,z<=XZ l v z n
 |0=>H7 z|n+1=>HE (U6 n) (MO _)
theorem MZ {l:Nat->Nat} {v:Nat->Nat->Int} {z:Int}:∀ {n i:Nat},i<n->∀ k,k<l i->v i k<=XZ l v z n
 |0,_,h=>absurd h (Ln _)
 |n+1,i,h=>λk hk=>by
   show v i k<=tq (v n) (XZ l v z n) (l n);rcases Nat.lt_succ_iff_lt_or_eq.1 h with X1|rfl
   ·exact HE (MZ X1 k hk) (MO _)
   ·exact IY (p:=v i) hk
theorem VC {x:List V} (t:mw x) (z:Int):z<=sK (yx x) (pY x) z/\∀ i,i<aL (aI (L x))->∀ k,k<aL (aI (L (L x)))->wV (pY x) i k<=sK (yx x) (pY x) z:=by
 refine⟨U6 _,λi hi k hk=>?_⟩;have YC:i<yx x:=by rw[t.n];exact hi
 exact MZ (l:=λi=>aL (aI (pY x i))) (v:=λi j=>aE (b7 (aI (pY x i)) j)) YC k (by rw[t.row i YC];exact hk)
theorem IK {v a b:Int} (h:a<=v/\v<=b):bh v a b=true:=by unfold bh;rw[Cg h.1,Cg h.2];rfl
theorem Wl {a b c d h:Int} (hh:1<=h/\h<=30000) (ha:-200000<=a/\a<=200000) (hb:-200000<=b/\b<=200000) (hc:-200000<=c/\c<=200000) (hd:-200000<=d/\d<=200000) (N:a<=b) (Q:c<=d):eR a b c d h=0:=by rw[yR];unfold q9;rw[show bh h 1 30000=true from IK hh,show eS a=true from IK ha,show eS b=true from IK hb,show eS c=true from IK hc,show eS d=true from IK hd];rw[fB (show ¬b<a by omega),fB (show ¬d<c by omega)];rfl
theorem yr {H:Nat} {G:bl} {q:Nat} {W:bl} {x4 x5 x6 x7 a b c d h:Int} (e:bR H G q W x4=0) (u:da x5 x6 x7=false) (r:eR a b c d h=0):Aa H G q W x4 x5 x6 x7 a b c d h=0:=by unfold Aa;rw[e,u,r];rfl
section
variable {x At fl d deep:Int} (hf:1<=fl) (N:fl<=deep) (h3:deep<=30000)
include hf N h3
section
variable (hx:-200000<=x/\x<=200000)
include hx
theorem IS:-200000<=sW x fl deep/\sW x fl deep<=200000:=by
 unfold sW;by_cases k:0<x
 ·rw[Cg k,cond_true,A8];have b:=iS (x:=x) (X:=200000) (p:=fl) (X4:=30000) ⟨I,hx.2⟩ ⟨I,I⟩;rw[C4 I I];have X1:=(qM (a:=x*fl) (b:=deep) I I I).1;have q0:=yv (a:=x*fl) (b:=deep) I I b.1;have q1:=Dw N (show 0<=x by omega);have:bO (x*fl) deep<=x:=JF (HE X1 q1) I;omega
 ·rw[fB k,cond_false];exact hx
theorem I0:-200000<=sr x fl deep/\sr x fl deep<=200000:=by
 unfold sr;by_cases k:x<0
 ·rw[Cg k,cond_true,vv];have b:=iS (x:=-x) (X:=200000) (p:=fl) (X4:=30000) ⟨I,I⟩ ⟨I,I⟩;rw[Int.neg_mul]at b;rw[C4 I I];have X1:=(jn (a:=x*fl) (b:=deep) I I I).1;have q0:=xZ (a:=x*fl) (b:=deep) I I I;have q1:=P2 (show x<=0 by omega) N;have:x<=bD (x*fl) deep:=JF (HE q1 X1) (show 0<deep by omega);omega
 ·rw[fB k,cond_false];exact hx
theorem Kr (hy:-200000<=At/\At<=200000) (h:x<=At):sW x fl deep<=sr At fl deep:=by have a:=y6 hf N (H7 deep) h3 hx (H7 x);have b:=zB hf N (H7 deep) h3 hy h;exact JF (HE a b) I
end
end
section
variable {H:Nat} {G:bl} {q:Nat} {W:bl} {x4 x5 x6 x7 dx dy x0 x1 y0 y1 X Y fl d deep:Int}
theorem M2 (hd:Hd dx dy) (bX:Bd X) (bY:Bd Y) (h:1<=d/\d<=30000):eR (eh X X Y Y dx dy) (eT X X Y Y dx dy) (ei X X Y Y dx dy) (eQ X X Y Y dx dy) d=0:=by have b:=ahN hd X X Y Y;have X1:=UW hd bX bX bY bY ⟨H7 X,H7 X⟩ ⟨H7 Y,H7 Y⟩;exact Wl h b.1 b.2.1 b.2.2.1 b.2.2.2 X1.1.2 X1.2.2
section
variable (e:bR H (A au G) q (A ao W) x4=0) (u:da x5 x6 x7=false) (hd:Hd dx dy)
include e u hd
theorem hc2 (Zf:Bd x0) (Zg:Bd x1) (Zi:Bd y0) (Zj:Bd y1) (hx:x0<=X/\X<=x1) (hy:y0<=Y/\Y<=y1) (hf:1<=fl) (N:fl<=d) (Q:d<=deep) (h3:deep<=30000) :
 cX H (A au G) q (A ao W) x4 x5 x6 x7 (eh X X Y Y dx dy) (eT X X Y Y dx dy) (ei X X Y Y dx dy) (eQ X X Y Y dx dy) d <=
 dB H (A au G) q (A ao W) x4 x5 x6 x7 (sW (eh x0 x1 y0 y1 dx dy) fl deep) (sr (eT x0 x1 y0 y1 dx dy) fl deep) (sW (ei x0 x1 y0 y1 dx dy) fl deep) (sr (eQ x0 x1 y0 y1 dx dy) fl deep) fl:=by
 have bX:Bd X:=by unfold Bd at *;omega
 have bY:Bd Y:=by unfold Bd at *;omega
 have X1:=UW hd Zf Zg Zi Zj hx hy;have B:=ahN hd x0 x1 y0 y1;have l0:=X1.1.1;have l1:=X1.1.2;have l2:=X1.2.1;have l3:=X1.2.2
 have k2:=yr (H:=H) (G:=A au G) (q:=q) (W:=A ao W) (x4:=x4) e u (Wl (h:=fl) ⟨hf,I⟩ (IS hf I h3 B.1) (I0 hf I h3 B.2.1) (IS hf I h3 B.2.2.1) (I0 hf I h3 B.2.2.2)
  (Kr hf I h3 B.1 B.2.1 (HE l0 l1)) (Kr hf I h3 B.2.2.1 B.2.2.2 (HE l2 l3)))
 have k1:=yr (H:=H) (G:=A au G) (q:=q) (W:=A ao W) (x4:=x4) e u (M2 hd bX bY (d:=d) ⟨I,I⟩);exact afr (zW e) u k1 k2 ⟨y6 hf N Q h3 B.1 l0,zB hf N Q h3 B.2.1 l1⟩ ⟨y6 hf N Q h3 B.2.2.1 l2,zB hf N Q h3 B.2.2.2 l3⟩
theorem hel (bX:Bd X) (bY:Bd Y) (h:1<=d/\d<=30000) {Y6 side:Int}
 (hM:sK (yx (A au G (bB H (A au G) q (A ao W) x4).toNat)) (pY (A au G (bB H (A au G) q (A ao W) x4).toNat)) side<=Y6) (hs:0<=side) (hm:Y6<=1000000000) :
 cX H (A au G) q (A ao W) x4 x5 x6 x7 (eh X X Y Y dx dy) (eT X X Y Y dx dy) (ei X X Y Y dx dy) (eQ X X Y Y dx dy) d <=
 bD (E (Y6*d4 (cL H (A au G) q (A ao W) x4) (dE H (A au G) q (A ao W) x4) (dG H (A au G) q (A ao W) x4) x5 x6 x7)) 1000:=by
 have XQ:=zW e;have f:=R0 XQ u;have t:=(AT XQ.tb XQ.u XQ.v h (eh X X Y Y dx dy) (eT X X Y Y dx dy) (ei X X Y Y dx dy) (eQ X X Y Y dx dy)).1;have mx:=VC XQ.tb side;have M0:0<=Y6:=by omega
 have X1:xy (A au G (bB H (A au G) q (A ao W) x4).toNat) (eh X X Y Y dx dy) (eT X X Y Y dx dy) (ei X X Y Y dx dy) (eQ X X Y Y dx dy) d<=Y6 :=
  aez XQ.u XQ.v XQ.tb.u XQ.tb.v h (Tx XQ.tb) M0 (λi hi k hk=>HE (mx.2 i hi k hk) hM) _ _ _ _ _
 have k1:=yr (H:=H) (G:=A au G) (q:=q) (W:=A ao W) (x4:=x4) e u (M2 hd bX bY h);unfold cX;rw[k1];exact UK t ⟨M0,hm⟩ (.inr X1) f.1 f.2.1 f.2.2
end
end
theorem sqK {cx cy px py dp a c d e fl deep:Int} (hx:a<=px/\px<=d) (hy:c<=py/\py<=e) (hz:fl<=dp/\dp<=deep) (N:1<=dp)
 (b1:-1000000000<=a-cx) (b2:d-cx<=1000000000) (n10:-1000000000<=c-cy) (ic13:e-cy<=1000000000) (ic14:-1000000000<=fl) (ic15:deep<=1000000000) :
 (0<=eE (a-cx) (d-cx)/\0<=eE (c-cy) (e-cy)/\0<=eE fl deep) /\
 max (eE (a-cx) (d-cx)+eE (c-cy) (e-cy)+eE fl deep) 1<=(px-cx)*(px-cx)+(py-cy)*(py-cy)+dp*dp:=by
 have k1:=rp (p:=a-cx) (X1:=d-cx) (x:=px-cx) ⟨I,I⟩ ⟨I,I⟩ ⟨I,I⟩;have k2:=rp (p:=c-cy) (X1:=e-cy) (x:=py-cy) ⟨I,I⟩ ⟨I,I⟩ ⟨I,I⟩;have k3:=rp (p:=fl) (X1:=deep) (x:=dp) ⟨I,I⟩ ⟨I,I⟩ hz;have k4:=IX (p:=1) (x:=dp) ⟨aA,N⟩;have n1:=o3 (px-cx);have q:=o3 (py-cy);omega
theorem aff {b i sq K:Int} (h:b<=i) (hi:0<=i/\i<=1000000000000) (hK:1<=K) (hs:K<=sq):(1000000*max (b-1) 0).tdiv sq<=iz (E (1000000*i)) K:=by rw[vv,C4 I I];exact hty h hi hK hs
theorem btn {a b k:Int} (h:a<=b) (hk:0<=k/\k<=255):a<=a+((b-a)*k).tdiv 255/\a+((b-a)*k).tdiv 255<=b:=by have n:0<=(b-a)*k:=Hf I hk.1;rw[MI n];have q0:0<=(b-a)*k / 255:=PT n aA;have q1:=Int.ediv_mul_le ((b-a)*k) (b:=255) aA;have q2:=Dw hk.2 (show 0<=b-a by omega);omega
end
end Go.Dx
