/- Part 8 of a proof. No conditions. -/
import Derived.Test.YthpfocnocgnhjaaGreatDoorLt7
set_option maxRecDepth 100000
set_option linter.unusedVariables false
set_option linter.unusedSimpArgs false
namespace Go.Dx
open Go.IntKind (i64 u64 u8)
open Go.Sx Go.Proofs
variable (n0:Nat) (f0:aL) (n2:Nat) (f2:aL) (x4:Int) (n5:Nat) (f5:aL) (n7:Nat) (f7:aL) (n9:Nat) (f9:aL) (n11:Nat) (f11:aL) (n13:Nat) (f13:aL) (n15:Nat) (f15:aL) (x17 x18 x19 x20 x21 x22 x23 x24 x25 x26 x27 x28:Int)
noncomputable section
def ace:aZ:=[(7,.con adq),(8,.con acg),(9,.con yK),(10,.con ab3),(11,.con QF),(12,.con O6)]
theorem agX:aO Tryz.prog eqs its ace:=.con afO (.con ah7 (.con xr (.con ad4 (.con MV (.con RQ (.nil))))))
def u7:kk:=fun _=>7
def r6:Int:=dm (x21,x22,x23,x24,x25,x26,x27,x28) (iA (eX (dX n0 f0 n2 f2 x4 n5 f5 n7 f7 n9 f9 n11 f11 n13 f13 n15 f15) x17 x18 x19 x20) (mW n0 f0 n2 f2 n5 f5 n7 f7 n9 f9 n11 f11 f13 f15 x17 x18 x19 x20 n13))
def r5:Int:=dm (x21,x22,x23,x24,x25,x26,x27,x28) (iA (eX (dX n0 f0 n2 f2 x4 n5 f5 n7 f7 n9 f9 n11 f11 n13 f13 n15 f15) x17 x18 x19 x20) (m4 n0 f0 n2 f2 n5 f5 n7 f7 n9 f9 n11 f11 f13 f15 x17 x18 x19 x20 n13))
def sG:Int:=dm (x23,x24,x25,x26,x27,x28) (iA (BG (eX (dX n0 f0 n2 f2 x4 n5 f5 n7 f7 n9 f9 n11 f11 n13 f13 n15 f15) x17 x18 x19 x20) x21 x22 x4) (mZ n0 f0 n2 f2 x4 n5 f5 n7 f7 n9 f9 n11 f11 f13 f15 x17 x18 x19 x20 x21 x22 n13))
def sh:Int:=dm (x23,x24,x25,x26,x27,x28) (iA (BG (eX (dX n0 f0 n2 f2 x4 n5 f5 n7 f7 n9 f9 n11 f11 n13 f13 n15 f15) x17 x18 x19 x20) x21 x22 x4) (mY n0 f0 n2 f2 x4 n5 f5 n7 f7 n9 f9 n11 f11 f13 f15 x17 x18 x19 x20 x21 x22 n13))
def r7:Int:=dm (x17,x18,x19,x20,x21,x22,x27,x28) (iA (va (dX n0 f0 n2 f2 x4 n5 f5 n7 f7 n9 f9 n11 f11 n13 f13 n15 f15) x23 x24 x25 x26) (mT n0 f0 n2 f2 f11 f13 f15 x23 x24 x25 x26 n13))
def sK:Int:=dm (x17,x18,x19,x20,x21,x22,x27,x28) (iA (va (dX n0 f0 n2 f2 x4 n5 f5 n7 f7 n9 f9 n11 f11 n13 f13 n15 f15) x23 x24 x25 x26) (mS n0 f0 n2 f2 f11 f13 f15 x23 x24 x25 x26 n13))
def sA:Int:=dm (x17,x18,x19,x20,x21,x22,x23,x24,x25,x26,x27,x28) (iA (dX n0 f0 n2 f2 x4 n5 f5 n7 f7 n9 f9 n11 f11 n13 f13 n15 f15) (D1 n0 f0 n2 f2 f13 f15 n13))
def sR:Int:=dm (x17,x18,x19,x20,x21,x22,x23,x24,x25,x26,x27,x28) (iA (dX n0 f0 n2 f2 x4 n5 f5 n7 f7 n9 f9 n11 f11 n13 f13 n15 f15) (DZ n0 f0 n2 f2 f13 f15 n13))
def rV:Int:=dm (x17,x18,x19,x20,x21,x22,x23,x24,x25,x26) (iA (UQ (dX n0 f0 n2 f2 x4 n5 f5 n7 f7 n9 f9 n11 f11 n13 f13 n15 f15) n5 f5 n7 f7 n9 f9 n11 f11 x27 x28) (Xy n0 f0 n2 f2 f13 f15 n5 f5 n7 f7 n9 f9 n11 f11 x27 x28 n13))
def sJ:Int:=dm (x17,x18,x19,x20,x21,x22,x23,x24,x25,x26,x27,x28) (iA (dX n0 f0 n2 f2 x4 n5 f5 n7 f7 n9 f9 n11 f11 n13 f13 n15 f15) (skS n0 f0 n2 f2 f13 f15 n13))
def Ed:Int:=dm (x21,x22,x27,x28) (bif(eX (dX n0 f0 n2 f2 x4 n5 f5 n7 f7 n9 f9 n11 f11 n13 f13 n15 f15) x17 x18 x19 x20)!=0 then(eX (dX n0 f0 n2 f2 x4 n5 f5 n7 f7 n9 f9 n11 f11 n13 f13 n15 f15) x17 x18 x19 x20) else(va (dX n0 f0 n2 f2 x4 n5 f5 n7 f7 n9 f9 n11 f11 n13 f13 n15 f15) x23 x24 x25 x26))
def msV:V:=V.agg [vi (r6 n0 f0 n2 f2 x4 n5 f5 n7 f7 n9 f9 n11 f11 n13 f13 n15 f15 x17 x18 x19 x20 x21 x22 x23 x24 x25 x26 x27 x28),vi (r5 n0 f0 n2 f2 x4 n5 f5 n7 f7 n9 f9 n11 f11 n13 f13 n15 f15 x17 x18 x19 x20 x21 x22 x23 x24 x25 x26 x27 x28),vi (sG n0 f0 n2 f2 x4 n5 f5 n7 f7 n9 f9 n11 f11 n13 f13 n15 f15 x17 x18 x19 x20 x21 x22 x23 x24 x25 x26 x27 x28),vi (sh n0 f0 n2 f2 x4 n5 f5 n7 f7 n9 f9 n11 f11 n13 f13 n15 f15 x17 x18 x19 x20 x21 x22 x23 x24 x25 x26 x27 x28),vi (r7 n0 f0 n2 f2 x4 n5 f5 n7 f7 n9 f9 n11 f11 n13 f13 n15 f15 x17 x18 x19 x20 x21 x22 x23 x24 x25 x26 x27 x28),vi (sK n0 f0 n2 f2 x4 n5 f5 n7 f7 n9 f9 n11 f11 n13 f13 n15 f15 x17 x18 x19 x20 x21 x22 x23 x24 x25 x26 x27 x28),vi (sA n0 f0 n2 f2 x4 n5 f5 n7 f7 n9 f9 n11 f11 n13 f13 n15 f15 x17 x18 x19 x20 x21 x22 x23 x24 x25 x26 x27 x28),vi (sR n0 f0 n2 f2 x4 n5 f5 n7 f7 n9 f9 n11 f11 n13 f13 n15 f15 x17 x18 x19 x20 x21 x22 x23 x24 x25 x26 x27 x28),vi (rV n0 f0 n2 f2 x4 n5 f5 n7 f7 n9 f9 n11 f11 n13 f13 n15 f15 x17 x18 x19 x20 x21 x22 x23 x24 x25 x26 x27 x28),vi (sJ n0 f0 n2 f2 x4 n5 f5 n7 f7 n9 f9 n11 f11 n13 f13 n15 f15 x17 x18 x19 x20 x21 x22 x23 x24 x25 x26 x27 x28)]
theorem Em {n0:Nat} {f0:aL} {n2:Nat} {f2:aL} {x4:Int} {n5:Nat} {f5:aL} {n7:Nat} {f7:aL} {n9:Nat} {f9:aL} {n11:Nat} {f11:aL} {n13:Nat} {f13:aL} {n15:Nat} {f15:aL} {x17 x18 x19 x20 x21 x22 x23 x24 x25 x26 x27 x28:Int} {e:Int} (h:Ed n0 f0 n2 f2 x4 n5 f5 n7 f7 n9 f9 n11 f11 n13 f13 n15 f15 x17 x18 x19 x20 x21 x22 x23 x24 x25 x26 x27 x28=e):cz (V.tup [msV n0 f0 n2 f2 x4 n5 f5 n7 f7 n9 f9 n11 f11 n13 f13 n15 f15 x17 x18 x19 x20 x21 x22 x23 x24 x25 x26 x27 x28,vi e])=cz (V.tup [msV n0 f0 n2 f2 x4 n5 f5 n7 f7 n9 f9 n11 f11 n13 f13 n15 f15 x17 x18 x19 x20 x21 x22 x23 x24 x25 x26 x27 x28,vi (Ed n0 f0 n2 f2 x4 n5 f5 n7 f7 n9 f9 n11 f11 n13 f13 n15 f15 x17 x18 x19 x20 x21 x22 x23 x24 x25 x26 x27 x28)]):=by rw[h]
def Uk:RT Empty:=.obp (ap n0 (aa af f0)/\ap n2 (aa ah f2)/\ap n5 (aa aB f5)/\ap n11 (aa aA f11)) (.obt (.obt (.obt (.obt (.obt (.obp (ap n0 (aa af f0)/\ap n2 (aa ah f2)/\ap n5 (aa aB f5)/\ap n11 (aa aA f11)) (.obt (.obt (.obt (.obp (ap n0 (aa af f0)/\ap n2 (aa ah f2)/\ap n5 (aa aB f5)/\ap n11 (aa aA f11)) (.obt (.obt (.obt (.obp (ap n0 (aa af f0)/\ap n2 (aa ah f2)/\ap n5 (aa aB f5)/\ap n11 (aa aA f11)) (.obt (.obt (.obt (.obp (ap n0 (aa af f0)/\ap n2 (aa ah f2)/\ap n5 (aa aB f5)/\ap n11 (aa aA f11)) (.obt (.obt (.obt (.obp (ap n0 (aa af f0)/\ap n2 (aa ah f2)/\ap n5 (aa aB f5)/\ap n11 (aa aA f11)) (.obt (.obt (.obt (.brt (.obt (.obt (.obt (.obt (.obt (.obt (.obt (.br (bif bif 0 != 1 then 0 != 4 else false then eX (dX n0 (aa af f0) n2 (aa ah f2) x4 n5 (aa aB f5) n7 (aa aG f7) n9 (aa aH f9) n11 (aa aA f11) n13 (aa ac f13) n15 (aa aU f15)) x17 x18 x19 x20 != 0 else false) (.obt (.ret (V.tup [msV n0 (aa af f0) n2 (aa ah f2) x4 n5 (aa aB f5) n7 (aa aG f7) n9 (aa aH f9) n11 (aa aA f11) n13 (aa ac f13) n15 (aa aU f15) x17 x18 x19 x20 x21 x22 x23 x24 x25 x26 x27 x28,vi (eX (dX n0 (aa af f0) n2 (aa ah f2) x4 n5 (aa aB f5) n7 (aa aG f7) n9 (aa aH f9) n11 (aa aA f11) n13 (aa ac f13) n15 (aa aU f15)) x17 x18 x19 x20)]))) (.brt (.ii (.obi (.obt (.ii (.obi (.brf (.brt (.obt (.obt (.obt (.obt (.obt (.obt (.obt (.br (bif bif wI (wI (0+1)+1)!=1 then wI (wI (0+1)+1)!=4 else false then va (dX n0 (aa af f0) n2 (aa ah f2) x4 n5 (aa aB f5) n7 (aa aG f7) n9 (aa aH f9) n11 (aa aA f11) n13 (aa ac f13) n15 (aa aU f15)) x23 x24 x25 x26 != 0 else false) (.obt (.ret (V.tup [msV n0 (aa af f0) n2 (aa ah f2) x4 n5 (aa aB f5) n7 (aa aG f7) n9 (aa aH f9) n11 (aa aA f11) n13 (aa ac f13) n15 (aa aU f15) x17 x18 x19 x20 x21 x22 x23 x24 x25 x26 x27 x28,vi (va (dX n0 (aa af f0) n2 (aa ah f2) x4 n5 (aa aB f5) n7 (aa aG f7) n9 (aa aH f9) n11 (aa aA f11) n13 (aa ac f13) n15 (aa aU f15)) x23 x24 x25 x26)]))) (.brt (.obt (.obt (.obt (.obt (.obt (.obt (.obt (.br (bif bif wI (wI (wI (0+1)+1)+1)!=1 then wI (wI (wI (0+1)+1)+1)!=4 else false then dX n0 (aa af f0) n2 (aa ah f2) x4 n5 (aa aB f5) n7 (aa aG f7) n9 (aa aH f9) n11 (aa aA f11) n13 (aa ac f13) n15 (aa aU f15)!=0 else false) (.obt (.ret (V.tup [msV n0 (aa af f0) n2 (aa ah f2) x4 n5 (aa aB f5) n7 (aa aG f7) n9 (aa aH f9) n11 (aa aA f11) n13 (aa ac f13) n15 (aa aU f15) x17 x18 x19 x20 x21 x22 x23 x24 x25 x26 x27 x28,vi (dX n0 (aa af f0) n2 (aa ah f2) x4 n5 (aa aB f5) n7 (aa aG f7) n9 (aa aH f9) n11 (aa aA f11) n13 (aa ac f13) n15 (aa aU f15))]))) (.brt (.obt (.obt (.obi (.obt (.ii (.obi (.brf (.brt (.obt (.obt (.obt (.obt (.obt (.obt (.obt (.br (bif bif wI (wI (wI (wI (wI (0+1)+1)+1)+1)+1)!=1 then wI (wI (wI (wI (wI (0+1)+1)+1)+1)+1)!=4 else false then dX n0 (aa af f0) n2 (aa ah f2) x4 n5 (aa aB f5) n7 (aa aG f7) n9 (aa aH f9) n11 (aa aA f11) n13 (aa ac f13) n15 (aa aU f15)!=0 else false) (.obt (.ret (V.tup [msV n0 (aa af f0) n2 (aa ah f2) x4 n5 (aa aB f5) n7 (aa aG f7) n9 (aa aH f9) n11 (aa aA f11) n13 (aa ac f13) n15 (aa aU f15) x17 x18 x19 x20 x21 x22 x23 x24 x25 x26 x27 x28,vi (dX n0 (aa af f0) n2 (aa ah f2) x4 n5 (aa aB f5) n7 (aa aG f7) n9 (aa aH f9) n11 (aa aA f11) n13 (aa ac f13) n15 (aa aU f15))]))) (.brf (.ret (V.tup [msV n0 (aa af f0) n2 (aa ah f2) x4 n5 (aa aB f5) n7 (aa aG f7) n9 (aa aH f9) n11 (aa aA f11) n13 (aa ac f13) n15 (aa aU f15) x17 x18 x19 x20 x21 x22 x23 x24 x25 x26 x27 x28,vi 0])))))))))))))))))))))))))))))))))))))))))))))))))))))))))))))))))))))))))))))))
theorem Zo:cW cX (aV JJ ace u7 aeV [V.agg [V.sl n0 (aa af f0),V.sl n2 (aa ah f2),vi x4,V.sl n5 (aa aB f5),V.sl n7 (aa aG f7),V.sl n9 (aa aH f9),V.sl n11 (aa aA f11),V.sl n13 (aa ac f13),V.sl n15 (aa aU f15)],V.agg [vi x17,vi x18,vi x19,vi x20,vi x21,vi x22,vi x23,vi x24,vi x25,vi x26,vi x27,vi x28]]) (Uk n0 f0 n2 f2 x4 n5 f5 n7 f7 n9 f9 n11 f11 n13 f13 n15 f15 x17 x18 x19 x20 x21 x22 x23 x24 x25 x26 x27 x28):=bF
theorem adJ (hp:ap n0 (aa af f0)/\ap n2 (aa ah f2)/\ap n5 (aa aB f5)/\ap n11 (aa aA f11)):aX cL (Uk n0 f0 n2 f2 x4 n5 f5 n7 f7 n9 f9 n11 f11 n13 f13 n15 f15 x17 x18 x19 x20 x21 x22 x23 x24 x25 x26 x27 x28) (.tup [.agg [vi (r6 n0 (aa af f0) n2 (aa ah f2) x4 n5 (aa aB f5) n7 (aa aG f7) n9 (aa aH f9) n11 (aa aA f11) n13 (aa ac f13) n15 (aa aU f15) x17 x18 x19 x20 x21 x22 x23 x24 x25 x26 x27 x28),vi (r5 n0 (aa af f0) n2 (aa ah f2) x4 n5 (aa aB f5) n7 (aa aG f7) n9 (aa aH f9) n11 (aa aA f11) n13 (aa ac f13) n15 (aa aU f15) x17 x18 x19 x20 x21 x22 x23 x24 x25 x26 x27 x28),vi (sG n0 (aa af f0) n2 (aa ah f2) x4 n5 (aa aB f5) n7 (aa aG f7) n9 (aa aH f9) n11 (aa aA f11) n13 (aa ac f13) n15 (aa aU f15) x17 x18 x19 x20 x21 x22 x23 x24 x25 x26 x27 x28),vi (sh n0 (aa af f0) n2 (aa ah f2) x4 n5 (aa aB f5) n7 (aa aG f7) n9 (aa aH f9) n11 (aa aA f11) n13 (aa ac f13) n15 (aa aU f15) x17 x18 x19 x20 x21 x22 x23 x24 x25 x26 x27 x28),vi (r7 n0 (aa af f0) n2 (aa ah f2) x4 n5 (aa aB f5) n7 (aa aG f7) n9 (aa aH f9) n11 (aa aA f11) n13 (aa ac f13) n15 (aa aU f15) x17 x18 x19 x20 x21 x22 x23 x24 x25 x26 x27 x28),vi (sK n0 (aa af f0) n2 (aa ah f2) x4 n5 (aa aB f5) n7 (aa aG f7) n9 (aa aH f9) n11 (aa aA f11) n13 (aa ac f13) n15 (aa aU f15) x17 x18 x19 x20 x21 x22 x23 x24 x25 x26 x27 x28),vi (sA n0 (aa af f0) n2 (aa ah f2) x4 n5 (aa aB f5) n7 (aa aG f7) n9 (aa aH f9) n11 (aa aA f11) n13 (aa ac f13) n15 (aa aU f15) x17 x18 x19 x20 x21 x22 x23 x24 x25 x26 x27 x28),vi (sR n0 (aa af f0) n2 (aa ah f2) x4 n5 (aa aB f5) n7 (aa aG f7) n9 (aa aH f9) n11 (aa aA f11) n13 (aa ac f13) n15 (aa aU f15) x17 x18 x19 x20 x21 x22 x23 x24 x25 x26 x27 x28),vi (rV n0 (aa af f0) n2 (aa ah f2) x4 n5 (aa aB f5) n7 (aa aG f7) n9 (aa aH f9) n11 (aa aA f11) n13 (aa ac f13) n15 (aa aU f15) x17 x18 x19 x20 x21 x22 x23 x24 x25 x26 x27 x28),vi (sJ n0 (aa af f0) n2 (aa ah f2) x4 n5 (aa aB f5) n7 (aa aG f7) n9 (aa aH f9) n11 (aa aA f11) n13 (aa ac f13) n15 (aa aU f15) x17 x18 x19 x20 x21 x22 x23 x24 x25 x26 x27 x28)],vi (Ed n0 (aa af f0) n2 (aa ah f2) x4 n5 (aa aB f5) n7 (aa aG f7) n9 (aa aH f9) n11 (aa aA f11) n13 (aa ac f13) n15 (aa aU f15) x17 x18 x19 x20 x21 x22 x23 x24 x25 x26 x27 x28)]):=by
 unfold Uk
 (repeat (first|refine evObt ?_|refine evObi ?_|refine fE ?_|refine jR ?_|refine evObp hp ?_))
 refine evBr (fun h=>evObt (evRet (Em (by unfold Ed;rw[show((eX (dX n0 (aa af f0) n2 (aa ah f2) x4 n5 (aa aB f5) n7 (aa aG f7) n9 (aa aH f9) n11 (aa aA f11) n13 (aa ac f13) n15 (aa aU f15)) x17 x18 x19 x20)!=0)=true from h];rfl)))) (fun h=>?_)
 have h1:((eX (dX n0 (aa af f0) n2 (aa ah f2) x4 n5 (aa aB f5) n7 (aa aG f7) n9 (aa aH f9) n11 (aa aA f11) n13 (aa ac f13) n15 (aa aU f15)) x17 x18 x19 x20)!=0)=false:=h
 have h0:=(adh (gM h1)).1
 (repeat (first|refine evObt ?_|refine evObi ?_|refine fE ?_|refine jR ?_|refine evObp hp ?_))
 refine evBr (fun h=>evObt (evRet (Em (by unfold Ed;rw[h1];rfl)))) (fun h=>?_)
 have h2:((va (dX n0 (aa af f0) n2 (aa ah f2) x4 n5 (aa aB f5) n7 (aa aG f7) n9 (aa aH f9) n11 (aa aA f11) n13 (aa ac f13) n15 (aa aU f15)) x23 x24 x25 x26)!=0)=false:=h
 (repeat (first|refine evObt ?_|refine evObi ?_|refine fE ?_|refine jR ?_|refine evObp hp ?_))
 refine evBr (fun h=>?_) (fun h=>?_)
 ·have h:((dX n0 (aa af f0) n2 (aa ah f2) x4 n5 (aa aB f5) n7 (aa aG f7) n9 (aa aH f9) n11 (aa aA f11) n13 (aa ac f13) n15 (aa aU f15))!=0)=true:=h
  rw [h0]at h;cases h
 (repeat (first|refine evObt ?_|refine evObi ?_|refine fE ?_|refine jR ?_|refine evObp hp ?_))
 refine evBr (fun h=>?_) (fun h=>?_)
 ·have h:((dX n0 (aa af f0) n2 (aa ah f2) x4 n5 (aa aB f5) n7 (aa aG f7) n9 (aa aH f9) n11 (aa aA f11) n13 (aa ac f13) n15 (aa aU f15))!=0)=true:=h
  rw [h0]at h;cases h
 (repeat (first|refine evObt ?_|refine evObi ?_|refine fE ?_|refine jR ?_|refine evObp hp ?_))
 exact evRet (Em (by unfold Ed;rw[h1];exact gM h2))
def aaM:av:=bL [.agg [.sl af,.sl ah,tI,.sl aB,.sl aG,.sl aH,.sl aA,.sl ac,.sl aU],.agg [tI,tI,tI,tI,tI,tI,tI,tI,tI,tI,tI,tI]] (fun
 |[.agg [.sl n0 f0,.sl n2 f2,.int _ x4,.sl n5 f5,.sl n7 f7,.sl n9 f9,.sl n11 f11,.sl n13 f13,.sl n15 f15],.agg [.int _ x17,.int _ x18,.int _ x19,.int _ x20,.int _ x21,.int _ x22,.int _ x23,.int _ x24,.int _ x25,.int _ x26,.int _ x27,.int _ x28]]=>ap n0 f0/\ap n2 f2/\ap n5 f5/\ap n11 f11
 |_=>False) fun
 |[.agg [.sl n0 f0,.sl n2 f2,.int _ x4,.sl n5 f5,.sl n7 f7,.sl n9 f9,.sl n11 f11,.sl n13 f13,.sl n15 f15],.agg [.int _ x17,.int _ x18,.int _ x19,.int _ x20,.int _ x21,.int _ x22,.int _ x23,.int _ x24,.int _ x25,.int _ x26,.int _ x27,.int _ x28]]=>.tup [.agg [vi (r6 n0 f0 n2 f2 x4 n5 f5 n7 f7 n9 f9 n11 f11 n13 f13 n15 f15 x17 x18 x19 x20 x21 x22 x23 x24 x25 x26 x27 x28),vi (r5 n0 f0 n2 f2 x4 n5 f5 n7 f7 n9 f9 n11 f11 n13 f13 n15 f15 x17 x18 x19 x20 x21 x22 x23 x24 x25 x26 x27 x28),vi (sG n0 f0 n2 f2 x4 n5 f5 n7 f7 n9 f9 n11 f11 n13 f13 n15 f15 x17 x18 x19 x20 x21 x22 x23 x24 x25 x26 x27 x28),vi (sh n0 f0 n2 f2 x4 n5 f5 n7 f7 n9 f9 n11 f11 n13 f13 n15 f15 x17 x18 x19 x20 x21 x22 x23 x24 x25 x26 x27 x28),vi (r7 n0 f0 n2 f2 x4 n5 f5 n7 f7 n9 f9 n11 f11 n13 f13 n15 f15 x17 x18 x19 x20 x21 x22 x23 x24 x25 x26 x27 x28),vi (sK n0 f0 n2 f2 x4 n5 f5 n7 f7 n9 f9 n11 f11 n13 f13 n15 f15 x17 x18 x19 x20 x21 x22 x23 x24 x25 x26 x27 x28),vi (sA n0 f0 n2 f2 x4 n5 f5 n7 f7 n9 f9 n11 f11 n13 f13 n15 f15 x17 x18 x19 x20 x21 x22 x23 x24 x25 x26 x27 x28),vi (sR n0 f0 n2 f2 x4 n5 f5 n7 f7 n9 f9 n11 f11 n13 f13 n15 f15 x17 x18 x19 x20 x21 x22 x23 x24 x25 x26 x27 x28),vi (rV n0 f0 n2 f2 x4 n5 f5 n7 f7 n9 f9 n11 f11 n13 f13 n15 f15 x17 x18 x19 x20 x21 x22 x23 x24 x25 x26 x27 x28),vi (sJ n0 f0 n2 f2 x4 n5 f5 n7 f7 n9 f9 n11 f11 n13 f13 n15 f15 x17 x18 x19 x20 x21 x22 x23 x24 x25 x26 x27 x28)],vi (Ed n0 f0 n2 f2 x4 n5 f5 n7 f7 n9 f9 n11 f11 n13 f13 n15 f15 x17 x18 x19 x20 x21 x22 x23 x24 x25 x26 x27 x28)]
 |_=>.any
theorem agP:cr aaM 4:=aY agX fun _ hp=>c9 (Zo ..) (adJ _ _ _ _ _ _ _ _ _ _ _ _ _ _ _ _ _ _ _ _ _ _ _ _ _ _ _ _ _ hp)
theorem B0 (n:Int):wI n=Int.bmod n 18446744073709551616:=by
 unfold wI IntKind.wrap Int.bmod
 show (if true&&decide (n % 18446744073709551616 ≥ 9223372036854775808) then _ else _)=_
 by_cases h:n % 18446744073709551616<9223372036854775808
 ·rw[aaT (by simpa using h),aby (by simpa using h)];rfl
 ·rw[aby (by simpa using h),aaT (by simpa using h)];rfl
theorem anx (n:Int):wI (wI n)=wI n:=by rw[B0,B0,Int.bmod_bmod]
theorem ad6 (a b:Int):wI (a+wI b)=wI (a+b):=by rw[B0,B0,B0,Int.add_bmod_bmod]
theorem Qg (p:Nat->Bool) (v:Nat->Int):∀ n,wI (iP p v n)=iP p v n
 |0=>rfl
 | n+1=>by
   show wI (bif p n then _ else _)=(bif p n then _ else _)
   cases p n with
   |true=>exact anx _
   |false=>exact Qg p v n
theorem Cs {p p':Nat->Bool} {v v':Nat->Int} {i n:Nat} (h:∀ k,k<n->p' k=(decide (k=i)&&p k)) (hv:v' i=v i):∀ m,m<=n->iP p' v' m=bif decide (i<m)&&p i then wI (v i) else 0
 |0,_=>by simp[iP]
 | m+1,hm=>by
   have ih:=Cs h hv m (by omega)
   show (bif p' m then _ else _)=_
   rw [h m (by omega),ih]
   by_cases e:m=i
   ·subst e
    rw [dqt rfl,ef (by omega:¬ m<m),dqt (by omega:m<m+1),hv]
    cases p m<;>simp
   ·rw[ef e]
    by_cases h2:i<m
    ·rw[dqt h2,dqt (by omega:i<m+1)];simp
    ·rw[ef h2,ef (by omega:¬ i<m+1)];simp
def eW (s:Nat->Int):Nat->Int
 |0=>0
 |k+1=>wI (eW s k+s k)
theorem CB {p:Nat->Bool} {v s:Nat->Int} {n:Nat} (h:∀ k,k<n->s k=bif p k then wI (v k) else 0):∀ m,m<=n->eW s m=iP p v m
 |0,_=>rfl
 | m+1,hm=>by
   show wI (eW s m+s m)=(bif p m then _ else _)
   rw [CB h m (by omega),h m (by omega)]
   cases p m with
   |true=>exact ad6 _ _
   |false=>show wI (iP p v m+0)=_;rw[Int.add_zero,Qg];rfl
def Al (f g:aL) (i n:Nat):Prop:=∀ k,k<n->aw (g k)=bif Nat.beq k i then aw (f k) else -1
section
variable {f g:aL} {i n:Nat} (h:Al f g i n)
include f g i n h
theorem Al.at (hi:i<n):aw (g i)=aw (f i):=by rw[h i hi,apl];rfl
theorem Al.on (k:Nat) (hk:k<n):jy g k=(decide (k=i)&&jy f k):=by
 unfold jy
 rw [h k hk]
 by_cases e:k=i
 ·subst e;rw[apl,dqt rfl];rfl
 ·rw[show Nat.beq k i=false from by cases hb:Nat.beq k i with|true=>exact absurd (aax hb) e|false=>rfl,ef e];rfl
theorem Al.wd (n5:Nat) (f5:aL) (n7:Nat) (f7:aL) (n9:Nat) (f9:aL) (n11:Nat) (f11:aL) (x:Int) (k:Nat) (hk:k<n):KN g n5 f5 n7 f7 n9 f9 n11 f11 x k=(decide (k=i)&&KN f n5 f5 n7 f7 n9 f9 n11 f11 x k):=by
 unfold KN
 rw [h.on k hk]
 cases decide (k=i)<;>rfl
end
def km (p:Bool) (v:Int):Int:=bif p then wI v else 0
theorem lf {p p':Nat->Bool} {v v':Nat->Int} {i n:Nat} (hi:i<n) (h:∀ k,k<n->p' k=(decide (k=i)&&p k)) (hv:v' i=v i):iP p' v' n=km (p i) (v i):=by
 rw [Cs h hv n (aaS n),dqt hi];rfl
theorem kY {e:Int} {p:Nat->Bool} {v s:Nat->Int} {n:Nat} (h:∀ k,k<n->s k=iA e (km (p k) (v k))):eW s n=iA e (iP p v n):=by
 unfold iA at *
 cases he:e==0 with
 | true =>
   simp only [he]at h
   exact CB h n (aaS n)
 | false =>
   simp only [he]at h
   show eW s n=0
   have:∀ m,m<=n->eW s m=0:=by
    intro m
    induction m with
    |zero=>exact fun _=>rfl
    | succ m ih =>
      intro hm
      show wI (eW s m+s m)=0
      rw [ih (by omega),h m (by omega)];rfl
   exact this n (aaS n)
section
variable {n0:Nat} {f0:aL} {n2:Nat} {f2:aL} {x4:Int} {n5:Nat} {f5:aL} {n7:Nat} {f7:aL} {n9:Nat} {f9:aL} {n11:Nat} {f11:aL} {n13:Nat} {f13 g f15:aL} {x17 x18 x19 x20 x21 x22 x23 x24 x25 x26 x27 x28:Int} {i:Nat} (h:Al f13 g i n13) (hi:i<n13)
include h hi
theorem K1:mW n0 f0 n2 f2 n5 f5 n7 f7 n9 f9 n11 f11 g f15 x17 x18 x19 x20 n13=km (jy f13 i) (nT n0 f0 n2 f2 n5 f5 n7 f7 n9 f9 n11 f11 f13 f15 (i:Int) (aW (f11 i)) (b7 (f11 i)) (bV (f11 i)) (dA (f11 i)) (bE (f11 i)) x17 x18 x19 x20):=by
 unfold mW
 refine lf (v:=fun i=>nT n0 f0 n2 f2 n5 f5 n7 f7 n9 f9 n11 f11 f13 f15 (i:Int) (aW (f11 i)) (b7 (f11 i)) (bV (f11 i)) (dA (f11 i)) (bE (f11 i)) x17 x18 x19 x20) hi (h.on) ?_
 unfold nT oh
 simp only [acm]
 rw [h.at hi]
theorem LY:m4 n0 f0 n2 f2 n5 f5 n7 f7 n9 f9 n11 f11 g f15 x17 x18 x19 x20 n13=km (jy f13 i) (nP n0 f0 n2 f2 n5 f5 n7 f7 n9 f9 n11 f11 f13 f15 (i:Int) (aW (f11 i)) (b7 (f11 i)) (bV (f11 i)) (dA (f11 i)) (bE (f11 i)) x17 x18 x19 x20):=by
 unfold m4
 refine lf (v:=fun i=>nP n0 f0 n2 f2 n5 f5 n7 f7 n9 f9 n11 f11 f13 f15 (i:Int) (aW (f11 i)) (b7 (f11 i)) (bV (f11 i)) (dA (f11 i)) (bE (f11 i)) x17 x18 x19 x20) hi (h.on) ?_
 unfold nP oy
 simp only [acm]
 rw [h.at hi]
theorem La:mZ n0 f0 n2 f2 x4 n5 f5 n7 f7 n9 f9 n11 f11 g f15 x17 x18 x19 x20 x21 x22 n13=km (jy f13 i) (nG n0 f0 n2 f2 x4 n5 f5 n7 f7 n9 f9 n11 f11 f13 f15 (i:Int) (aW (f11 i)) (b7 (f11 i)) (bV (f11 i)) (dA (f11 i)) (bE (f11 i)) x17 x18 x19 x20 x21 x22):=by
 unfold mZ
 refine lf (v:=fun i=>nG n0 f0 n2 f2 x4 n5 f5 n7 f7 n9 f9 n11 f11 f13 f15 (i:Int) (aW (f11 i)) (b7 (f11 i)) (bV (f11 i)) (dA (f11 i)) (bE (f11 i)) x17 x18 x19 x20 x21 x22) hi (h.on) ?_
 unfold nG oh
 simp only [acm]
 rw [h.at hi]
theorem Li:mY n0 f0 n2 f2 x4 n5 f5 n7 f7 n9 f9 n11 f11 g f15 x17 x18 x19 x20 x21 x22 n13=km (jy f13 i) (nO n0 f0 n2 f2 x4 n5 f5 n7 f7 n9 f9 n11 f11 f13 f15 (i:Int) (aW (f11 i)) (b7 (f11 i)) (bV (f11 i)) (dA (f11 i)) (bE (f11 i)) x17 x18 x19 x20 x21 x22):=by
 unfold mY
 refine lf (v:=fun i=>nO n0 f0 n2 f2 x4 n5 f5 n7 f7 n9 f9 n11 f11 f13 f15 (i:Int) (aW (f11 i)) (b7 (f11 i)) (bV (f11 i)) (dA (f11 i)) (bE (f11 i)) x17 x18 x19 x20 x21 x22) hi (h.on) ?_
 unfold nO oy
 simp only [acm]
 rw [h.at hi]
theorem KZ:mT n0 f0 n2 f2 f11 g f15 x23 x24 x25 x26 n13=km (jy f13 i) (sk n0 f0 n2 f2 f13 f15 (i:Int) (aW (f11 i)) (b7 (f11 i)) (bV (f11 i)) (dA (f11 i)) (bE (f11 i)) x23 x24 x25 x26):=by
 unfold mT
 refine lf (v:=fun i=>sk n0 f0 n2 f2 f13 f15 (i:Int) (aW (f11 i)) (b7 (f11 i)) (bV (f11 i)) (dA (f11 i)) (bE (f11 i)) x23 x24 x25 x26) hi (h.on) ?_
 unfold sk oh
 simp only [acm]
 rw [h.at hi]
theorem K8:mS n0 f0 n2 f2 f11 g f15 x23 x24 x25 x26 n13=km (jy f13 i) (sW n0 f0 n2 f2 f13 f15 (i:Int) (aW (f11 i)) (b7 (f11 i)) (bV (f11 i)) (dA (f11 i)) (bE (f11 i)) x23 x24 x25 x26):=by
 unfold mS
 refine lf (v:=fun i=>sW n0 f0 n2 f2 f13 f15 (i:Int) (aW (f11 i)) (b7 (f11 i)) (bV (f11 i)) (dA (f11 i)) (bE (f11 i)) x23 x24 x25 x26) hi (h.on) ?_
 unfold sW oy
 simp only [acm]
 rw [h.at hi]
theorem LI:D1 n0 f0 n2 f2 g f15 n13=km (jy f13 i) (uc n0 f0 n2 f2 (aw (f13 i)) (b7 (f15 i))):=by
 unfold D1
 refine lf (v:=fun i=>uc n0 f0 n2 f2 (aw (f13 i)) (b7 (f15 i))) hi (h.on) ?_
 show uc n0 f0 n2 f2 (aw (g i)) (b7 (f15 i))=_
 rw [h.at hi]
theorem Lo:DZ n0 f0 n2 f2 g f15 n13=km (jy f13 i) (uf n0 f0 n2 f2 (aw (f13 i)) (b7 (f15 i))):=by
 unfold DZ
 refine lf (v:=fun i=>uf n0 f0 n2 f2 (aw (f13 i)) (b7 (f15 i))) hi (h.on) ?_
 show uf n0 f0 n2 f2 (aw (g i)) (b7 (f15 i))=_
 rw [h.at hi]
theorem YX:Xy n0 f0 n2 f2 g f15 n5 f5 n7 f7 n9 f9 n11 f11 x27 x28 n13=km (KN f13 n5 f5 n7 f7 n9 f9 n11 f11 x27 i) (wnS n0 f0 n2 f2 f13 f15 (i:Int) (aW (f11 i)) (b7 (f11 i)) (bV (f11 i)) (dA (f11 i)) (bE (f11 i)) (tW n5 f5 n7 f7 n9 f9 n11 f11 x27 x28) (to n5 f5 n7 f7 n9 f9 n11 f11 x27 x28) (te n5 f5 n7 f7 n9 f9 n11 f11 x27 x28) (tQ n5 f5 n7 f7 n9 f9 n11 f11 x27 x28) (yL n5 f5 n7 f7 n9 f9 n11 f11 x27 x28) (yX n5 f5 n7 f7 n9 f9 n11 f11 x27 x28)):=by
 unfold Xy
 refine lf (v:=fun i=>wnS n0 f0 n2 f2 f13 f15 (i:Int) (aW (f11 i)) (b7 (f11 i)) (bV (f11 i)) (dA (f11 i)) (bE (f11 i)) (tW n5 f5 n7 f7 n9 f9 n11 f11 x27 x28) (to n5 f5 n7 f7 n9 f9 n11 f11 x27 x28) (te n5 f5 n7 f7 n9 f9 n11 f11 x27 x28) (tQ n5 f5 n7 f7 n9 f9 n11 f11 x27 x28) (yL n5 f5 n7 f7 n9 f9 n11 f11 x27 x28) (yX n5 f5 n7 f7 n9 f9 n11 f11 x27 x28)) hi (h.wd n5 f5 n7 f7 n9 f9 n11 f11 x27) ?_
 unfold wnS wnI wnW Ko
 simp only [acm]
 rw [h.at hi]
theorem WJ:skS n0 f0 n2 f2 g f15 n13=km (jy f13 i) (Ko n0 f0 n2 f2 f13 f15 (i:Int) (bE (f0 (aW (f2 (aw (f13 i)).toNat)).toNat))):=by
 unfold skS
 refine lf (v:=fun i=>Ko n0 f0 n2 f2 f13 f15 (i:Int) (bE (f0 (aW (f2 (aw (f13 i)).toNat)).toNat))) hi (h.on) ?_
 unfold Ko
 simp only [acm]
 rw [h.at hi]
end
def Q4:aZ:=[]
theorem ae0:aO Tryz.prog eqs its Q4:=.nil
inductive qQ where
 |L0 (ia0:Int) (na1:Nat) (fa2:aL)
def Ze:qQ->bD×List O×Option Ex
 |.L0 ia0 na1 fa2=>([(6,vi ia0),(5,V.gs 0 na1),(4,V.pl 1 0),(2,V.pl 2 0),(1,vi x17)],[O.gl 1 na1 (aa ac fa2) 3,O.cells [V.ns,V.ns,vi 0,V.ns,V.ns,V.ns,V.ns,V.ns,V.ns] 35,O.cells [V.sl n0 (aa af f0),V.sl n2 (aa ah f2),vi x4,V.sl n5 (aa aB f5),V.sl n7 (aa aG f7),V.sl n9 (aa aH f9),V.sl n11 (aa aA f11),V.sl n13 (aa ac f13),V.sl n15 (aa aU f15)] 35],none)
def afE:qQ->JJ
 |.L0 ia0 na1 fa2=>(0,[])
def M8:T (ck JJ):=NK JJ Q4 u0 ahn [V.agg [V.sl n0 (aa af f0),V.sl n2 (aa ah f2),vi x4,V.sl n5 (aa aB f5),V.sl n7 (aa aG f7),V.sl n9 (aa aH f9),V.sl n11 (aa aA f11),V.sl n13 (aa ac f13),V.sl n15 (aa aU f15)],vi x17]
def Cd (cx:List Cx):Lp JJ:=fQ (eZ (M8 n0 f0 n2 f2 x4 n5 f5 n7 f7 n9 f9 n11 f11 n13 f13 n15 f15 x17) [])
def afo:JJ->Lp JJ
 |(0,cx)=>Cd n0 f0 n2 f2 x4 n5 f5 n7 f7 n9 f9 n11 f11 n13 f13 n15 f15 x17 cx
 |(_,cx)=>Cd n0 f0 n2 f2 x4 n5 f5 n7 f7 n9 f9 n11 f11 n13 f13 n15 f15 x17 cx
def amb:LD JJ qQ:=⟨afE,afo n0 f0 n2 f2 x4 n5 f5 n7 f7 n9 f9 n11 f11 n13 f13 n15 f15 x17,Ze n0 f0 n2 f2 x4 n5 f5 n7 f7 n9 f9 n11 f11 n13 f13 n15 f15 x17⟩
def EP:qQ->RT qQ
 |.L0 ia0 na1 fa2=>.am n13 (.br (decide (ia0<(n13:Int))) (.br (ia0==x17) (.ob (dI ia0 n13) (.obt (.ob (decide (na1<=na1/\(na1+1)*8<=140737488355328)&&!Nat.beq 8 0) (.next [some (some 4),some (some 1),some (some 2)] (qQ.L0 (wI (ia0+1)) (na1+1) (bh na1 (aa ac fa2) fun x=>[vi (aw (f13 ia0.toNat))])) [⟨0,ac,na1+1,bh na1 (aa ac fa2) fun x=>[vi (aw (f13 ia0.toNat))],eN (aC rfl _ _) (dN rfl _ rfl)⟩])))) (.obt (.ob (decide (na1<=na1/\(na1+1)*8<=140737488355328)&&!Nat.beq 8 0) (.next [some (some 4),some (some 1),some (some 2)] (qQ.L0 (wI (ia0+1)) (na1+1) (bh na1 (aa ac fa2) fun x=>[vi (-1)])) [⟨0,ac,na1+1,bh na1 (aa ac fa2) fun x=>[vi (-1)],eN (aC rfl _ _) (dN rfl _ rfl)⟩])))) (.ob (na1.ble na1) (.ret (V.agg [V.sl n0 (aa af f0),V.sl n2 (aa ah f2),vi x4,V.sl n5 (aa aB f5),V.sl n7 (aa aG f7),V.sl n9 (aa aH f9),V.sl n11 (aa aA f11),V.sl na1 (aa ac fa2),V.sl n15 (aa aU f15)]))))
def aa2:RT qQ:=dm (n0,f0,n2,f2,x4,n5,f5,n7,f7,n9,f9,n11,f11,n13,f13,n15,f15,x17) (.enter [some none,some (some 1),some (some 0)] (qQ.L0 0 0 (fun i=>[])) [])
theorem Yi:eS Q4 u0 (amb n0 f0 n2 f2 x4 n5 f5 n7 f7 n9 f9 n11 f11 n13 f13 n15 f15 x17) (M8 n0 f0 n2 f2 x4 n5 f5 n7 f7 n9 f9 n11 f11 n13 f13 n15 f15 x17) (aa2 n0 f0 n2 f2 x4 n5 f5 n7 f7 n9 f9 n11 f11 n13 f13 n15 f15 x17) (EP n0 f0 n2 f2 x4 n5 f5 n7 f7 n9 f9 n11 f11 n13 f13 n15 f15 x17):=⟨bF,fun s=>by cases s<;>exact bF⟩
def fT:Nat->List V:=fun k=>[vi (bif(k:Int)==x17 then aw (f13 k) else -1)]
def JW:List Ty:=[.agg [.sl af,.sl ah,tI,.sl aB,.sl aG,.sl aH,.sl aA,.sl ac,.sl aU],tI]
def an7:List V->Prop
 |[.agg [.sl _ _,.sl _ _,.int _ _,.sl _ _,.sl _ _,.sl _ _,.sl _ _,.sl n13 _,.sl _ _],.int _ _]=>n13<=1000
 |_=>False
def aaz:List V->V
 |[.agg [.sl n0 f0,.sl n2 f2,.int k4 x4,.sl n5 f5,.sl n7 f7,.sl n9 f9,.sl n11 f11,.sl n13 f13,.sl n15 f15],.int _ x17]=>.agg [.sl n0 f0,.sl n2 f2,.int k4 x4,.sl n5 f5,.sl n7 f7,.sl n9 f9,.sl n11 f11,.sl n13 (aa ac (fT f13 x17)),.sl n15 f15]
 |_=>.any
def Sv:av:=bL JW an7 aaz
theorem akE (h24:n13<=1000):∀ k,k<=n13->∀ f:aL,(∀ j,j<k->al ac (f j)=fT f13 x17 j)->Ev (EP n0 f0 n2 f2 x4 n5 f5 n7 f7 n9 f9 n11 f11 n13 f13 n15 f15 x17) (.L0 (k:Int) k f) (V.agg [V.sl n0 (aa af f0),V.sl n2 (aa ah f2),vi x4,V.sl n5 (aa aB f5),V.sl n7 (aa aG f7),V.sl n9 (aa aH f9),V.sl n11 (aa aA f11),V.sl n13 (aa ac (fT f13 x17)),V.sl n15 (aa aU f15)]):=by
 refine dO fun k hk ih f hf=>?_
 refine Ev.of rfl (bw fun _=>?_)
 by_cases hlt:k<n13
 ·have hk1:wI ((k:Int)+1)=((k+1:Nat):Int):=by rw[wrapI (by omega) (by omega)];omega
  have hd:decide (0<=(k:Int)/\(k:Int)<(n13:Int))=true:=dqt (by omega)
  have hs:(decide (k<=k/\(k+1)*8<=140737488355328)&&!Nat.beq 8 0)=true:=by
   simp only [aaw];exact⟨dqt ⟨aaS _,by omega⟩,rfl⟩
  have key:∀ (z:Int),z=(bif(k:Int)==x17 then aw (f13 k) else -1)->∀ j,j<k+1->al ac (bh k (aa ac f) (fun x=>[vi z]) j)=fT f13 x17 j:=by
   intro z hz j hj
   unfold bh
   by_cases hjk:j<k
   ·rw[Ik hjk];show al _ (al _ (f j))=_;rw[dP];exact hf j hjk
   ·have:j=k:=by omega
    subst this
    rw [QS (aaS _),hz];rfl
  refine cI (dqt (by omega)) (evBr (fun h=>aD hd (evObt (aD hs (aS ?_)))) (fun h=>evObt (aD hs (aS ?_))))
  ·rw[hk1]
   exact ih hlt _ (key _ (by rw[h];rfl))
  ·rw[hk1]
   exact ih hlt _ (key _ (by rw[h];rfl))
 ·have e:k=n13:=by omega
  subst e
  refine cS (ef (by omega)) (aD (adr (aaS _)) (evRet ?_))
  have e:=I7 (n:=k) (f:=aa ac f) (g:=aa ac (fT f13 x17)) fun i hi=>by show cu (al _ (f i))=cu (al _ (fT f13 x17 i));rw[hf i hi];rfl
  show ak.agg (cu _)=ak.agg (cu _)
  simp only [cu]
  rw [e]
theorem adV (hp:n13<=1000):aX (Ev (EP n0 f0 n2 f2 x4 n5 f5 n7 f7 n9 f9 n11 f11 n13 f13 n15 f15 x17)) (aa2 n0 f0 n2 f2 x4 n5 f5 n7 f7 n9 f9 n11 f11 n13 f13 n15 f15 x17) (V.agg [V.sl n0 (aa af f0),V.sl n2 (aa ah f2),vi x4,V.sl n5 (aa aB f5),V.sl n7 (aa aG f7),V.sl n9 (aa aH f9),V.sl n11 (aa aA f11),V.sl n13 (aa ac (fT (aa ac f13) x17)),V.sl n15 (aa aU f15)]):=aM (akE n0 f0 n2 f2 x4 n5 f5 n7 f7 n9 f9 n11 f11 n13 f13 n15 f15 x17 hp 0 (acK _) _ fun j hj=>absurd hj (Nat.not_lt_zero _))
section
variable (vs:List V)
include vs
theorem Xx:bM (al aJ vs):=by
 show bM [V.int _ _,V.int _ _]
 simp only [bM,cD,aqA]
theorem Zq:bM (al gP vs):=by
 show bM [V.int _ _,V.int _ _,V.int _ _,V.int _ _]
 simp only [bM,cD,aqA]
theorem LL:bM (al af vs):=by
 show bM [V.str _,V.sl _ (aa ac _),V.sl _ (aa ac _),V.sl _ (aa [Ty.sl ac] _),V.int _ _,V.int _ _]
 simp only [bM,cD,agn,aoW,aqA]
 exact ⟨fun _ _=>fV _,fun _ _=>fV _,fun _ _=>sE _⟩
theorem LW:bM (al ah vs):=by
 show bM [V.str _,V.int _ _,V.int _ _,V.int _ _,V.int _ _,V.int _ _,V.int _ _,V.int _ _,V.int _ _,V.int _ _,V.int _ _,V.int _ _,V.int _ _,V.int _ _]
 simp only [bM,cD,agn,aoW,aqA]
theorem yaV:bM (al aB vs):=by
 show bM [V.str _,V.int _ _,V.sl _ (aa aJ _),V.int _ _]
 simp only [bM,cD,agn,aoW,aqA]
 exact fun _ _=>Xx _
theorem M9:bM (al aG vs):=by
 show bM [V.int _ _,V.int _ _,V.int _ _,V.int _ _,V.int _ _]
 simp only [bM,cD,agn,aoW,aqA]
theorem QQ:bM (al aH vs):=by
 show bM [V.int _ _,V.int _ _,V.int _ _,V.int _ _,V.sl _ (aa gP _)]
 simp only [bM,cD,agn,aoW,aqA]
 exact fun _ _=>Zq _
theorem QJ:bM (al aA vs):=by
 show bM [V.str _,V.int _ _,V.int _ _,V.int _ _,V.int _ _,V.int _ _]
 simp only [bM,cD,agn,aoW,aqA]
theorem On:bM (al aU vs):=by
 show bM [V.int _ _,V.int _ _,V.int _ _]
 simp only [bM,cD,agn,aoW,aqA]
end
theorem NP (ds:List V):cD (aaz (al JW ds)):=by
 show cD (.agg [V.sl _ (aa af _),V.sl _ (aa ah _),V.int _ _,V.sl _ (aa aB _),V.sl _ (aa aG _),V.sl _ (aa aH _),V.sl _ (aa aA _),V.sl _ (aa ac _),V.sl _ (aa aU _)])
 simp only [cD,bM,agn,aoW]
 exact ⟨fun i hi=>LL _,fun i hi=>LW _,fun i hi=>yaV _,fun i hi=>M9 _,fun i hi=>QQ _,fun i hi=>QJ _,fun i hi=>fV _,fun i hi=>On _⟩
theorem akc (f:aL) (h:Int) (i:Nat):lX 1 (aa ac (fT f h) i)=true/\(cu (aa ac (fT f h) i)).all bm=true/\(aa ac (fT f h) i).all V.fc=true:=by
 refine ⟨rfl,?_,rfl⟩
 show (cu [vi _]).all bm=true
 simp only [cu,cz,adT,bm,List.all_nil,aqB]
theorem Z8:∀ ds d p r,Sv ds=some (d,p,r)->d.1=d.2->p->∀ w0 lh args,bg w0 lh Nu.nil ds args->∃ x new,vr w0 (lh++new) Nu.nil r x:=Ao (fun ds hty hp w0 lh args ha=>by
 have hp:aN (aE (ae (ae (ae (ae (ae (ae (ae (da (aE ds))))))))))<=1000:=hp
 change bg w0 lh Nu.nil [V.agg [V.sl _ _,V.sl _ _,V.int _ _,V.sl _ _,V.sl _ _,V.sl _ _,V.sl _ _,V.sl _ _,V.sl _ _],V.int _ _] args at ha
 simp only [bg]at ha
 obtain ⟨a,as1,rfl,h1,b,bs,rfl,h2,rfl⟩:=ha
 rw [vr.eq_5]at h1
 obtain ⟨cs,rfl,h1⟩:=h1
 simp only [bg]at h1
 obtain ⟨c0,_,rfl,g0,c1,_,rfl,g1,c2,_,rfl,g2,c3,_,rfl,g3,c4,_,rfl,g4,c5,_,rfl,g5,c6,_,rfl,g6,c7,_,rfl,g7,c8,_,rfl,g8,rfl⟩:=h1
 obtain ⟨y,new,gy⟩:=F1 (w0:=w0) (lh:=lh) (e:=1) (n:=aN (aE (ae (ae (ae (ae (ae (ae (ae (da (aE ds))))))))))) (f:=aa ac (fT (aa ac (bO (aE (ae (ae (ae (ae (ae (ae (ae (da (aE ds)))))))))))) (aW ds))) (by omega) fun i hi=>akc _ _ i
 have z:∀ (l t:List ao),uh l (l++t):=fun l t k as1 ty hk=>by rw[aaQ (List.getElem?_eq_some_iff.1 hk).1];exact hk
 have up:∀ v a,vr w0 lh Nu.nil v a->vr w0 (lh++new) Nu.nil v a:=fun v a h=>kK (z _ _) v a h
 refine ⟨.agg [c0,c1,c2,c3,c4,c5,c6,y,c8],new,?_⟩
 show vr w0 _ Nu.nil (.agg [V.sl _ _,V.sl _ _,V.int _ _,V.sl _ _,V.sl _ _,V.sl _ _,V.sl _ _,V.sl _ _,V.sl _ _]) _
 rw [vr.eq_5]
 simp only [bg]
 exact ⟨_,rfl,_,_,rfl,up _ _ g0,_,_,rfl,up _ _ g1,_,_,rfl,up _ _ g2,_,_,rfl,up _ _ g3,_,_,rfl,up _ _ g4,_,_,rfl,up _ _ g5,_,_,rfl,up _ _ g6,_,_,rfl,gy,_,_,rfl,up _ _ g8,rfl⟩) rfl
theorem aeN:(vZ Sv).Ok Tryz.prog 6:=afg ae0 Tryz.func6 bb (fun ds _=>NP ds) fun ds hp=>nd (Yi ..) (adV _ _ _ _ _ _ _ _ _ _ _ _ _ _ _ _ _ _ hp)
theorem nl (i n:Nat):Al (aa ac f13) (aa ac (fT (aa ac f13) (i:Int))) i n:=fun k _=>by
 show (bif(k:Int)==(i:Int) then aw (f13 k) else -1)=bif Nat.beq k i then aw (f13 k) else -1
 by_cases e:k=i
 ·subst e;rw[apl,show((k:Int)==(k:Int))=true from by simp]
 ·rw[show Nat.beq k i=false from by cases hb:Nat.beq k i with|true=>exact absurd (aax hb) e|false=>rfl,show((k:Int)==(i:Int))=false from by simpa using fun h:(k:Int)=(i:Int)=>e (Int.ofNat.inj h)]
theorem afb {a b c d e g:Bool} (h:zM a b c d e g=0):a=true/\b=true/\c=true/\d=true:=by
 cases a<;>cases b<;>cases c<;>cases d<;>first|exact⟨rfl,rfl,rfl,rfl⟩|cases h
theorem afc {f0:aL} {n2:Nat} {f2 f g f15:aL} {i n k:Nat} (h:Al f g i n) (hk:k<n) (hc:rO f0 n2 f2 f f15 k=0):rO f0 n2 f2 g f15 k=0:=by
 unfold rO at *
 by_cases e:k=i
 ·subst e;rw[h.at hk];exact hc
 ·have hm:aw (g k)=-1:=by
   rw [h k hk,show Nat.beq k i=false from by cases hb:Nat.beq k i with|true=>exact absurd (aax hb) e|false=>rfl];rfl
  obtain ⟨ha,hb,hc,hd⟩:=afb hc
  rw [hm,hb,hc,hd]
  have ha':bP (-1) (-1) (wI ((n2:Int)-1))=true:=by
   have:=tR ha
   unfold bP
   rw [dqt (by omega),dqt (by omega)];rfl
  rw [ha'];rfl
theorem anu {n0:Nat} {f0:aL} {n2:Nat} {f2:aL} {x4:Int} {n5:Nat} {f5:aL} {n7:Nat} {f7:aL} {n9:Nat} {f9:aL} {n11:Nat} {f11:aL} {n13:Nat} {f13 g:aL} {n15:Nat} {f15:aL} {i:Nat} (h:Al f13 g i n13) (hc:(dX n0 f0 n2 f2 x4 n5 f5 n7 f7 n9 f9 n11 f11 n13 f13 n15 f15)=0):(dX n0 f0 n2 f2 x4 n5 f5 n7 f7 n9 f9 n11 f11 n13 g n15 f15)=0:=by
 have G:=vv hc
 have hc':(UR n0 f0 n2 f2 x4 n5 f5 n7 f7 n9 f9 n11 f11 n13 f13 n15 f15).2.2=0:=hc
 show (UR n0 f0 n2 f2 x4 n5 f5 n7 f7 n9 f9 n11 f11 n13 g n15 f15).2.2=0
 unfold UR at hc' ⊢
 obtain ⟨h1,hc'⟩:=KG hc'
 obtain ⟨h2,hc'⟩:=KG hc'
 obtain ⟨h3,hc'⟩:=KG hc'
 rw [h1,h2,h3]
 cases hl:FO n11 n13 n15 with
 |true=>rw[hl]at hc';cases hc'
 | false =>
   show (BF n11 (rO f0 n2 f2 g f15) 4 (0,0,0)).2.2=0
   rw [HC 4 (0,0,0) fun k hk=>by rw[afc h (by have:=G.ll;omega) (G.co k hk)];rfl]
section
variable {n0:Nat} {f0:aL} {n2:Nat} {f2:aL} {x4:Int} {n5:Nat} {f5:aL} {n7:Nat} {f7:aL} {n9:Nat} {f9:aL} {n11:Nat} {f11:aL} {n13:Nat} {f13:aL} {n15:Nat} {f15:aL} {x17 x18 x19 x20 x21 x22 x23 x24 x25 x26 x27 x28:Int} {i:Nat} (hz:Ed n0 f0 n2 f2 x4 n5 f5 n7 f7 n9 f9 n11 f11 n13 (aa ac f13) n15 f15 x17 x18 x19 x20 x21 x22 x23 x24 x25 x26 x27 x28=0) (hi:i<n13)
include hz
theorem m8:(eX (dX n0 f0 n2 f2 x4 n5 f5 n7 f7 n9 f9 n11 f11 n13 (aa ac f13) n15 f15) x17 x18 x19 x20)=0/\(dX n0 f0 n2 f2 x4 n5 f5 n7 f7 n9 f9 n11 f11 n13 (aa ac f13) n15 f15)=0/\(va (dX n0 f0 n2 f2 x4 n5 f5 n7 f7 n9 f9 n11 f11 n13 (aa ac f13) n15 f15) x23 x24 x25 x26)=0:=by
 unfold Ed at hz
 cases h:(eX (dX n0 f0 n2 f2 x4 n5 f5 n7 f7 n9 f9 n11 f11 n13 (aa ac f13) n15 f15) x17 x18 x19 x20)!=0 with
 |true=>rw[h]at hz;have hz:(eX (dX n0 f0 n2 f2 x4 n5 f5 n7 f7 n9 f9 n11 f11 n13 (aa ac f13) n15 f15) x17 x18 x19 x20)=0:=hz;rw[hz]at h;cases h
 | false =>
   rw [h]at hz
   have h0:=gM h
   exact ⟨h0,(adh h0).1,hz⟩
theorem nA:(dX n0 f0 n2 f2 x4 n5 f5 n7 f7 n9 f9 n11 f11 n13 (aa ac (fT (aa ac f13) (i:Int))) n15 f15)=0:=anu (nl f13 i n13) (m8 hz).2.1
theorem aif:Ed n0 f0 n2 f2 x4 n5 f5 n7 f7 n9 f9 n11 f11 n13 (aa ac (fT (aa ac f13) (i:Int))) n15 f15 x17 x18 x19 x20 x21 x22 x23 x24 x25 x26 x27 x28=0:=by
 have k:=m8 hz
 have c:=nA (i:=i) hz
 unfold Ed
 rw [c]
 rw [k.2.1]at k
 rw [k.1]
 exact k.2.2
theorem Vy (hi:i<n13):r6 n0 f0 n2 f2 x4 n5 f5 n7 f7 n9 f9 n11 f11 n13 (aa ac (fT (aa ac f13) (i:Int))) n15 f15 x17 x18 x19 x20 x21 x22 x23 x24 x25 x26 x27 x28=iA (eX (dX n0 f0 n2 f2 x4 n5 f5 n7 f7 n9 f9 n11 f11 n13 (aa ac f13) n15 f15) x17 x18 x19 x20) (km (jy (aa ac f13) i) (nT n0 f0 n2 f2 n5 f5 n7 f7 n9 f9 n11 f11 (aa ac f13) f15 (i:Int) (aW (f11 i)) (b7 (f11 i)) (bV (f11 i)) (dA (f11 i)) (bE (f11 i)) x17 x18 x19 x20)):=by
 unfold r6
 rw [nA hz,K1 (nl f13 i n13) hi,(m8 hz).2.1]
theorem Un:eW (fun i=>r6 n0 f0 n2 f2 x4 n5 f5 n7 f7 n9 f9 n11 f11 n13 (aa ac (fT (aa ac f13) (i:Int))) n15 f15 x17 x18 x19 x20 x21 x22 x23 x24 x25 x26 x27 x28) n13=r6 n0 f0 n2 f2 x4 n5 f5 n7 f7 n9 f9 n11 f11 n13 (aa ac f13) n15 f15 x17 x18 x19 x20 x21 x22 x23 x24 x25 x26 x27 x28:=kY fun i hi=>Vy hz hi
theorem aah (hi:i<n13):r5 n0 f0 n2 f2 x4 n5 f5 n7 f7 n9 f9 n11 f11 n13 (aa ac (fT (aa ac f13) (i:Int))) n15 f15 x17 x18 x19 x20 x21 x22 x23 x24 x25 x26 x27 x28=iA (eX (dX n0 f0 n2 f2 x4 n5 f5 n7 f7 n9 f9 n11 f11 n13 (aa ac f13) n15 f15) x17 x18 x19 x20) (km (jy (aa ac f13) i) (nP n0 f0 n2 f2 n5 f5 n7 f7 n9 f9 n11 f11 (aa ac f13) f15 (i:Int) (aW (f11 i)) (b7 (f11 i)) (bV (f11 i)) (dA (f11 i)) (bE (f11 i)) x17 x18 x19 x20)):=by
 unfold r5
 rw [nA hz,LY (nl f13 i n13) hi,(m8 hz).2.1]
theorem N4:eW (fun i=>r5 n0 f0 n2 f2 x4 n5 f5 n7 f7 n9 f9 n11 f11 n13 (aa ac (fT (aa ac f13) (i:Int))) n15 f15 x17 x18 x19 x20 x21 x22 x23 x24 x25 x26 x27 x28) n13=r5 n0 f0 n2 f2 x4 n5 f5 n7 f7 n9 f9 n11 f11 n13 (aa ac f13) n15 f15 x17 x18 x19 x20 x21 x22 x23 x24 x25 x26 x27 x28:=kY fun i hi=>aah hz hi
theorem Zy (hi:i<n13):sG n0 f0 n2 f2 x4 n5 f5 n7 f7 n9 f9 n11 f11 n13 (aa ac (fT (aa ac f13) (i:Int))) n15 f15 x17 x18 x19 x20 x21 x22 x23 x24 x25 x26 x27 x28=iA (BG (eX (dX n0 f0 n2 f2 x4 n5 f5 n7 f7 n9 f9 n11 f11 n13 (aa ac f13) n15 f15) x17 x18 x19 x20) x21 x22 x4) (km (jy (aa ac f13) i) (nG n0 f0 n2 f2 x4 n5 f5 n7 f7 n9 f9 n11 f11 (aa ac f13) f15 (i:Int) (aW (f11 i)) (b7 (f11 i)) (bV (f11 i)) (dA (f11 i)) (bE (f11 i)) x17 x18 x19 x20 x21 x22)):=by
 unfold sG
 rw [nA hz,La (nl f13 i n13) hi,(m8 hz).2.1]
theorem RS:eW (fun i=>sG n0 f0 n2 f2 x4 n5 f5 n7 f7 n9 f9 n11 f11 n13 (aa ac (fT (aa ac f13) (i:Int))) n15 f15 x17 x18 x19 x20 x21 x22 x23 x24 x25 x26 x27 x28) n13=sG n0 f0 n2 f2 x4 n5 f5 n7 f7 n9 f9 n11 f11 n13 (aa ac f13) n15 f15 x17 x18 x19 x20 x21 x22 x23 x24 x25 x26 x27 x28:=kY fun i hi=>Zy hz hi
theorem Y0 (hi:i<n13):sh n0 f0 n2 f2 x4 n5 f5 n7 f7 n9 f9 n11 f11 n13 (aa ac (fT (aa ac f13) (i:Int))) n15 f15 x17 x18 x19 x20 x21 x22 x23 x24 x25 x26 x27 x28=iA (BG (eX (dX n0 f0 n2 f2 x4 n5 f5 n7 f7 n9 f9 n11 f11 n13 (aa ac f13) n15 f15) x17 x18 x19 x20) x21 x22 x4) (km (jy (aa ac f13) i) (nO n0 f0 n2 f2 x4 n5 f5 n7 f7 n9 f9 n11 f11 (aa ac f13) f15 (i:Int) (aW (f11 i)) (b7 (f11 i)) (bV (f11 i)) (dA (f11 i)) (bE (f11 i)) x17 x18 x19 x20 x21 x22)):=by
 unfold sh
 rw [nA hz,Li (nl f13 i n13) hi,(m8 hz).2.1]
theorem Sy:eW (fun i=>sh n0 f0 n2 f2 x4 n5 f5 n7 f7 n9 f9 n11 f11 n13 (aa ac (fT (aa ac f13) (i:Int))) n15 f15 x17 x18 x19 x20 x21 x22 x23 x24 x25 x26 x27 x28) n13=sh n0 f0 n2 f2 x4 n5 f5 n7 f7 n9 f9 n11 f11 n13 (aa ac f13) n15 f15 x17 x18 x19 x20 x21 x22 x23 x24 x25 x26 x27 x28:=kY fun i hi=>Y0 hz hi
theorem VJ (hi:i<n13):r7 n0 f0 n2 f2 x4 n5 f5 n7 f7 n9 f9 n11 f11 n13 (aa ac (fT (aa ac f13) (i:Int))) n15 f15 x17 x18 x19 x20 x21 x22 x23 x24 x25 x26 x27 x28=iA (va (dX n0 f0 n2 f2 x4 n5 f5 n7 f7 n9 f9 n11 f11 n13 (aa ac f13) n15 f15) x23 x24 x25 x26) (km (jy (aa ac f13) i) (sk n0 f0 n2 f2 (aa ac f13) f15 (i:Int) (aW (f11 i)) (b7 (f11 i)) (bV (f11 i)) (dA (f11 i)) (bE (f11 i)) x23 x24 x25 x26)):=by
 unfold r7
 rw [nA hz,KZ (nl f13 i n13) hi,(m8 hz).2.1]
theorem Tb:eW (fun i=>r7 n0 f0 n2 f2 x4 n5 f5 n7 f7 n9 f9 n11 f11 n13 (aa ac (fT (aa ac f13) (i:Int))) n15 f15 x17 x18 x19 x20 x21 x22 x23 x24 x25 x26 x27 x28) n13=r7 n0 f0 n2 f2 x4 n5 f5 n7 f7 n9 f9 n11 f11 n13 (aa ac f13) n15 f15 x17 x18 x19 x20 x21 x22 x23 x24 x25 x26 x27 x28:=kY fun i hi=>VJ hz hi
theorem Ve (hi:i<n13):sK n0 f0 n2 f2 x4 n5 f5 n7 f7 n9 f9 n11 f11 n13 (aa ac (fT (aa ac f13) (i:Int))) n15 f15 x17 x18 x19 x20 x21 x22 x23 x24 x25 x26 x27 x28=iA (va (dX n0 f0 n2 f2 x4 n5 f5 n7 f7 n9 f9 n11 f11 n13 (aa ac f13) n15 f15) x23 x24 x25 x26) (km (jy (aa ac f13) i) (sW n0 f0 n2 f2 (aa ac f13) f15 (i:Int) (aW (f11 i)) (b7 (f11 i)) (bV (f11 i)) (dA (f11 i)) (bE (f11 i)) x23 x24 x25 x26)):=by
 unfold sK
 rw [nA hz,K8 (nl f13 i n13) hi,(m8 hz).2.1]
theorem Pt:eW (fun i=>sK n0 f0 n2 f2 x4 n5 f5 n7 f7 n9 f9 n11 f11 n13 (aa ac (fT (aa ac f13) (i:Int))) n15 f15 x17 x18 x19 x20 x21 x22 x23 x24 x25 x26 x27 x28) n13=sK n0 f0 n2 f2 x4 n5 f5 n7 f7 n9 f9 n11 f11 n13 (aa ac f13) n15 f15 x17 x18 x19 x20 x21 x22 x23 x24 x25 x26 x27 x28:=kY fun i hi=>Ve hz hi
theorem Wq (hi:i<n13):sA n0 f0 n2 f2 x4 n5 f5 n7 f7 n9 f9 n11 f11 n13 (aa ac (fT (aa ac f13) (i:Int))) n15 f15 x17 x18 x19 x20 x21 x22 x23 x24 x25 x26 x27 x28=iA (dX n0 f0 n2 f2 x4 n5 f5 n7 f7 n9 f9 n11 f11 n13 (aa ac f13) n15 f15) (km (jy (aa ac f13) i) (uc n0 f0 n2 f2 (aw ((aa ac f13) i)) (b7 (f15 i)))):=by
 unfold sA
 rw [nA hz,LI (nl f13 i n13) hi,(m8 hz).2.1]
theorem yaY:eW (fun i=>sA n0 f0 n2 f2 x4 n5 f5 n7 f7 n9 f9 n11 f11 n13 (aa ac (fT (aa ac f13) (i:Int))) n15 f15 x17 x18 x19 x20 x21 x22 x23 x24 x25 x26 x27 x28) n13=sA n0 f0 n2 f2 x4 n5 f5 n7 f7 n9 f9 n11 f11 n13 (aa ac f13) n15 f15 x17 x18 x19 x20 x21 x22 x23 x24 x25 x26 x27 x28:=kY fun i hi=>Wq hz hi
theorem V7 (hi:i<n13):sR n0 f0 n2 f2 x4 n5 f5 n7 f7 n9 f9 n11 f11 n13 (aa ac (fT (aa ac f13) (i:Int))) n15 f15 x17 x18 x19 x20 x21 x22 x23 x24 x25 x26 x27 x28=iA (dX n0 f0 n2 f2 x4 n5 f5 n7 f7 n9 f9 n11 f11 n13 (aa ac f13) n15 f15) (km (jy (aa ac f13) i) (uf n0 f0 n2 f2 (aw ((aa ac f13) i)) (b7 (f15 i)))):=by
 unfold sR
 rw [nA hz,Lo (nl f13 i n13) hi,(m8 hz).2.1]
theorem SX:eW (fun i=>sR n0 f0 n2 f2 x4 n5 f5 n7 f7 n9 f9 n11 f11 n13 (aa ac (fT (aa ac f13) (i:Int))) n15 f15 x17 x18 x19 x20 x21 x22 x23 x24 x25 x26 x27 x28) n13=sR n0 f0 n2 f2 x4 n5 f5 n7 f7 n9 f9 n11 f11 n13 (aa ac f13) n15 f15 x17 x18 x19 x20 x21 x22 x23 x24 x25 x26 x27 x28:=kY fun i hi=>V7 hz hi
theorem Wo (hi:i<n13):rV n0 f0 n2 f2 x4 n5 f5 n7 f7 n9 f9 n11 f11 n13 (aa ac (fT (aa ac f13) (i:Int))) n15 f15 x17 x18 x19 x20 x21 x22 x23 x24 x25 x26 x27 x28=iA (UQ (dX n0 f0 n2 f2 x4 n5 f5 n7 f7 n9 f9 n11 f11 n13 (aa ac f13) n15 f15) n5 f5 n7 f7 n9 f9 n11 f11 x27 x28) (km (KN (aa ac f13) n5 f5 n7 f7 n9 f9 n11 f11 x27 i) (wnS n0 f0 n2 f2 (aa ac f13) f15 (i:Int) (aW (f11 i)) (b7 (f11 i)) (bV (f11 i)) (dA (f11 i)) (bE (f11 i)) (tW n5 f5 n7 f7 n9 f9 n11 f11 x27 x28) (to n5 f5 n7 f7 n9 f9 n11 f11 x27 x28) (te n5 f5 n7 f7 n9 f9 n11 f11 x27 x28) (tQ n5 f5 n7 f7 n9 f9 n11 f11 x27 x28) (yL n5 f5 n7 f7 n9 f9 n11 f11 x27 x28) (yX n5 f5 n7 f7 n9 f9 n11 f11 x27 x28))):=by
 unfold rV
 rw [nA hz,YX (nl f13 i n13) hi,(m8 hz).2.1]
theorem MN:eW (fun i=>rV n0 f0 n2 f2 x4 n5 f5 n7 f7 n9 f9 n11 f11 n13 (aa ac (fT (aa ac f13) (i:Int))) n15 f15 x17 x18 x19 x20 x21 x22 x23 x24 x25 x26 x27 x28) n13=rV n0 f0 n2 f2 x4 n5 f5 n7 f7 n9 f9 n11 f11 n13 (aa ac f13) n15 f15 x17 x18 x19 x20 x21 x22 x23 x24 x25 x26 x27 x28:=kY fun i hi=>Wo hz hi
theorem W5 (hi:i<n13):sJ n0 f0 n2 f2 x4 n5 f5 n7 f7 n9 f9 n11 f11 n13 (aa ac (fT (aa ac f13) (i:Int))) n15 f15 x17 x18 x19 x20 x21 x22 x23 x24 x25 x26 x27 x28=iA (dX n0 f0 n2 f2 x4 n5 f5 n7 f7 n9 f9 n11 f11 n13 (aa ac f13) n15 f15) (km (jy (aa ac f13) i) (Ko n0 f0 n2 f2 (aa ac f13) f15 (i:Int) (bE (f0 (aW (f2 (aw ((aa ac f13) i)).toNat)).toNat)))):=by
 unfold sJ
 rw [nA hz,WJ (nl f13 i n13) hi,(m8 hz).2.1]
theorem OK:eW (fun i=>sJ n0 f0 n2 f2 x4 n5 f5 n7 f7 n9 f9 n11 f11 n13 (aa ac (fT (aa ac f13) (i:Int))) n15 f15 x17 x18 x19 x20 x21 x22 x23 x24 x25 x26 x27 x28) n13=sJ n0 f0 n2 f2 x4 n5 f5 n7 f7 n9 f9 n11 f11 n13 (aa ac f13) n15 f15 x17 x18 x19 x20 x21 x22 x23 x24 x25 x26 x27 x28:=kY fun i hi=>W5 hz hi
end
def apZ (ts:List Ty) (raw:List V) (r:V):av:=bL ts (fun ds=>ds=j9 ts (al ts raw)) fun _=>r
theorem Z9 {P:Program} {eqs:List TypeId} {its:List gH} {ct:aZ} {f:FuncId} {fn:Func} {sf:aK} {un:kk} {ts:List Ty} {raw:List V} {r:V} (hT:aO P eqs its ct) (hE:∀ t∈eqs,cU P t) (hI:kG P eqs its) (hf:P.funcs[f]? = some fn)
 (hn : (fn.name == "runtime.NumGoroutine") = false) (hc : dW P eqs its fn = some sf) (hd : fj sf.ntmps sf.body = true) (ho : fF ts = true)
 (h:p9 r (aV JJ ct un sf (j9 ts (al ts raw)))=aV JJ ct un sf (j9 ts (al ts raw))):(vP (fD [(al ts raw,r)])).Ok P f :=
 Av (C:=apZ ts raw r) (FH (J:=JJ) (un:=un) hT hE hI hf hn hc hd ho fun w0 ds hp=>by rw[hp];exact xI h) _ (Wr (at1 rfl rfl) VW)
theorem yq {ts:List Ty} {pre:List V->Prop} {preB:List V->Bool} {r:List V->V} (h:∀ ds,preB ds=true->pre ds) {ds:List V} {d p r'} (hc:qx ts preB r ds=some (d,p,r')):∃ q,bL ts pre r ds=some (d,q,r')/\q:=by
 unfold qx at hc
 cases hb:preB (j9 ts ds) with
 |false=>rw[hb]at hc;cases hc
 | true =>
   rw [hb]at hc
   simp only [cond_true,aaB,Prod.mk.injEq]at hc
   obtain ⟨rfl,rfl,rfl⟩:=hc
   exact ⟨_,rfl,h _ hb⟩
theorem S2 {P:Program} {f:FuncId} {ts:List Ty} {pre:List V->Prop} {preB:List V->Bool} {r:List V->V} (h:∀ ds,preB ds=true->pre ds) (hO:(vZ (bL ts pre r)).Ok P f):(vZ (qx ts preB r)).Ok P f:=by
 refine ⟨fun B m lh w args vs K hrel hargs ⟨ds,d,p,r',X,h1,hX,h2,h3,h5,h6⟩=>?_,fun _ _ _ _ _ hk ⟨ds,d,p,r,X,h1,h2,h3,h4,h5,h6⟩=>⟨ds,d,p,r,X,h1,h2,h3,h4,h5,fun x new hx=>hk _ _ (h6 x new hx)⟩,fun _ _ _ _ ⟨_,_,_,_,_,_,_,_,_,⟨x,new,hx⟩,h6⟩=>h6 x new hx⟩
 obtain ⟨q,e,hq⟩:=yq h h2
 exact hO.sound B m lh w args vs K hrel hargs ⟨ds,d,q,r',X,h1,hX,e,⟨h3.1,hq⟩,h5,h6⟩
def Gx:List V->Bool
 |[.agg [.str _,.sl n1 _,.sl n3 _,.sl _ _,.int _ _,.int _ _],.int _ _]=>Nat.ble n1 1000&&Nat.ble n3 1000
 |_=>false
theorem yj (ds:List V) (h:Gx ds=true):aay ds:=by
 unfold Gx at h
 split at h
 ·simp only[aaw]at h
  exact ⟨aaF h.1,aaF h.2⟩
 ·cases h
def Gf:av:=qx AE Gx QK
theorem WB:(vZ Gf).Ok Tryz.prog 71:=S2 yj Gd
theorem Qf:∀ ds d p r,Gf ds=some (d,p,r)->d.1=d.2->p->∀ w0 lh args,bg w0 lh Nu.nil ds args->∃ x new,vr w0 (lh++new) Nu.nil r x:=fun ds d p r h h1 _=>by
 obtain ⟨q,e,hq⟩:=yq yj h
 exact Bn ds d q r e h1 hq
def d4 (A B:av):av:=orC (fun ds=>(A ds).isSome) A B
theorem bk {P:Program} {f:FuncId} {A B:av} (hA:(vP A).Ok P f) (hB:(vP B).Ok P f):(vP (d4 A B)).Ok P f:=Gv _ _ _ hA hB
theorem cP {ct:aZ} {f:FuncId} {fn:Func} {sf:aK} {ts:List Ty} {raw:List V} {r:V} (hT:aO Tryz.prog eqs its ct) (hf:Tryz.prog.funcs[f]? = some fn) (hk:fnQ fn sf ts=(false,some sf,true,true)) (h:p9 r (aV JJ ct uB sf (j9 ts (al ts raw)))=aV JJ ct uB sf (j9 ts (al ts raw))):(vP (fD [(al ts raw,r)])).Ok Tryz.prog f:=Z9 hT hE hI hf (yad hk).1 (yad hk).2.1 (yad hk).2.2.1 (yad hk).2.2.2 h
def aga:aZ:=[]
theorem apj:aO Tryz.prog eqs its aga:=.nil
def aj9:V:=.sl 2 fun|0=>[vi 0]|_=>[vi 100]
def alW:V:=.sl 2 fun|0=>[vi 100]|_=>[vi 300]
def akI:V:=.sl 2 fun|0=>[vi 200]|_=>[vi 600]
def abB:V:=.sl 2 fun|0=>[vi 700]|_=>[vi 700]
def PR:V:=.str ⟨#[97,115,112,104,97,108,116]⟩
def TF:V:=.sl 2 fun|0=>[vi (-1000)]|_=>[vi 1000]
def y8:V:=.sl 2 fun|0=>[vi (-5000)]|_=>[vi 5000]
def IY:V:=.sl 2 fun|0=>[vi (-8000000)]|_=>[vi 8000000]
def aoS:V:=.sl 1 fun _=>[vi 0,vi 0,vi 1000]
def BR:V:=.sl 2 fun|0=>[vi (-40000000)]|_=>[vi 40000000]
def F7:V:=.sl 3 fun|0=>[vi (-1000)]|1=>[vi 0]|_=>[vi 2000]
def xy:V:=.sl 3 fun|0=>[vi (-8000000)]|1=>[vi 0]|_=>[vi 16000000]
def Ad:V:=.agg [vi (-4000),vi (-4000),vi 0,vi 0]
def zX:V:=.agg [vi (-4000),vi 0,vi (-4000),vi 0]
def zF:V:=.agg [vi (-4000),vi 4000,vi 0,vi 8000]
def AZ:V:=.agg [vi (-4000),vi 0,vi 4000,vi 8000]
def yaG:V:=.agg [.str ⟨#[99]⟩,vi 0,vi 0,vi 80,vi 0,vi 1]
def TB:V:=.sl 1 fun _=>[.str ⟨#[99]⟩,vi 0,vi 0,vi 80,vi 0,vi 1]
def EJ:V:=.sl 2 fun|0=>[abB]|_=>[abB]
def ahb:V:=.sl 3 fun|0=>[vi 0,vi 0]|1=>[vi 10000,vi 0]|_=>[vi 10000,vi 10000]
def F3:V:=.sl 3 fun|0=>[alW]|1=>[akI]|_=>[aj9]
def SG:V:=.sl 1 fun _=>[.str ⟨#[104,105,103,104]⟩,vi 0,ahb,vi 4000]
def uX:V:=.sl 1 fun _=>[.str ⟨#[104,101,97,100]⟩,vi 0,vi 1,vi 8000,vi 60000,vi 500,vi 50,vi 2,vi 4,vi 3,vi 5,vi 100000,vi 200,vi 0]
def FM:V:=.agg [SG,.sl 0 fun _=>[],.sl 0 fun _=>[],TB]
def N8:V:=.pd [PR,y8,y8,EJ,vi 0,vi 0,BR,BR,vi 8000]
def Tp:V:=.agg [PR,y8,y8,EJ,vi 0,vi 0,BR,BR,vi 8000]
def sj:V:=.pd [.str ⟨#[119,105,100,101]⟩,F7,TF,F3,vi 50,vi 5,xy,IY,vi 8000]
def mK:V:=.agg [.str ⟨#[119,105,100,101]⟩,F7,TF,F3,vi 50,vi 5,xy,IY,vi 8000]
def vO:V:=.sl 2 fun|0=>[.str ⟨#[119,105,100,101]⟩,F7,TF,F3,vi 50,vi 5]|_=>[PR,y8,y8,EJ,vi 0,vi 0]
def qh:V:=.agg [vO,uX,vi 1,SG,.sl 0 fun _=>[],.sl 0 fun _=>[],TB,.sl 1 fun _=>[vi 0],aoS,vi 0,.str ⟨#[99]⟩,vi 0,vi 0,vi 80,vi 0,vi 1]
def aj6:List Ty:=[.agg ah,.agg aU]
def alk:List Ty:=[.agg [.sl af,.sl ah,tI,.sl aB,.sl ac,.sl ac,.sl aA,.sl ac,.sl aU,tI,.str,tI,tI,tI,tI,tI]]
def Tu:List Ty:=[.agg aJ,tI,tI,tI,tI]
def lK:List Ty:=[.agg aJ,.sl aJ]
def yE:List Ty:=[.sl ac,tI]
def tz:List Ty:=[tI,.pd [.str,.sl ac,.sl ac,.sl [.sl ac],tI,tI,.sl ac,.sl ac,tI],.pd ac,.pd ac]
def Qk:List Ty:=[.agg [.sl aB,.sl ac,.sl ac,.sl aA],tI,.agg gP]
def M0:List Ty:=[.agg aA,.agg gP]
def TM:List Ty:=[.agg [.sl af,.sl ah,tI,.sl aB,.sl ac,.sl ac,.sl aA,.sl ac,.sl aU,tI,.str,tI,tI,tI,tI,tI],.agg gP,tI,tI]
def wY:List Ty:=[.agg [.str,.sl ac,.sl ac,.sl [.sl ac],tI,tI,.sl ac,.sl ac,tI],tI,tI]
def A8:List Ty:=[.agg [.str,.sl ac,.sl ac,.sl [.sl ac],tI,tI,.sl ac,.sl ac,tI],.agg gP]
def agW:List Ty:=[.agg [.sl af,.sl ah],tI,.agg gP,tI]
def Gi:List Ty:=[.agg [.sl af,.sl ah],tI,.agg aU,.agg gP,tI]
def Eh:List Ty:=[.agg [.sl af,.sl ah,tI,.sl aB,.sl ac,.sl ac,.sl aA,.sl ac,.sl aU,tI,.str,tI,tI,tI,tI,tI],.agg gP,tI]
def ctK:aZ:=[(34,.con Nm),(66,.con Rv),(67,.con ant),(78,.con Zr),(52,.con HA),(142,.con GM),(111,.con Jw),(53,.con OO),(54,.con Uv),(38,.con Rh),(40,.con NU),(75,.con QV),(74,.con QU),(141,.con Oq),(71,.conZ Gf Qf),(55,.inl amU uB),(123,.inl ani uB),(98,.inl anI uB),(46,.inl Z1 uB),(147,.inl acr uB),(188,.inl ybe uB),(77,.inl yaJ uB),(7,.inl Uc uB),(8,.inl ybf uB),(14,.inl UE uB),(15,.inl P6 uB),(16,.inl vC uB),(17,.inl Nv uB),(18,.inl T8 uB),(13,.inl agL uB),(19,.inl RX uB),(20,.inl Og uB),(21,.inl Qx uB),(43,.inl Pi uB),(22,.inl Mr uB),(28,.inl xD uB),(51,.inl Sk uB),(81,.inl QY uB),(70,.inl ML uB),(37,.inl Pf uB),(39,.inl Qa uB),(41,.inl Mq uB),(33,.inl aiB uB),(47,.inl Qb uB),(48,.inl Rt uB),(49,.inl My uB),(50,.inl SS uB),(60,.inl SH uB),(105,.inl Sm uB),(109,.inl PC uB),(110,.inl NC uB),(69,.inl Td uB),(73,.inl Fz uB),(76,.inl ME uB),(138,.inl Mx uB),(161,.inl PY uB),(172,.inl ON uB),(173,.inl PF uB)]
theorem amY:aO Tryz.prog eqs its ctK:=.con Vv (.con aac (.con aod (.con yaw (.con GB (.con Fh (.con F2 (.con aag (.con Wc (.con X7 (.con Xw (.con W8 (.con YC (.con Wu (.conZ WB (eT Tryz.func55 bb (eT Tryz.func123 bb (eT Tryz.func98 bb (eT Tryz.func46 bb (eT Tryz.func147 bb (eT Tryz.func188 bb (eT Tryz.func77 bb (eT Tryz.func7 bb (eT Tryz.func8 bb (eT Tryz.func14 bb (eT Tryz.func15 bb (eT Tryz.func16 bb (eT Tryz.func17 bb (eT Tryz.func18 bb (eT Tryz.func13 bb (eT Tryz.func19 bb (eT Tryz.func20 bb (eT Tryz.func21 bb (eT Tryz.func43 bb (eT Tryz.func22 bb (eT Tryz.func28 bb (eT Tryz.func51 bb (eT Tryz.func81 bb (eT Tryz.func70 bb (eT Tryz.func37 bb (eT Tryz.func39 bb (eT Tryz.func41 bb (eT Tryz.func33 bb (eT Tryz.func47 bb (eT Tryz.func48 bb (eT Tryz.func49 bb (eT Tryz.func50 bb (eT Tryz.func60 bb (eT Tryz.func105 bb (eT Tryz.func109 bb (eT Tryz.func110 bb (eT Tryz.func69 bb (eT Tryz.func73 bb (eT Tryz.func76 bb (eT Tryz.func138 bb (eT Tryz.func161 bb (eT Tryz.func172 bb (eT Tryz.func173 bb (.nil))))))))))))))))))))))))))))))))))))))))))))))))))))))))))
def abl:av:=fD [(al aj6 [.agg [.str ⟨#[104,101,97,100]⟩,vi 0,vi 1,vi 8000,vi 60000,vi 500,vi 50,vi 2,vi 4,vi 3,vi 5,vi 100000,vi 200,vi 0],.agg [vi 0,vi 0,vi 1000]],.agg [vi 8000,vi 8000])]
theorem alf:(vP abl).Ok Tryz.prog 82:=cP (sf:=TG) amY Tryz.func82 bb bb
def Kg:aZ:=(82,.con abl)::ctK
theorem Dr:aO Tryz.prog eqs its Kg:=.con alf amY
def acI:av:=fD [(al alk [qh],vi 8000)]
theorem alj:(vP acI).Ok Tryz.prog 35:=cP (sf:=Q7) Dr Tryz.func35 bb bb
def Jg:aZ:=(35,.con acI)::Kg
theorem qY:aO Tryz.prog eqs its Jg:=.con alj Dr
def G9:av:=fD [(al Tu [.agg [vi 0,vi 1],vi (-4000),vi 4000,vi 0,vi 8000],zF)]
theorem Yf:(vP G9).Ok Tryz.prog 45:=cP (sf:=Bt) qY Tryz.func45 bb bb
def JO:av:=fD [(al Tu [.agg [vi 0,vi 1],vi 0,vi 0,vi 0,vi 0],.agg [vi 0,vi 0,vi 0,vi 0])]
theorem ZX:(vP JO).Ok Tryz.prog 45:=cP (sf:=Bt) qY Tryz.func45 bb bb
def Jb:av:=fD [(al Tu [.agg [vi 0,vi 1],vi (-4000),vi (-4000),vi 0,vi 0],Ad)]
theorem Y5:(vP Jb).Ok Tryz.prog 45:=cP (sf:=Bt) qY Tryz.func45 bb bb
def ado:av:=d4 G9 (d4 JO (Jb))
theorem aoo:(vP ado).Ok Tryz.prog 45:=bk Yf (bk ZX (Y5))
def Jm:aZ:=(45,.con ado)::Jg
theorem d8:aO Tryz.prog eqs its Jm:=.con aoo qY
def Iq:av:=fD [(al lK [.agg [vi 300,vi 300],.sl 3 fun|0=>[vi 450,vi 450]|1=>[vi 312,vi 313]|_=>[vi 475,vi 475]],.agg [vi 300,vi 475])]
theorem Wx:(vP Iq).Ok Tryz.prog 107:=cP (sf:=gG) d8 Tryz.func107 bb bb
def JA:av:=fD [(al lK [.agg [vi 300,vi 475],.sl 1 fun _=>[vi 300,vi 300]],.agg [vi 300,vi 475])]
theorem Wm:(vP JA).Ok Tryz.prog 107:=cP (sf:=gG) d8 Tryz.func107 bb bb
def If:av:=fD [(al lK [.agg [vi 300,vi 475],.sl 1 fun _=>[vi 450,vi 450]],.agg [vi 300,vi 475])]
theorem Wn:(vP If).Ok Tryz.prog 107:=cP (sf:=gG) d8 Tryz.func107 bb bb
def HL:av:=fD [(al lK [.agg [vi 300,vi 475],.sl 1 fun _=>[vi 312,vi 313]],.agg [vi 300,vi 475])]
theorem Vw:(vP HL).Ok Tryz.prog 107:=cP (sf:=gG) d8 Tryz.func107 bb bb
def It:av:=fD [(al lK [.agg [vi 300,vi 475],.sl 1 fun _=>[vi 475,vi 475]],.agg [vi 300,vi 475])]
theorem Yh:(vP It).Ok Tryz.prog 107:=cP (sf:=gG) d8 Tryz.func107 bb bb
def IH:av:=fD [(al lK [.agg [vi 300,vi 475],.sl 1 fun _=>[vi 400,vi 400]],.agg [vi 300,vi 475])]
theorem Yy:(vP IH).Ok Tryz.prog 107:=cP (sf:=gG) d8 Tryz.func107 bb bb
def Kf:av:=fD [(al lK [.agg [vi 300,vi 475],.sl 1 fun _=>[vi 600,vi 600]],.agg [vi 300,vi 600])]
theorem ZS:(vP Kf).Ok Tryz.prog 107:=cP (sf:=gG) d8 Tryz.func107 bb bb
def Js:av:=fD [(al lK [.agg [vi 400,vi 400],.sl 3 fun|0=>[vi 400,vi 400]|1=>[vi 400,vi 400]|_=>[vi 400,vi 400]],.agg [vi 400,vi 400])]
theorem WA:(vP Js).Ok Tryz.prog 107:=cP (sf:=gG) d8 Tryz.func107 bb bb
def H4:av:=fD [(al lK [.agg [vi 400,vi 400],.sl 1 fun _=>[vi 400,vi 400]],.agg [vi 400,vi 400])]
theorem Y4:(vP H4).Ok Tryz.prog 107:=cP (sf:=gG) d8 Tryz.func107 bb bb
def G4:av:=fD [(al lK [.agg [vi 700,vi 700],.sl 3 fun|0=>[vi 700,vi 700]|1=>[vi 700,vi 700]|_=>[vi 700,vi 700]],.agg [vi 700,vi 700])]
theorem WK:(vP G4).Ok Tryz.prog 107:=cP (sf:=gG) d8 Tryz.func107 bb bb
def yax:av:=fD [(al lK [.agg [vi 700,vi 700],.sl 1 fun _=>[vi 700,vi 700]],.agg [vi 700,vi 700])]
theorem S3:(vP yax).Ok Tryz.prog 107:=cP (sf:=gG) d8 Tryz.func107 bb bb
def CO:av:=fD [(al lK [.agg [vi 300,vi 300],.sl 3 fun|0=>[vi 300,vi 300]|1=>[vi 300,vi 300]|_=>[vi 300,vi 300]],.agg [vi 300,vi 300])]
theorem Rb:(vP CO).Ok Tryz.prog 107:=cP (sf:=gG) d8 Tryz.func107 bb bb
def CE:av:=fD [(al lK [.agg [vi 300,vi 300],.sl 1 fun _=>[vi 300,vi 300]],.agg [vi 300,vi 300])]
theorem NJ:(vP CE).Ok Tryz.prog 107:=cP (sf:=gG) d8 Tryz.func107 bb bb
def aaL:av:=d4 Iq (d4 JA (d4 If (d4 HL (d4 It (d4 IH (d4 Kf (d4 Js (d4 H4 (d4 G4 (d4 yax (d4 CO (CE))))))))))))
theorem amc:(vP aaL).Ok Tryz.prog 107:=bk Wx (bk Wm (bk Wn (bk Vw (bk Yh (bk Yy (bk ZS (bk WA (bk Y4 (bk WK (bk S3 (bk Rb (NJ))))))))))))
def Ht:aZ:=(107,.con aaL)::Jm
theorem jZ:aO Tryz.prog eqs its Ht:=.con amc d8
def JC:av:=fD [(al yE [xy,vi (-4000000)],vi 0)]
theorem Yx:(vP JC).Ok Tryz.prog 139:=cP (sf:=ql) jZ Tryz.func139 bb bb
def Hw:av:=fD [(al yE [IY,vi 0],vi 0)]
theorem WI:(vP Hw).Ok Tryz.prog 139:=cP (sf:=ql) jZ Tryz.func139 bb bb
def Jo:av:=fD [(al yE [IY,vi 8000000],vi 0)]
theorem Zu:(vP Jo).Ok Tryz.prog 139:=cP (sf:=ql) jZ Tryz.func139 bb bb
def G6:av:=fD [(al yE [xy,vi 4000000],vi 1)]
theorem VE:(vP G6).Ok Tryz.prog 139:=cP (sf:=ql) jZ Tryz.func139 bb bb
def Hg:av:=fD [(al yE [xy,vi 0],vi 1)]
theorem W6:(vP Hg).Ok Tryz.prog 139:=cP (sf:=ql) jZ Tryz.func139 bb bb
def IE:av:=fD [(al yE [BR,vi 0],vi 0)]
theorem ybh:(vP IE).Ok Tryz.prog 139:=cP (sf:=ql) jZ Tryz.func139 bb bb
def ab7:av:=d4 JC (d4 Hw (d4 Jo (d4 G6 (d4 Hg (IE)))))
theorem amJ:(vP ab7).Ok Tryz.prog 139:=bk Yx (bk WI (bk Zu (bk VE (bk W6 (ybh)))))
def I5:aZ:=(139,.con ab7)::Ht
theorem gF:aO Tryz.prog eqs its I5:=.con amJ jZ
def Ia:av:=fD [(al tz [vi 0,sj,.pd [vi 0],.pd [vi 0]],.agg [vi 200,vi 200])]
theorem ZJ:(vP Ia).Ok Tryz.prog 140:=cP (sf:=mq) gF Tryz.func140 bb bb
def J7:av:=fD [(al tz [vi 1,sj,.pd [vi 0],.pd [vi 0]],.agg [vi 400,vi 400])]
theorem Xn:(vP J7).Ok Tryz.prog 140:=cP (sf:=mq) gF Tryz.func140 bb bb
def Hb:av:=fD [(al tz [vi 0,sj,.pd [vi 0],.pd [vi 8000000]],.agg [vi 300,vi 300])]
theorem Xv:(vP Hb).Ok Tryz.prog 140:=cP (sf:=mq) gF Tryz.func140 bb bb
def yaI:av:=fD [(al tz [vi 1,sj,.pd [vi 0],.pd [vi 8000000]],.agg [vi 600,vi 600])]
theorem Y9:(vP yaI).Ok Tryz.prog 140:=cP (sf:=mq) gF Tryz.func140 bb bb
def JM:av:=fD [(al tz [vi 2,sj,.pd [vi 0],.pd [vi 0]],.agg [vi 50,vi 50])]
theorem X4:(vP JM).Ok Tryz.prog 140:=cP (sf:=mq) gF Tryz.func140 bb bb
def HM:av:=fD [(al tz [vi 2,sj,.pd [vi 0],.pd [vi 8000000]],.agg [vi 100,vi 100])]
theorem Y2:(vP HM).Ok Tryz.prog 140:=cP (sf:=mq) gF Tryz.func140 bb bb
def Kp:av:=fD [(al tz [vi 0,N8,.pd [vi 0],.pd [vi 0]],.agg [vi 700,vi 700])]
theorem X2:(vP Kp).Ok Tryz.prog 140:=cP (sf:=mq) gF Tryz.func140 bb bb
def GR:av:=fD [(al tz [vi 1,N8,.pd [vi 0],.pd [vi 0]],.agg [vi 700,vi 700])]
theorem Wb:(vP GR).Ok Tryz.prog 140:=cP (sf:=mq) gF Tryz.func140 bb bb
def abH:av:=d4 Ia (d4 J7 (d4 Hb (d4 yaI (d4 JM (d4 HM (d4 Kp (GR)))))))
theorem amD:(vP abH).Ok Tryz.prog 140:=bk ZJ (bk Xn (bk Xv (bk Y9 (bk X4 (bk Y2 (bk X2 (Wb)))))))
def GL:aZ:=(140,.con abH)::I5
theorem rb:aO Tryz.prog eqs its GL:=.con amD gF
def abS:av:=fD [(al Qk [FM,vi 0,AZ],.tup [vi 0,vi 0])]
theorem alm:(vP abS).Ok Tryz.prog 68:=cP (sf:=U1) rb Tryz.func68 bb bb
def abp:av:=fD [(al Qk [FM,vi 0,.agg [vi 0,vi 0,vi 0,vi 0]],.tup [vi 0,vi 0])]
theorem amx:(vP abp).Ok Tryz.prog 68:=cP (sf:=U1) rb Tryz.func68 bb bb
def ac8:av:=fD [(al Qk [FM,vi 0,zX],.tup [vi 0,vi 0])]
theorem anb:(vP ac8).Ok Tryz.prog 68:=cP (sf:=U1) rb Tryz.func68 bb bb
def K17:av:=d4 abS (d4 abp (ac8))
theorem k17:(vP K17).Ok Tryz.prog 68:=bk alm (bk amx (anb))
def abF:aZ:=(68,.con K17)::GL
theorem zU:aO Tryz.prog eqs its abF:=.con k17 rb
def IS:av:=fD [(al M0 [yaG,AZ],zF)]
theorem Xo:(vP IS).Ok Tryz.prog 63:=cP (sf:=Bu) zU Tryz.func63 bb bb
def Jx:av:=fD [(al M0 [yaG,.agg [vi 0,vi 0,vi 0,vi 0]],.agg [vi 0,vi 0,vi 0,vi 0])]
theorem VP:(vP Jx).Ok Tryz.prog 63:=cP (sf:=Bu) zU Tryz.func63 bb bb
def H8:av:=fD [(al M0 [yaG,zX],Ad)]
theorem V5:(vP H8).Ok Tryz.prog 63:=cP (sf:=Bu) zU Tryz.func63 bb bb
def ada:av:=d4 IS (d4 Jx (H8))
theorem akb:(vP ada).Ok Tryz.prog 63:=bk Xo (bk VP (V5))
def H5:aZ:=(63,.con ada)::abF
theorem qX:aO Tryz.prog eqs its H5:=.con akb zU
def Hs:av:=fD [(al TM [qh,AZ,vi 11,vi 75],.agg [vi 11,vi 75])]
theorem WM:(vP Hs).Ok Tryz.prog 42:=cP (sf:=Az) qX Tryz.func42 bb bb
def GN:av:=fD [(al TM [qh,.agg [vi 0,vi 0,vi 0,vi 0],vi 3500,vi 3500],.agg [vi 3500,vi 3500])]
theorem WW:(vP GN).Ok Tryz.prog 42:=cP (sf:=Az) qX Tryz.func42 bb bb
def JK:av:=fD [(al TM [qh,zX,vi 26,vi 27],.agg [vi 26,vi 27])]
theorem Vu:(vP JK).Ok Tryz.prog 42:=cP (sf:=Az) qX Tryz.func42 bb bb
def abM:av:=d4 Hs (d4 GN (JK))
theorem akj:(vP abM).Ok Tryz.prog 42:=bk WM (bk WW (Vu))
def Ku:aZ:=(42,.con abM)::H5
theorem iJ:aO Tryz.prog eqs its Ku:=.con akj qX
def IN:av:=fD [(al wY [mK,vi (-4000000),vi 0],.agg [vi 300,vi 300])]
theorem Vh:(vP IN).Ok Tryz.prog 108:=cP (sf:=ow) iJ Tryz.func108 bb bb
def Kr:av:=fD [(al wY [mK,vi (-4000000),vi 8000000],.agg [vi 450,vi 450])]
theorem Vm:(vP Kr).Ok Tryz.prog 108:=cP (sf:=ow) iJ Tryz.func108 bb bb
def Ke:av:=fD [(al wY [mK,vi 4000000,vi 0],.agg [vi 312,vi 313])]
theorem Xe:(vP Ke).Ok Tryz.prog 108:=cP (sf:=ow) iJ Tryz.func108 bb bb
def Iz:av:=fD [(al wY [mK,vi 4000000,vi 8000000],.agg [vi 475,vi 475])]
theorem Zp:(vP Iz).Ok Tryz.prog 108:=cP (sf:=ow) iJ Tryz.func108 bb bb
def HF:av:=fD [(al wY [mK,vi 0,vi 0],.agg [vi 400,vi 400])]
theorem VT:(vP HF).Ok Tryz.prog 108:=cP (sf:=ow) iJ Tryz.func108 bb bb
def GW:av:=fD [(al wY [mK,vi 0,vi 8000000],.agg [vi 600,vi 600])]
theorem Ye:(vP GW).Ok Tryz.prog 108:=cP (sf:=ow) iJ Tryz.func108 bb bb
def HV:av:=fD [(al wY [Tp,vi 0,vi 0],.agg [vi 700,vi 700])]
theorem YT:(vP HV).Ok Tryz.prog 108:=cP (sf:=ow) iJ Tryz.func108 bb bb
def adl:av:=d4 IN (d4 Kr (d4 Ke (d4 Iz (d4 HF (d4 GW (HV))))))
theorem akF:(vP adl).Ok Tryz.prog 108:=bk Vh (bk Vm (bk Xe (bk Zp (bk VT (bk Ye (YT))))))
def yaK:aZ:=(108,.con adl)::Ku
theorem nt:aO Tryz.prog eqs its yaK:=.con akF iJ
def IB:av:=fD [(al A8 [mK,zF],.agg [vi 300,vi 600])]
theorem XU:(vP IB).Ok Tryz.prog 72:=cP (sf:=vK) nt Tryz.func72 bb bb
def Kh:av:=fD [(al A8 [mK,.agg [vi 0,vi 0,vi 0,vi 0]],.agg [vi 400,vi 400])]
theorem Z6:(vP Kh).Ok Tryz.prog 72:=cP (sf:=vK) nt Tryz.func72 bb bb
def Hh:av:=fD [(al A8 [Tp,.agg [vi 0,vi 0,vi 0,vi 0]],.agg [vi 700,vi 700])]
theorem YP:(vP Hh).Ok Tryz.prog 72:=cP (sf:=vK) nt Tryz.func72 bb bb
def G1:av:=fD [(al A8 [mK,Ad],.agg [vi 300,vi 300])]
theorem VO:(vP G1).Ok Tryz.prog 72:=cP (sf:=vK) nt Tryz.func72 bb bb
def ac2:av:=d4 IB (d4 Kh (d4 Hh (G1)))
theorem al8:(vP ac2).Ok Tryz.prog 72:=bk XU (bk Z6 (bk YP (VO)))
def G3:aZ:=(72,.con ac2)::yaK
theorem CM:aO Tryz.prog eqs its G3:=.con al8 nt
def abb:av:=fD [(al agW [.agg [vO,uX],vi 1,.agg [vi 0,vi 0,vi 0,vi 0],vi 8000],.tup [.agg [vi 700,vi 700],vi 0])]
theorem aoL:(vP abb).Ok Tryz.prog 44:=cP (sf:=R2) CM Tryz.func44 bb bb
def Hn:aZ:=(44,.con abb)::G3
theorem rn:aO Tryz.prog eqs its Hn:=.con aoL CM
def H7:av:=fD [(al Gi [.agg [vO,uX],vi 0,.agg [vi 0,vi 0,vi 1000],zF,vi 8000],.tup [.agg [vi 2400,vi 4800],vi 0])]
theorem ZD:(vP H7).Ok Tryz.prog 64:=cP (sf:=AD) rn Tryz.func64 bb bb
def Hv:av:=fD [(al Gi [.agg [vO,uX],vi 0,.agg [vi 0,vi 0,vi 1000],.agg [vi 0,vi 0,vi 0,vi 0],vi 8000],.tup [.agg [vi 3200,vi 3200],vi 0])]
theorem VL:(vP Hv).Ok Tryz.prog 64:=cP (sf:=AD) rn Tryz.func64 bb bb
def Hq:av:=fD [(al Gi [.agg [vO,uX],vi 0,.agg [vi 0,vi 0,vi 1000],Ad,vi 8000],.tup [.agg [vi 2400,vi 2400],vi 0])]
theorem XX:(vP Hq).Ok Tryz.prog 64:=cP (sf:=AD) rn Tryz.func64 bb bb
def ac0:av:=d4 H7 (d4 Hv (Hq))
theorem alY:(vP ac0).Ok Tryz.prog 64:=bk ZD (bk VL (XX))
def Jk:aZ:=(64,.con ac0)::Hn
theorem rH:aO Tryz.prog eqs its Jk:=.con alY rn
def Hj:av:=fD [(al Eh [qh,AZ,vi 8000],.agg [vi 2400,vi 4800])]
theorem Ww:(vP Hj).Ok Tryz.prog 36:=cP (sf:=zD) rH Tryz.func36 bb bb
def Ii:av:=fD [(al Eh [qh,.agg [vi 0,vi 0,vi 0,vi 0],vi 8000],.agg [vi 3200,vi 3200])]
theorem U5:(vP Ii).Ok Tryz.prog 36:=cP (sf:=zD) rH Tryz.func36 bb bb
def JH:av:=fD [(al Eh [qh,zX,vi 8000],.agg [vi 2400,vi 2400])]
theorem VH:(vP JH).Ok Tryz.prog 36:=cP (sf:=zD) rH Tryz.func36 bb bb
def acG:av:=d4 Hj (d4 Ii (JH))
theorem amk:(vP acG).Ok Tryz.prog 36:=bk Ww (bk U5 (VH))
def VS:aZ:=(36,.con acG)::Jk
theorem Px:aO Tryz.prog eqs its VS:=.con amk rH
def adb:av:=bL [] (fun _=>True) fun _=>.bool true
theorem afi:(vP adb).Ok Tryz.prog 5:=FH (J:=JJ) (un:=uB) (sf:=ahv) Px hE hI Tryz.func5 bb bb bb rfl (fun w0 ds hp=>xI bb)
def MQ:aZ:=[(5,.con adb),(4,.con aaM),(6,.conZ Sv Z8)]
theorem afm:aO Tryz.prog eqs its MQ:=.con afi (.con agP (.conZ aeN (.nil)))
def u81:kk:=fun k=>bif Nat.beq k 2 then 6 else 0
inductive ny where
 |L0 (ia0 ia1 ia2 ia3 ia4 ia5 ia6 ia7 ia8 ia9 ia10:Int)
def XB:ny->bD×List O×Option Ex
 |.L0 ia0 ia1 ia2 ia3 ia4 ia5 ia6 ia7 ia8 ia9 ia10=>([(8,vi ia0),(7,V.pl 0 0),(5,V.pl 1 0),(3,V.pl 2 0),(2,V.pl 3 0)],[O.cells [vi ia1,vi ia2,vi ia3,vi ia4,vi ia5,vi ia6,vi ia7,vi ia8,vi ia9,vi ia10] 45,O.cells [vi (r6 n0 (aa af f0) n2 (aa ah f2) x4 n5 (aa aB f5) n7 (aa aG f7) n9 (aa aH f9) n11 (aa aA f11) n13 (aa ac f13) n15 (aa aU f15) x17 x18 x19 x20 x21 x22 x23 x24 x25 x26 x27 x28),vi (r5 n0 (aa af f0) n2 (aa ah f2) x4 n5 (aa aB f5) n7 (aa aG f7) n9 (aa aH f9) n11 (aa aA f11) n13 (aa ac f13) n15 (aa aU f15) x17 x18 x19 x20 x21 x22 x23 x24 x25 x26 x27 x28),vi (sG n0 (aa af f0) n2 (aa ah f2) x4 n5 (aa aB f5) n7 (aa aG f7) n9 (aa aH f9) n11 (aa aA f11) n13 (aa ac f13) n15 (aa aU f15) x17 x18 x19 x20 x21 x22 x23 x24 x25 x26 x27 x28),vi (sh n0 (aa af f0) n2 (aa ah f2) x4 n5 (aa aB f5) n7 (aa aG f7) n9 (aa aH f9) n11 (aa aA f11) n13 (aa ac f13) n15 (aa aU f15) x17 x18 x19 x20 x21 x22 x23 x24 x25 x26 x27 x28),vi (r7 n0 (aa af f0) n2 (aa ah f2) x4 n5 (aa aB f5) n7 (aa aG f7) n9 (aa aH f9) n11 (aa aA f11) n13 (aa ac f13) n15 (aa aU f15) x17 x18 x19 x20 x21 x22 x23 x24 x25 x26 x27 x28),vi (sK n0 (aa af f0) n2 (aa ah f2) x4 n5 (aa aB f5) n7 (aa aG f7) n9 (aa aH f9) n11 (aa aA f11) n13 (aa ac f13) n15 (aa aU f15) x17 x18 x19 x20 x21 x22 x23 x24 x25 x26 x27 x28),vi (sA n0 (aa af f0) n2 (aa ah f2) x4 n5 (aa aB f5) n7 (aa aG f7) n9 (aa aH f9) n11 (aa aA f11) n13 (aa ac f13) n15 (aa aU f15) x17 x18 x19 x20 x21 x22 x23 x24 x25 x26 x27 x28),vi (sR n0 (aa af f0) n2 (aa ah f2) x4 n5 (aa aB f5) n7 (aa aG f7) n9 (aa aH f9) n11 (aa aA f11) n13 (aa ac f13) n15 (aa aU f15) x17 x18 x19 x20 x21 x22 x23 x24 x25 x26 x27 x28),vi (rV n0 (aa af f0) n2 (aa ah f2) x4 n5 (aa aB f5) n7 (aa aG f7) n9 (aa aH f9) n11 (aa aA f11) n13 (aa ac f13) n15 (aa aU f15) x17 x18 x19 x20 x21 x22 x23 x24 x25 x26 x27 x28),vi (sJ n0 (aa af f0) n2 (aa ah f2) x4 n5 (aa aB f5) n7 (aa aG f7) n9 (aa aH f9) n11 (aa aA f11) n13 (aa ac f13) n15 (aa aU f15) x17 x18 x19 x20 x21 x22 x23 x24 x25 x26 x27 x28)] 45,O.cells [vi x17,vi x18,vi x19,vi x20,vi x21,vi x22,vi x23,vi x24,vi x25,vi x26,vi x27,vi x28] 42,O.cells [V.sl n0 (aa af f0),V.sl n2 (aa ah f2),vi x4,V.sl n5 (aa aB f5),V.sl n7 (aa aG f7),V.sl n9 (aa aH f9),V.sl n11 (aa aA f11),V.sl n13 (aa ac f13),V.sl n15 (aa aU f15)] 35],none)
def afM:ny->JJ
 |.L0 ia0 ia1 ia2 ia3 ia4 ia5 ia6 ia7 ia8 ia9 ia10=>(0,[])
def QE:T (ck JJ):=aV JJ MQ u81 ae9 [V.agg [V.sl n0 (aa af f0),V.sl n2 (aa ah f2),vi x4,V.sl n5 (aa aB f5),V.sl n7 (aa aG f7),V.sl n9 (aa aH f9),V.sl n11 (aa aA f11),V.sl n13 (aa ac f13),V.sl n15 (aa aU f15)],V.agg [vi x17,vi x18,vi x19,vi x20,vi x21,vi x22,vi x23,vi x24,vi x25,vi x26,vi x27,vi x28]]
def CJ (cx:List Cx):Lp JJ:=fQ (eZ (QE n0 f0 n2 f2 x4 n5 f5 n7 f7 n9 f9 n11 f11 n13 f13 n15 f15 x17 x18 x19 x20 x21 x22 x23 x24 x25 x26 x27 x28) [false])
def afN:JJ->Lp JJ
 |(0,cx)=>CJ n0 f0 n2 f2 x4 n5 f5 n7 f7 n9 f9 n11 f11 n13 f13 n15 f15 x17 x18 x19 x20 x21 x22 x23 x24 x25 x26 x27 x28 cx
 |(_,cx)=>CJ n0 f0 n2 f2 x4 n5 f5 n7 f7 n9 f9 n11 f11 n13 f13 n15 f15 x17 x18 x19 x20 x21 x22 x23 x24 x25 x26 x27 x28 cx
def anW:LD JJ ny:=⟨afM,afN n0 f0 n2 f2 x4 n5 f5 n7 f7 n9 f9 n11 f11 n13 f13 n15 f15 x17 x18 x19 x20 x21 x22 x23 x24 x25 x26 x27 x28,XB n0 f0 n2 f2 x4 n5 f5 n7 f7 n9 f9 n11 f11 n13 f13 n15 f15 x17 x18 x19 x20 x21 x22 x23 x24 x25 x26 x27 x28⟩
def Ay:ny->RT ny
 |.L0 ia0 ia1 ia2 ia3 ia4 ia5 ia6 ia7 ia8 ia9 ia10=>.obp (ap n0 (aa af f0)/\ap n2 (aa ah f2)/\ap n5 (aa aB f5)/\ap n11 (aa aA f11)) (.obt (.br (Ed n0 (aa af f0) n2 (aa ah f2) x4 n5 (aa aB f5) n7 (aa aG f7) n9 (aa aH f9) n11 (aa aA f11) n13 (aa ac (fT (aa ac f13) ia0)) n15 (aa aU f15) x17 x18 x19 x20 x21 x22 x23 x24 x25 x26 x27 x28 != 0) (.ret (V.kb false)) (.brt (.obt (.obt (.obt (.obt (.obt (.brt (.obt (.obt (.obt (.obt (.obt (.brt (.obt (.obt (.obt (.obt (.obt (.brt (.obt (.obt (.obt (.obt (.obt (.brt (.obt (.obt (.obt (.obt (.obt (.brf (.next (iR 0 4 []) (ny.L0 (wI (ia0+1)) (wI (ia1+r6 n0 (aa af f0) n2 (aa ah f2) x4 n5 (aa aB f5) n7 (aa aG f7) n9 (aa aH f9) n11 (aa aA f11) n13 (aa ac (fT (aa ac f13) ia0)) n15 (aa aU f15) x17 x18 x19 x20 x21 x22 x23 x24 x25 x26 x27 x28)) (wI (ia2+r5 n0 (aa af f0) n2 (aa ah f2) x4 n5 (aa aB f5) n7 (aa aG f7) n9 (aa aH f9) n11 (aa aA f11) n13 (aa ac (fT (aa ac f13) ia0)) n15 (aa aU f15) x17 x18 x19 x20 x21 x22 x23 x24 x25 x26 x27 x28)) (wI (ia3+sG n0 (aa af f0) n2 (aa ah f2) x4 n5 (aa aB f5) n7 (aa aG f7) n9 (aa aH f9) n11 (aa aA f11) n13 (aa ac (fT (aa ac f13) ia0)) n15 (aa aU f15) x17 x18 x19 x20 x21 x22 x23 x24 x25 x26 x27 x28)) (wI (ia4+sh n0 (aa af f0) n2 (aa ah f2) x4 n5 (aa aB f5) n7 (aa aG f7) n9 (aa aH f9) n11 (aa aA f11) n13 (aa ac (fT (aa ac f13) ia0)) n15 (aa aU f15) x17 x18 x19 x20 x21 x22 x23 x24 x25 x26 x27 x28)) (wI (ia5+r7 n0 (aa af f0) n2 (aa ah f2) x4 n5 (aa aB f5) n7 (aa aG f7) n9 (aa aH f9) n11 (aa aA f11) n13 (aa ac (fT (aa ac f13) ia0)) n15 (aa aU f15) x17 x18 x19 x20 x21 x22 x23 x24 x25 x26 x27 x28)) (wI (ia6+sK n0 (aa af f0) n2 (aa ah f2) x4 n5 (aa aB f5) n7 (aa aG f7) n9 (aa aH f9) n11 (aa aA f11) n13 (aa ac (fT (aa ac f13) ia0)) n15 (aa aU f15) x17 x18 x19 x20 x21 x22 x23 x24 x25 x26 x27 x28)) (wI (ia7+sA n0 (aa af f0) n2 (aa ah f2) x4 n5 (aa aB f5) n7 (aa aG f7) n9 (aa aH f9) n11 (aa aA f11) n13 (aa ac (fT (aa ac f13) ia0)) n15 (aa aU f15) x17 x18 x19 x20 x21 x22 x23 x24 x25 x26 x27 x28)) (wI (ia8+sR n0 (aa af f0) n2 (aa ah f2) x4 n5 (aa aB f5) n7 (aa aG f7) n9 (aa aH f9) n11 (aa aA f11) n13 (aa ac (fT (aa ac f13) ia0)) n15 (aa aU f15) x17 x18 x19 x20 x21 x22 x23 x24 x25 x26 x27 x28)) (wI (ia9+rV n0 (aa af f0) n2 (aa ah f2) x4 n5 (aa aB f5) n7 (aa aG f7) n9 (aa aH f9) n11 (aa aA f11) n13 (aa ac (fT (aa ac f13) ia0)) n15 (aa aU f15) x17 x18 x19 x20 x21 x22 x23 x24 x25 x26 x27 x28)) (wI (ia10+sJ n0 (aa af f0) n2 (aa ah f2) x4 n5 (aa aB f5) n7 (aa aG f7) n9 (aa aH f9) n11 (aa aA f11) n13 (aa ac (fT (aa ac f13) ia0)) n15 (aa aU f15) x17 x18 x19 x20 x21 x22 x23 x24 x25 x26 x27 x28))) []))))))))))))))))))))))))))))))))))
def A1:ny->RT ny
 |.L0 ia0 ia1 ia2 ia3 ia4 ia5 ia6 ia7 ia8 ia9 ia10=>.am n13 (.br (decide (ia0<(n13:Int))) (.und (.obp (n13<=(1000:Nat)) (.obt (.und (Ay n0 f0 n2 f2 x4 n5 f5 n7 f7 n9 f9 n11 f11 n13 f13 n15 f15 x17 x18 x19 x20 x21 x22 x23 x24 x25 x26 x27 x28 (.L0 ia0 ia1 ia2 ia3 ia4 ia5 ia6 ia7 ia8 ia9 ia10)) (Ay n0 f0 n2 f2 x4 n5 f5 n7 f7 n9 f9 n11 f11 n13 f13 n15 f15 x17 x18 x19 x20 x21 x22 x23 x24 x25 x26 x27 x28 (.L0 ia0 ia1 ia2 ia3 ia4 ia5 ia6 ia7 ia8 ia9 ia10))))) (.obp (n13<=(1000:Nat)) (.obt (Ay n0 f0 n2 f2 x4 n5 f5 n7 f7 n9 f9 n11 f11 n13 f13 n15 f15 x17 x18 x19 x20 x21 x22 x23 x24 x25 x26 x27 x28 (.L0 ia0 ia1 ia2 ia3 ia4 ia5 ia6 ia7 ia8 ia9 ia10))))) (.br (r6 n0 (aa af f0) n2 (aa ah f2) x4 n5 (aa aB f5) n7 (aa aG f7) n9 (aa aH f9) n11 (aa aA f11) n13 (aa ac f13) n15 (aa aU f15) x17 x18 x19 x20 x21 x22 x23 x24 x25 x26 x27 x28==ia1&&(r5 n0 (aa af f0) n2 (aa ah f2) x4 n5 (aa aB f5) n7 (aa aG f7) n9 (aa aH f9) n11 (aa aA f11) n13 (aa ac f13) n15 (aa aU f15) x17 x18 x19 x20 x21 x22 x23 x24 x25 x26 x27 x28==ia2&&(sG n0 (aa af f0) n2 (aa ah f2) x4 n5 (aa aB f5) n7 (aa aG f7) n9 (aa aH f9) n11 (aa aA f11) n13 (aa ac f13) n15 (aa aU f15) x17 x18 x19 x20 x21 x22 x23 x24 x25 x26 x27 x28==ia3&&(sh n0 (aa af f0) n2 (aa ah f2) x4 n5 (aa aB f5) n7 (aa aG f7) n9 (aa aH f9) n11 (aa aA f11) n13 (aa ac f13) n15 (aa aU f15) x17 x18 x19 x20 x21 x22 x23 x24 x25 x26 x27 x28==ia4&&(r7 n0 (aa af f0) n2 (aa ah f2) x4 n5 (aa aB f5) n7 (aa aG f7) n9 (aa aH f9) n11 (aa aA f11) n13 (aa ac f13) n15 (aa aU f15) x17 x18 x19 x20 x21 x22 x23 x24 x25 x26 x27 x28==ia5&&(sK n0 (aa af f0) n2 (aa ah f2) x4 n5 (aa aB f5) n7 (aa aG f7) n9 (aa aH f9) n11 (aa aA f11) n13 (aa ac f13) n15 (aa aU f15) x17 x18 x19 x20 x21 x22 x23 x24 x25 x26 x27 x28==ia6&&(sA n0 (aa af f0) n2 (aa ah f2) x4 n5 (aa aB f5) n7 (aa aG f7) n9 (aa aH f9) n11 (aa aA f11) n13 (aa ac f13) n15 (aa aU f15) x17 x18 x19 x20 x21 x22 x23 x24 x25 x26 x27 x28==ia7&&(sR n0 (aa af f0) n2 (aa ah f2) x4 n5 (aa aB f5) n7 (aa aG f7) n9 (aa aH f9) n11 (aa aA f11) n13 (aa ac f13) n15 (aa aU f15) x17 x18 x19 x20 x21 x22 x23 x24 x25 x26 x27 x28==ia8&&(rV n0 (aa af f0) n2 (aa ah f2) x4 n5 (aa aB f5) n7 (aa aG f7) n9 (aa aH f9) n11 (aa aA f11) n13 (aa ac f13) n15 (aa aU f15) x17 x18 x19 x20 x21 x22 x23 x24 x25 x26 x27 x28==ia9&&(sJ n0 (aa af f0) n2 (aa ah f2) x4 n5 (aa aB f5) n7 (aa aG f7) n9 (aa aH f9) n11 (aa aA f11) n13 (aa ac f13) n15 (aa aU f15) x17 x18 x19 x20 x21 x22 x23 x24 x25 x26 x27 x28==ia10&&true)))))))))) (.cb (.ret (V.bool true))) (.ret (V.kb false))))
def abV:RT ny:=.obp (ap n0 (aa af f0)/\ap n2 (aa ah f2)/\ap n5 (aa aB f5)/\ap n11 (aa aA f11)) (.obt (.ii (.asm ((!Ed n0 (aa af f0) n2 (aa ah f2) x4 n5 (aa aB f5) n7 (aa aG f7) n9 (aa aH f9) n11 (aa aA f11) n13 (aa ac f13) n15 (aa aU f15) x17 x18 x19 x20 x21 x22 x23 x24 x25 x26 x27 x28 != 0)=true->n13<=9223372036854775807) (.ii (.br (bif Ed n0 (aa af f0) n2 (aa ah f2) x4 n5 (aa aB f5) n7 (aa aG f7) n9 (aa aH f9) n11 (aa aA f11) n13 (aa ac f13) n15 (aa aU f15) x17 x18 x19 x20 x21 x22 x23 x24 x25 x26 x27 x28 != 0 then true else decide (4<(n13:Int))) (.cb (.ret (V.bool true))) (.enter [some (some 3),some (some 2),some (some 1),some (some 0)] (ny.L0 0 0 0 0 0 0 0 0 0 0 0) []))))))
theorem ZQ:eS MQ u81 (anW n0 f0 n2 f2 x4 n5 f5 n7 f7 n9 f9 n11 f11 n13 f13 n15 f15 x17 x18 x19 x20 x21 x22 x23 x24 x25 x26 x27 x28) (QE n0 f0 n2 f2 x4 n5 f5 n7 f7 n9 f9 n11 f11 n13 f13 n15 f15 x17 x18 x19 x20 x21 x22 x23 x24 x25 x26 x27 x28) (abV n0 f0 n2 f2 x4 n5 f5 n7 f7 n9 f9 n11 f11 n13 f13 n15 f15 x17 x18 x19 x20 x21 x22 x23 x24 x25 x26 x27 x28) (A1 n0 f0 n2 f2 x4 n5 f5 n7 f7 n9 f9 n11 f11 n13 f13 n15 f15 x17 x18 x19 x20 x21 x22 x23 x24 x25 x26 x27 x28):=⟨bF,fun s=>by cases s<;>exact bF⟩
def Fi (k:Nat):ny:=.L0 (k:Int) (eW (fun i=>r6 n0 (aa af f0) n2 (aa ah f2) x4 n5 (aa aB f5) n7 (aa aG f7) n9 (aa aH f9) n11 (aa aA f11) n13 (aa ac (fT (aa ac f13) (i:Int))) n15 (aa aU f15) x17 x18 x19 x20 x21 x22 x23 x24 x25 x26 x27 x28) k) (eW (fun i=>r5 n0 (aa af f0) n2 (aa ah f2) x4 n5 (aa aB f5) n7 (aa aG f7) n9 (aa aH f9) n11 (aa aA f11) n13 (aa ac (fT (aa ac f13) (i:Int))) n15 (aa aU f15) x17 x18 x19 x20 x21 x22 x23 x24 x25 x26 x27 x28) k) (eW (fun i=>sG n0 (aa af f0) n2 (aa ah f2) x4 n5 (aa aB f5) n7 (aa aG f7) n9 (aa aH f9) n11 (aa aA f11) n13 (aa ac (fT (aa ac f13) (i:Int))) n15 (aa aU f15) x17 x18 x19 x20 x21 x22 x23 x24 x25 x26 x27 x28) k) (eW (fun i=>sh n0 (aa af f0) n2 (aa ah f2) x4 n5 (aa aB f5) n7 (aa aG f7) n9 (aa aH f9) n11 (aa aA f11) n13 (aa ac (fT (aa ac f13) (i:Int))) n15 (aa aU f15) x17 x18 x19 x20 x21 x22 x23 x24 x25 x26 x27 x28) k) (eW (fun i=>r7 n0 (aa af f0) n2 (aa ah f2) x4 n5 (aa aB f5) n7 (aa aG f7) n9 (aa aH f9) n11 (aa aA f11) n13 (aa ac (fT (aa ac f13) (i:Int))) n15 (aa aU f15) x17 x18 x19 x20 x21 x22 x23 x24 x25 x26 x27 x28) k) (eW (fun i=>sK n0 (aa af f0) n2 (aa ah f2) x4 n5 (aa aB f5) n7 (aa aG f7) n9 (aa aH f9) n11 (aa aA f11) n13 (aa ac (fT (aa ac f13) (i:Int))) n15 (aa aU f15) x17 x18 x19 x20 x21 x22 x23 x24 x25 x26 x27 x28) k) (eW (fun i=>sA n0 (aa af f0) n2 (aa ah f2) x4 n5 (aa aB f5) n7 (aa aG f7) n9 (aa aH f9) n11 (aa aA f11) n13 (aa ac (fT (aa ac f13) (i:Int))) n15 (aa aU f15) x17 x18 x19 x20 x21 x22 x23 x24 x25 x26 x27 x28) k) (eW (fun i=>sR n0 (aa af f0) n2 (aa ah f2) x4 n5 (aa aB f5) n7 (aa aG f7) n9 (aa aH f9) n11 (aa aA f11) n13 (aa ac (fT (aa ac f13) (i:Int))) n15 (aa aU f15) x17 x18 x19 x20 x21 x22 x23 x24 x25 x26 x27 x28) k) (eW (fun i=>rV n0 (aa af f0) n2 (aa ah f2) x4 n5 (aa aB f5) n7 (aa aG f7) n9 (aa aH f9) n11 (aa aA f11) n13 (aa ac (fT (aa ac f13) (i:Int))) n15 (aa aU f15) x17 x18 x19 x20 x21 x22 x23 x24 x25 x26 x27 x28) k) (eW (fun i=>sJ n0 (aa af f0) n2 (aa ah f2) x4 n5 (aa aB f5) n7 (aa aG f7) n9 (aa aH f9) n11 (aa aA f11) n13 (aa ac (fT (aa ac f13) (i:Int))) n15 (aa aU f15) x17 x18 x19 x20 x21 x22 x23 x24 x25 x26 x27 x28) k)
theorem akC (hp:ap n0 (aa af f0)/\ap n2 (aa ah f2)/\ap n5 (aa aB f5)/\ap n11 (aa aA f11)) (hz:Ed n0 (aa af f0) n2 (aa ah f2) x4 n5 (aa aB f5) n7 (aa aG f7) n9 (aa aH f9) n11 (aa aA f11) n13 (aa ac f13) n15 (aa aU f15) x17 x18 x19 x20 x21 x22 x23 x24 x25 x26 x27 x28=0) (h4:n13<=4):∀ k,k<=n13->Ev (A1 n0 f0 n2 f2 x4 n5 f5 n7 f7 n9 f9 n11 f11 n13 f13 n15 f15 x17 x18 x19 x20 x21 x22 x23 x24 x25 x26 x27 x28) (Fi n0 f0 n2 f2 x4 n5 f5 n7 f7 n9 f9 n11 f11 n13 f13 n15 f15 x17 x18 x19 x20 x21 x22 x23 x24 x25 x26 x27 x28 k) (.bool true):=by
 refine dO fun k hk ih=>Ev.of rfl (bw fun hn=>?_)
 by_cases hlt:k<n13
 ·have hw:wI ((k:Int)+1)=((k+1:Nat):Int):=by rw[wrapI (by omega) (by omega)];omega
  have ih:=ih hlt
  have L:aX (Ev (A1 n0 f0 n2 f2 x4 n5 f5 n7 f7 n9 f9 n11 f11 n13 f13 n15 f15 x17 x18 x19 x20 x21 x22 x23 x24 x25 x26 x27 x28)) (Ay n0 f0 n2 f2 x4 n5 f5 n7 f7 n9 f9 n11 f11 n13 f13 n15 f15 x17 x18 x19 x20 x21 x22 x23 x24 x25 x26 x27 x28 (Fi n0 f0 n2 f2 x4 n5 f5 n7 f7 n9 f9 n11 f11 n13 f13 n15 f15 x17 x18 x19 x20 x21 x22 x23 x24 x25 x26 x27 x28 k)) (.bool true):=by
   refine evObp hp (evObt (evBr (fun h=>?_) (fun h=>?_)))
   ·have e:=aif (i:=k) hz
    exact absurd e (lC h)
   ·repeat (first|refine evObt ?_|refine fE ?_|refine jR ?_)
    refine aS ?_
    unfold Fi at ih
    rw [← hw]at ih
    exact ih
  have h9:n13<=1000:=by omega
  exact cI (dqt (by omega)) (Ql (evObp h9 (evObt (Ql L L))) (evObp h9 (evObt L)))
 ·have e:k=n13:=by omega
  refine cS (ef (by omega)) ?_
  show aX _ (.br (r6 n0 (aa af f0) n2 (aa ah f2) x4 n5 (aa aB f5) n7 (aa aG f7) n9 (aa aH f9) n11 (aa aA f11) n13 (aa ac f13) n15 (aa aU f15) x17 x18 x19 x20 x21 x22 x23 x24 x25 x26 x27 x28==eW (fun i=>r6 n0 (aa af f0) n2 (aa ah f2) x4 n5 (aa aB f5) n7 (aa aG f7) n9 (aa aH f9) n11 (aa aA f11) n13 (aa ac (fT (aa ac f13) (i:Int))) n15 (aa aU f15) x17 x18 x19 x20 x21 x22 x23 x24 x25 x26 x27 x28) k&&(r5 n0 (aa af f0) n2 (aa ah f2) x4 n5 (aa aB f5) n7 (aa aG f7) n9 (aa aH f9) n11 (aa aA f11) n13 (aa ac f13) n15 (aa aU f15) x17 x18 x19 x20 x21 x22 x23 x24 x25 x26 x27 x28==eW (fun i=>r5 n0 (aa af f0) n2 (aa ah f2) x4 n5 (aa aB f5) n7 (aa aG f7) n9 (aa aH f9) n11 (aa aA f11) n13 (aa ac (fT (aa ac f13) (i:Int))) n15 (aa aU f15) x17 x18 x19 x20 x21 x22 x23 x24 x25 x26 x27 x28) k&&(sG n0 (aa af f0) n2 (aa ah f2) x4 n5 (aa aB f5) n7 (aa aG f7) n9 (aa aH f9) n11 (aa aA f11) n13 (aa ac f13) n15 (aa aU f15) x17 x18 x19 x20 x21 x22 x23 x24 x25 x26 x27 x28==eW (fun i=>sG n0 (aa af f0) n2 (aa ah f2) x4 n5 (aa aB f5) n7 (aa aG f7) n9 (aa aH f9) n11 (aa aA f11) n13 (aa ac (fT (aa ac f13) (i:Int))) n15 (aa aU f15) x17 x18 x19 x20 x21 x22 x23 x24 x25 x26 x27 x28) k&&(sh n0 (aa af f0) n2 (aa ah f2) x4 n5 (aa aB f5) n7 (aa aG f7) n9 (aa aH f9) n11 (aa aA f11) n13 (aa ac f13) n15 (aa aU f15) x17 x18 x19 x20 x21 x22 x23 x24 x25 x26 x27 x28==eW (fun i=>sh n0 (aa af f0) n2 (aa ah f2) x4 n5 (aa aB f5) n7 (aa aG f7) n9 (aa aH f9) n11 (aa aA f11) n13 (aa ac (fT (aa ac f13) (i:Int))) n15 (aa aU f15) x17 x18 x19 x20 x21 x22 x23 x24 x25 x26 x27 x28) k&&(r7 n0 (aa af f0) n2 (aa ah f2) x4 n5 (aa aB f5) n7 (aa aG f7) n9 (aa aH f9) n11 (aa aA f11) n13 (aa ac f13) n15 (aa aU f15) x17 x18 x19 x20 x21 x22 x23 x24 x25 x26 x27 x28==eW (fun i=>r7 n0 (aa af f0) n2 (aa ah f2) x4 n5 (aa aB f5) n7 (aa aG f7) n9 (aa aH f9) n11 (aa aA f11) n13 (aa ac (fT (aa ac f13) (i:Int))) n15 (aa aU f15) x17 x18 x19 x20 x21 x22 x23 x24 x25 x26 x27 x28) k&&(sK n0 (aa af f0) n2 (aa ah f2) x4 n5 (aa aB f5) n7 (aa aG f7) n9 (aa aH f9) n11 (aa aA f11) n13 (aa ac f13) n15 (aa aU f15) x17 x18 x19 x20 x21 x22 x23 x24 x25 x26 x27 x28==eW (fun i=>sK n0 (aa af f0) n2 (aa ah f2) x4 n5 (aa aB f5) n7 (aa aG f7) n9 (aa aH f9) n11 (aa aA f11) n13 (aa ac (fT (aa ac f13) (i:Int))) n15 (aa aU f15) x17 x18 x19 x20 x21 x22 x23 x24 x25 x26 x27 x28) k&&(sA n0 (aa af f0) n2 (aa ah f2) x4 n5 (aa aB f5) n7 (aa aG f7) n9 (aa aH f9) n11 (aa aA f11) n13 (aa ac f13) n15 (aa aU f15) x17 x18 x19 x20 x21 x22 x23 x24 x25 x26 x27 x28==eW (fun i=>sA n0 (aa af f0) n2 (aa ah f2) x4 n5 (aa aB f5) n7 (aa aG f7) n9 (aa aH f9) n11 (aa aA f11) n13 (aa ac (fT (aa ac f13) (i:Int))) n15 (aa aU f15) x17 x18 x19 x20 x21 x22 x23 x24 x25 x26 x27 x28) k&&(sR n0 (aa af f0) n2 (aa ah f2) x4 n5 (aa aB f5) n7 (aa aG f7) n9 (aa aH f9) n11 (aa aA f11) n13 (aa ac f13) n15 (aa aU f15) x17 x18 x19 x20 x21 x22 x23 x24 x25 x26 x27 x28==eW (fun i=>sR n0 (aa af f0) n2 (aa ah f2) x4 n5 (aa aB f5) n7 (aa aG f7) n9 (aa aH f9) n11 (aa aA f11) n13 (aa ac (fT (aa ac f13) (i:Int))) n15 (aa aU f15) x17 x18 x19 x20 x21 x22 x23 x24 x25 x26 x27 x28) k&&(rV n0 (aa af f0) n2 (aa ah f2) x4 n5 (aa aB f5) n7 (aa aG f7) n9 (aa aH f9) n11 (aa aA f11) n13 (aa ac f13) n15 (aa aU f15) x17 x18 x19 x20 x21 x22 x23 x24 x25 x26 x27 x28==eW (fun i=>rV n0 (aa af f0) n2 (aa ah f2) x4 n5 (aa aB f5) n7 (aa aG f7) n9 (aa aH f9) n11 (aa aA f11) n13 (aa ac (fT (aa ac f13) (i:Int))) n15 (aa aU f15) x17 x18 x19 x20 x21 x22 x23 x24 x25 x26 x27 x28) k&&(sJ n0 (aa af f0) n2 (aa ah f2) x4 n5 (aa aB f5) n7 (aa aG f7) n9 (aa aH f9) n11 (aa aA f11) n13 (aa ac f13) n15 (aa aU f15) x17 x18 x19 x20 x21 x22 x23 x24 x25 x26 x27 x28==eW (fun i=>sJ n0 (aa af f0) n2 (aa ah f2) x4 n5 (aa aB f5) n7 (aa aG f7) n9 (aa aH f9) n11 (aa aA f11) n13 (aa ac (fT (aa ac f13) (i:Int))) n15 (aa aU f15) x17 x18 x19 x20 x21 x22 x23 x24 x25 x26 x27 x28) k&&(true))))))))))) _ _) _
  rw [e,Un hz,N4 hz,RS hz,Sy hz,Tb hz,Pt hz,yaY hz,SX hz,MN hz,OK hz]
  refine evBr (fun h=>au (evObt (evRet rfl))) (fun h=>?_)
  simp only [BEq.rfl,aqB]at h
  cases h
theorem Zi (hp:ap n0 f0/\ap n2 f2/\ap n5 f5/\ap n11 f11):aX (Ev (A1 n0 f0 n2 f2 x4 n5 f5 n7 f7 n9 f9 n11 f11 n13 f13 n15 f15 x17 x18 x19 x20 x21 x22 x23 x24 x25 x26 x27 x28)) (abV n0 f0 n2 f2 x4 n5 f5 n7 f7 n9 f9 n11 f11 n13 f13 n15 f15 x17 x18 x19 x20 x21 x22 x23 x24 x25 x26 x27 x28) (.bool true):=by
 refine evObp hp (evObt (evObi (evObi (evAsm fun _=>evObi (evObi (evBr (fun h=>au (evObt (evRet rfl))) (fun h=>?_)))))))
 cases hm:Ed n0 (aa af f0) n2 (aa ah f2) x4 n5 (aa aB f5) n7 (aa aG f7) n9 (aa aH f9) n11 (aa aA f11) n13 (aa ac f13) n15 (aa aU f15) x17 x18 x19 x20 x21 x22 x23 x24 x25 x26 x27 x28 != 0 with
 |true=>rw[hm]at h;cases h
 | false =>
   rw [hm]at h
   have h4:=abu h
   exact aM (akC n0 f0 n2 f2 x4 n5 f5 n7 f7 n9 f9 n11 f11 n13 f13 n15 f15 x17 x18 x19 x20 x21 x22 x23 x24 x25 x26 x27 x28 hp (gM hm) (by omega) 0 (acK _))
def tys1011:List Ty:=[.agg [.sl af,.sl ah,tI,.sl aB,.sl aG,.sl aH,.sl aA,.sl ac,.sl aU],.agg [tI,tI,tI,tI,tI,tI,tI,tI,tI,tI,tI,tI]]
theorem ok1011:(vP (lawC tys1011)).Ok Tryz.prog 3:=mkE afm Tryz.func3 bb fun ds hp=>nd (ZQ ..) (Zi _ _ _ _ _ _ _ _ _ _ _ _ _ _ _ _ _ _ _ _ _ _ _ _ _ _ _ _ _ (by have h:gC [.agg [.sl af,.sl ah,tI,.sl aB,.sl aG,.sl aH,.sl aA,.sl ac,.sl aU],.agg [tI,tI,tI,tI,tI,tI,tI,tI,tI,tI,tI,tI]] _:=hp;exact⟨fun i hi=>(h.1.1 i hi).1,fun i hi=>(h.1.2.1 i hi).1,fun i hi=>(h.1.2.2.2.1 i hi).1,fun i hi=>(h.1.2.2.2.2.2.2.1 i hi).1⟩))
end
end Go.Dx
