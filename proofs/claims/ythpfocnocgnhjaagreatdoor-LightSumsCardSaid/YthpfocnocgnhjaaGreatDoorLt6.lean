/- Part 6 of a proof. No conditions. -/
import Derived.Test.YthpfocnocgnhjaaGreatDoorLt5
import Derived.Laws.MathBits
set_option maxRecDepth 100000
set_option linter.unusedVariables false
set_option linter.unusedSimpArgs false
namespace Go.Dx
open Go.IntKind (i64 u64 u8)
open Go.Sx Go.Proofs
variable (n0:Nat) (f0:aL) (x0:Int) (s0:ByteArray) (n1:Nat) (f1:aL) (x1:Int) (n2:Nat) (f2:aL) (x2:Int) (n3:Nat) (f3:aL) (x3 x4:Int) (n5:Nat) (f5:aL) (x5 x6:Int) (n7:Nat) (f7:aL) (x7 x8:Int) (b8:Bool) (n9:Nat) (f9:aL) (x9 x10:Int) (b10:Bool) (n11:Nat) (f11:aL) (x11 x12:Int) (n13:Nat) (f13:aL) (x13 x14:Int) (n15:Nat) (f15:aL) (x15 x16 x17 x18:Int) (s18:ByteArray) (x19 x20 x21 x22 x23 x24 x25 x26 x27 x28:Int)
noncomputable section
def xz:aZ:=(109,.inl PC u0)::(108,.con ab8)::Mm
theorem Sn:aO Tryz.prog eqs its xz:=eT Tryz.func109 bb (.con aef (RH))
inductive d6 where
 |L0 (ia0:Int) (na1:Nat) (ia2 ia3:Int) (na4:Nat)
 |L2 (ic0:Int) (nc1:Nat) (ic2 ic3:Int)
 |L4 (ie0:Int) (ne1:Nat) (ie2 ie3:Int) (ne4:Nat) (ie5:Int) (ne6:Nat) (ie7 ie8:Int)
 |L5 (if0:Int) (nf1:Nat) (if2 if3 if4:Int) (nf5:Nat) (if6 if7 if8:Int)
def Bw (l:List O):List O:=O.cells [V.str s0,V.sl n1 (aa ac f1),V.sl n3 (aa ac f3),V.sl n5 (aa [Ty.sl ac] f5),vi x7,vi x8,V.sl n9 (aa ac f9),V.sl n11 (aa ac f11),vi x13] 143::O.cells [vi x14,vi x15,vi x16,vi x17] 111::O.cells [vi 0,vi 0] 44::O.cells [vi (wI (1000*x16))] 3::O.cells [vi (wI (1000*x17))] 3::O.cells [vi (ca (aa [Ty.sl ac] f5) n9 (aa ac f9) n11 (aa ac f11) (wI (1000*x14)) (wI (1000*x17))),vi (cj (aa [Ty.sl ac] f5) x7 n9 (aa ac f9) n11 (aa ac f11) (wI (1000*x14)) (wI (1000*x17))),vi (ca (aa [Ty.sl ac] f5) n9 (aa ac f9) n11 (aa ac f11) (wI (1000*x15)) (wI (1000*x16))),vi (cj (aa [Ty.sl ac] f5) x7 n9 (aa ac f9) n11 (aa ac f11) (wI (1000*x15)) (wI (1000*x16))),vi (ca (aa [Ty.sl ac] f5) n9 (aa ac f9) n11 (aa ac f11) (wI (1000*x15)) (wI (1000*x17))),vi (cj (aa [Ty.sl ac] f5) x7 n9 (aa ac f9) n11 (aa ac f11) (wI (1000*x15)) (wI (1000*x17)))] 44::l
def yam:d6->bD×List O×Option Ex
 |.L0 ia0 na1 ia2 ia3 na4=>([(19,vi ia0),(18,vi (n11:Int)),(17,V.sl n11 (aa ac f11)),(16,V.kb false),(15,V.kb false),(14,V.kb true),(13,vi (wI (1000*x17))),(12,V.yl na1),(11,V.kb false),(10,V.kb false),(9,V.kb true),(8,vi (wI (1000*x16))),(7,V.yl na1),(0,V.yl na1),(1,V.pl 12 0),(2,V.pl 13 0),(3,V.pl 11 0)],Bw s0 n1 f1 n3 f3 n5 f5 x7 x8 n9 f9 n11 f11 x13 x14 x15 x16 x17 [O.cells [vi ia2,vi ia3] 44,O.cells [V.sl n9 (aa ac f9)] 32,O.cells [vi (wI (1000*x14))] 3,O.cells [vi (wI (1000*x15))] 3,O.cells [vi (wI (1000*x14))] 3,O.cells [V.sl n11 (aa ac f11)] 32,O.cells [vi (wI (1000*x16))] 3,O.cells [vi (wI (1000*x17))] 3],none)
 |.L2 ic0 nc1 ic2 ic3=>([(19,vi ic0),(18,vi (n9:Int)),(17,V.sl n9 (aa ac f9)),(16,V.kb false),(15,V.kb false),(14,V.kb true),(13,vi (wI (1000*x15))),(12,V.yl nc1),(11,V.kb false),(10,V.kb false),(9,V.kb true),(8,vi (wI (1000*x14))),(7,V.yl nc1),(0,V.yl nc1),(1,V.pl 8 0),(2,V.pl 9 0),(3,V.pl 7 0)],Bw s0 n1 f1 n3 f3 n5 f5 x7 x8 n9 f9 n11 f11 x13 x14 x15 x16 x17 [O.cells [vi ic2,vi ic3] 44,O.cells [V.sl n9 (aa ac f9)] 32,O.cells [vi (wI (1000*x14))] 3,O.cells [vi (wI (1000*x15))] 3],none)
 |.L4 ie0 ne1 ie2 ie3 ne4 ie5 ne6 ie7 ie8=>([(19,vi ie0),(18,vi (n11:Int)),(17,V.sl n11 (aa ac f11)),(16,V.kb false),(15,V.kb false),(14,V.kb true),(13,vi (wI (1000*x17))),(12,V.yl ne1),(11,V.kb false),(10,V.kb false),(9,V.kb true),(8,vi (wI (1000*x16))),(7,V.yl ne1),(0,V.yl ne1),(1,V.pl 16 0),(2,V.pl 17 0),(3,V.pl 15 0)],Bw s0 n1 f1 n3 f3 n5 f5 x7 x8 n9 f9 n11 f11 x13 x14 x15 x16 x17 [O.cells [vi ie2,vi ie3] 44,O.cells [V.sl n9 (aa ac f9)] 32,O.cells [vi (wI (1000*x14))] 3,O.cells [vi (wI (1000*x15))] 3,O.cells [vi (wI (1000*x14))] 3,O.cells [V.sl n11 (aa ac f11)] 32,O.cells [vi (wI (1000*x16))] 3,O.cells [vi (wI (1000*x17))] 3,O.cells [vi (wI (1000*x15))] 3,O.cells [V.sl n11 (aa ac f11)] 32,O.cells [vi (wI (1000*x16))] 3,O.cells [vi (wI (1000*x17))] 3],none)
 |.L5 if0 nf1 if2 if3 if4 nf5 if6 if7 if8=>([(19,vi if0),(18,vi (n11:Int)),(17,V.sl n11 (aa ac f11)),(16,V.kb false),(15,V.kb false),(14,V.kb true),(13,vi (wI (1000*x17))),(12,V.yl nf1),(11,V.kb false),(10,V.kb false),(9,V.kb true),(8,vi (wI (1000*x16))),(7,V.yl nf1),(0,V.yl nf1),(1,V.pl 12 0),(2,V.pl 13 0),(3,V.pl 11 0)],Bw s0 n1 f1 n3 f3 n5 f5 x7 x8 n9 f9 n11 f11 x13 x14 x15 x16 x17 [O.cells [vi if2,vi if3] 44,O.cells [V.sl n9 (aa ac f9)] 32,O.cells [vi (wI (1000*x14))] 3,O.cells [vi (wI (1000*x15))] 3,O.cells [vi if4] 3,O.cells [V.sl n11 (aa ac f11)] 32,O.cells [vi (wI (1000*x16))] 3,O.cells [vi (wI (1000*x17))] 3],none)
def afC:d6->JJ
 |.L0 ia0 na1 ia2 ia3 na4=>(0,[Cx.n na4,Cx.n na1])
 |.L2 ic0 nc1 ic2 ic3=>(2,[Cx.n nc1])
 |.L4 ie0 ne1 ie2 ie3 ne4 ie5 ne6 ie7 ie8=>(4,[Cx.n ne4,Cx.i ie5,Cx.n ne6,Cx.i ie7,Cx.i ie8,Cx.n ne1])
 |.L5 if0 nf1 if2 if3 if4 nf5 if6 if7 if8=>(5,[Cx.n nf5,Cx.i if6,Cx.i if7,Cx.i if8,Cx.n nf1])
def SN:T (ck JJ):=aV JJ xz u0 vK [V.agg [V.str s0,V.sl n1 (aa ac f1),V.sl n3 (aa ac f3),V.sl n5 (aa [Ty.sl ac] f5),vi x7,vi x8,V.sl n9 (aa ac f9),V.sl n11 (aa ac f11),vi x13],V.agg [vi x14,vi x15,vi x16,vi x17]]
def vG (cx:List Cx):Lp JJ:=fQ (eZ (US (eZ (US (eZ (SN s0 n1 f1 n3 f3 n5 f5 x7 x8 n9 f9 n11 f11 x13 x14 x15 x16 x17) []) (eC cx 0)) []) (eC cx 1)) [true,true])
def Cc (cx:List Cx):Lp JJ:=fQ (eZ (US (eZ (ua xz u0 (0,[.n (eC cx 0),.n (eC cx 2)]) (vG s0 n1 f1 n3 f3 n5 f5 x7 x8 n9 f9 n11 f11 x13 x14 x15 x16 x17 [.n (eC cx 0),.n (eC cx 2)]) (yam s0 n1 f1 n3 f3 n5 f5 x7 x8 n9 f9 n11 f11 x13 x14 x15 x16 x17 (.L0 (cH cx 1) (eC cx 2) (cH cx 3) (cH cx 4) (eC cx 0)))) [false]) (eC cx 5)) [true,true])
def D8 (cx:List Cx):Lp JJ:=fQ (eZ (ua xz u0 (4,[.n (eC cx 0),.i (0:Int),.n 0,.i (0:Int),.i (0:Int),.n 0]) (Cc s0 n1 f1 n3 f3 n5 f5 x7 x8 n9 f9 n11 f11 x13 x14 x15 x16 x17 [.n (eC cx 0),.i (0:Int),.n 0,.i (0:Int),.i (0:Int),.n 0]) (yam s0 n1 f1 n3 f3 n5 f5 x7 x8 n9 f9 n11 f11 x13 x14 x15 x16 x17 (.L4 (0:Int) 0 (0:Int) (0:Int) (eC cx 0) (0:Int) 0 (0:Int) (0:Int)))) [false])
def yba (cx:List Cx):Lp JJ:=fQ (eZ (US (eZ (ua xz u0 (2,[.n (eC cx 0)]) (D8 s0 n1 f1 n3 f3 n5 f5 x7 x8 n9 f9 n11 f11 x13 x14 x15 x16 x17 [.n (eC cx 0)]) (yam s0 n1 f1 n3 f3 n5 f5 x7 x8 n9 f9 n11 f11 x13 x14 x15 x16 x17 (.L2 (cH cx 1) (eC cx 0) (cH cx 2) (cH cx 3)))) [true,true]) (eC cx 4)) [true,true])
def aip:JJ->Lp JJ
 |(0,cx)=>vG s0 n1 f1 n3 f3 n5 f5 x7 x8 n9 f9 n11 f11 x13 x14 x15 x16 x17 cx
 |(2,cx)=>D8 s0 n1 f1 n3 f3 n5 f5 x7 x8 n9 f9 n11 f11 x13 x14 x15 x16 x17 cx
 |(4,cx)=>Cc s0 n1 f1 n3 f3 n5 f5 x7 x8 n9 f9 n11 f11 x13 x14 x15 x16 x17 cx
 |(5,cx)=>yba s0 n1 f1 n3 f3 n5 f5 x7 x8 n9 f9 n11 f11 x13 x14 x15 x16 x17 cx
 |(_,cx)=>vG s0 n1 f1 n3 f3 n5 f5 x7 x8 n9 f9 n11 f11 x13 x14 x15 x16 x17 cx
def ank:LD JJ d6:=⟨afC,aip s0 n1 f1 n3 f3 n5 f5 x7 x8 n9 f9 n11 f11 x13 x14 x15 x16 x17,yam s0 n1 f1 n3 f3 n5 f5 x7 x8 n9 f9 n11 f11 x13 x14 x15 x16 x17⟩
def Hz:=aa aJ (bc [vi (ca (aa [Ty.sl ac] f5) n9 (aa ac f9) n11 (aa ac f11) (wI (1000*x14)) (wI (1000*x17))),vi (cj (aa [Ty.sl ac] f5) x7 n9 (aa ac f9) n11 (aa ac f11) (wI (1000*x14)) (wI (1000*x17))),vi (ca (aa [Ty.sl ac] f5) n9 (aa ac f9) n11 (aa ac f11) (wI (1000*x15)) (wI (1000*x16))),vi (cj (aa [Ty.sl ac] f5) x7 n9 (aa ac f9) n11 (aa ac f11) (wI (1000*x15)) (wI (1000*x16))),vi (ca (aa [Ty.sl ac] f5) n9 (aa ac f9) n11 (aa ac f11) (wI (1000*x15)) (wI (1000*x17))),vi (cj (aa [Ty.sl ac] f5) x7 n9 (aa ac f9) n11 (aa ac f11) (wI (1000*x15)) (wI (1000*x17)))] 0 2)
def ej:=((2:Nat)<=n9/\n9<=(1000:Nat))/\((2:Nat)<=n11/\n11<=(1000:Nat))/\n9<=n5/\(∀ (i:Nat),i<n5->n11<=aN (aE (f5 i)))/\(∀ (i:Nat),i+(1:Nat)<n9->wI (aw (f9 (i+(1:Nat)))-aw (f9 i))≠(0:Int))/\∀ (i:Nat),i+(1:Nat)<n11->wI (aw (f11 (i+(1:Nat)))-aw (f11 i))≠(0:Int)
def uP:=aa aJ (bc [vi (ca (aa [Ty.sl ac] f5) n9 (aa ac f9) n11 (aa ac f11) (wI (1000*x15)) (wI (1000*x16))),vi (cj (aa [Ty.sl ac] f5) x7 n9 (aa ac f9) n11 (aa ac f11) (wI (1000*x15)) (wI (1000*x16)))] 0 2)
def uD:=aa aJ (bc [vi (ca (aa [Ty.sl ac] f5) n9 (aa ac f9) n11 (aa ac f11) (wI (1000*x15)) (wI (1000*x17))),vi (cj (aa [Ty.sl ac] f5) x7 n9 (aa ac f9) n11 (aa ac f11) (wI (1000*x15)) (wI (1000*x17)))] 0 2)
def uE:=aa aJ (bc [vi (ca (aa [Ty.sl ac] f5) n9 (aa ac f9) n11 (aa ac f11) (wI (1000*x14)) (wI (1000*x16))),vi (cj (aa [Ty.sl ac] f5) x7 n9 (aa ac f9) n11 (aa ac f11) (wI (1000*x14)) (wI (1000*x16)))] 0 2)
def uz:=aa aJ (bc [vi (ca (aa [Ty.sl ac] f5) n9 (aa ac f9) n11 (aa ac f11) (wI (1000*x14)) (wI (1000*x17))),vi (cj (aa [Ty.sl ac] f5) x7 n9 (aa ac f9) n11 (aa ac f11) (wI (1000*x14)) (wI (1000*x17)))] 0 2)
def uv (x16 ic0:Int):=aa aJ (bc [vi (ca (aa [Ty.sl ac] f5) n9 (aa ac f9) n11 (aa ac f11) (aw (f9 ic0.toNat)) (wI (1000*x16))),vi (cj (aa [Ty.sl ac] f5) x7 n9 (aa ac f9) n11 (aa ac f11) (aw (f9 ic0.toNat)) (wI (1000*x16)))] 0 2)
def uM (x17 ic0:Int):=aa aJ (bc [vi (ca (aa [Ty.sl ac] f5) n9 (aa ac f9) n11 (aa ac f11) (aw (f9 ic0.toNat)) (wI (1000*x17))),vi (cj (aa [Ty.sl ac] f5) x7 n9 (aa ac f9) n11 (aa ac f11) (aw (f9 ic0.toNat)) (wI (1000*x17)))] 0 2)
def uS:=du (cj (aa [Ty.sl ac] f5) x7 n9 (aa ac f9) n11 (aa ac f11) (wI (1000*x14)) (wI (1000*x16))) 3 (Hz f5 x7 n9 f9 n11 f11 x14 x15 x16 x17)
def q7:=dt (ca (aa [Ty.sl ac] f5) n9 (aa ac f9) n11 (aa ac f11) (wI (1000*x14)) (wI (1000*x16))) 3 (Hz f5 x7 n9 f9 n11 f11 x14 x15 x16 x17)
def DU (x14 ia0:Int):=aa aJ (bc [vi (ca (aa [Ty.sl ac] f5) n9 (aa ac f9) n11 (aa ac f11) (wI (1000*x14)) (aw (f11 ia0.toNat))),vi (cj (aa [Ty.sl ac] f5) x7 n9 (aa ac f9) n11 (aa ac f11) (wI (1000*x14)) (aw (f11 ia0.toNat)))] 0 2)
def BU (x15 ie0:Int):=aa aJ (bc [vi (ca (aa [Ty.sl ac] f5) n9 (aa ac f9) n11 (aa ac f11) (wI (1000*x15)) (aw (f11 ie0.toNat))),vi (cj (aa [Ty.sl ac] f5) x7 n9 (aa ac f9) n11 (aa ac f11) (wI (1000*x15)) (aw (f11 ie0.toNat)))] 0 2)
def D3 (if0 if4:Int):=aa aJ (bc [vi (ca (aa [Ty.sl ac] f5) n9 (aa ac f9) n11 (aa ac f11) if4 (aw (f11 if0.toNat))),vi (cj (aa [Ty.sl ac] f5) x7 n9 (aa ac f9) n11 (aa ac f11) if4 (aw (f11 if0.toNat)))] 0 2)
def xB (x16 x17 ia0:Int):=bif decide (wI (1000*x16)<aw (f11 ia0.toNat)) then decide (aw (f11 ia0.toNat)<wI (1000*x17)) else false
def xE (x16 x17 ie0:Int):=bif decide (wI (1000*x16)<aw (f11 ie0.toNat)) then decide (aw (f11 ie0.toNat)<wI (1000*x17)) else false
def xG (x16 x17 if0:Int):=bif decide (wI (1000*x16)<aw (f11 if0.toNat)) then decide (aw (f11 if0.toNat)<wI (1000*x17)) else false
def wH (x14 x15 ic0:Int):=bif decide (wI (1000*x14)<aw (f9 ic0.toNat)) then decide (aw (f9 ic0.toNat)<wI (1000*x15)) else false
def fH (s0:ByteArray) (n1:Nat) (f1:aL) (n3:Nat) (f3:aL) (n5:Nat) (f5:aL) (x7 x8:Int) (n9:Nat) (f9:aL) (n11:Nat) (f11:aL) (x13 x14 x15 x16 x17:Int):d6->RT d6
 |.L0 ia0 na1 ia2 ia3 na4=>.br (decide (ia0<(n11:Int))) (.ob (dI ia0 n11) (.ii (.obi (.br (xB f11 x16 x17 ia0) (.ob (xB f11 x16 x17 ia0) (.ob (xB f11 x16 x17 ia0) (.obp (((1:Nat)<=n9/\n9<=(1000:Nat))/\(1:Nat)<=n11/\n11<=(1000:Nat)) (.obt (.br (bJ n9 (aa ac f9) n11 (aa ac f11) (wI (1000*x14)) (aw (f11 ia0.toNat))) (.obp (ej n5 f5 n9 f9 n11 f11) (.obt (.cb (.next (iR 0 14 []) (d6.L0 (wI (ia0+1)) na1 (dt ia2 1 (DU f5 x7 n9 f9 n11 f11 x14 ia0)) (du ia3 1 (DU f5 x7 n9 f9 n11 f11 x14 ia0)) na4) [])))) (.next (iR 0 14 []) (d6.L0 (wI (ia0+1)) na1 ia2 ia3 na4) [])))))) (.next (iR 0 14 []) (d6.L0 (wI (ia0+1)) na1 ia2 ia3 na4) []))))) (.all (fun l_12647=>.obp (((1:Nat)<=n9/\n9<=(1000:Nat))/\(1:Nat)<=n11/\n11<=(1000:Nat)) (.obt (.br (bJ n9 (aa ac f9) n11 (aa ac f11) (wI (1000*x15)) (wI (1000*x16))) (.obp (ej n5 f5 n9 f9 n11 f11) (.obt (.cb (.obp (((1:Nat)<=n9/\n9<=(1000:Nat))/\(1:Nat)<=n11/\n11<=(1000:Nat)) (.obt (.br (bJ n9 (aa ac f9) n11 (aa ac f11) (wI (1000*x15)) (wI (1000*x17))) (.obp (ej n5 f5 n9 f9 n11 f11) (.obt (.cb (.am n11 (.enter (iR 0 18 []) (d6.L4 0 (l_12647) (dt (dt ia2 1 (uP f5 x7 n9 f9 n11 f11 x15 x16)) 1 (uD f5 x7 n9 f9 n11 f11 x15 x17)) (du (du ia3 1 (uP f5 x7 n9 f9 n11 f11 x15 x16)) 1 (uD f5 x7 n9 f9 n11 f11 x15 x17)) na4 ia0 na1 ia2 ia3) []))))) (.am n11 (.enter (iR 0 18 []) (d6.L4 0 (l_12647) (dt ia2 1 (uP f5 x7 n9 f9 n11 f11 x15 x16)) (du ia3 1 (uP f5 x7 n9 f9 n11 f11 x15 x16)) na4 ia0 na1 ia2 ia3) [])))))))) (.obp (((1:Nat)<=n9/\n9<=(1000:Nat))/\(1:Nat)<=n11/\n11<=(1000:Nat)) (.obt (.br (bJ n9 (aa ac f9) n11 (aa ac f11) (wI (1000*x15)) (wI (1000*x17))) (.obp (ej n5 f5 n9 f9 n11 f11) (.obt (.cb (.am n11 (.enter (iR 0 18 []) (d6.L4 0 (l_12647) (dt ia2 1 (uD f5 x7 n9 f9 n11 f11 x15 x17)) (du ia3 1 (uD f5 x7 n9 f9 n11 f11 x15 x17)) na4 ia0 na1 ia2 ia3) []))))) (.am n11 (.enter (iR 0 18 []) (d6.L4 0 (l_12647) ia2 ia3 na4 ia0 na1 ia2 ia3) [])))))))))
 |.L2 ic0 nc1 ic2 ic3=>.br (decide (ic0<(n9:Int))) (.ob (dI ic0 n9) (.ii (.obi (.br (wH f9 x14 x15 ic0) (.ob (wH f9 x14 x15 ic0) (.ob (wH f9 x14 x15 ic0) (.all (fun l_12833=>.obp (((1:Nat)<=n9/\n9<=(1000:Nat))/\(1:Nat)<=n11/\n11<=(1000:Nat)) (.obt (.br (bJ n9 (aa ac f9) n11 (aa ac f11) (aw (f9 ic0.toNat)) (wI (1000*x16))) (.obp (ej n5 f5 n9 f9 n11 f11) (.obt (.cb (.obp (((1:Nat)<=n9/\n9<=(1000:Nat))/\(1:Nat)<=n11/\n11<=(1000:Nat)) (.obt (.br (bJ n9 (aa ac f9) n11 (aa ac f11) (aw (f9 ic0.toNat)) (wI (1000*x17))) (.obp (ej n5 f5 n9 f9 n11 f11) (.obt (.cb (.am n11 (.enter (iR 0 14 []) (d6.L5 0 (l_12833) (dt (dt ic2 1 (uv f5 x7 n9 f9 n11 f11 x16 ic0)) 1 (uM f5 x7 n9 f9 n11 f11 x17 ic0)) (du (du ic3 1 (uv f5 x7 n9 f9 n11 f11 x16 ic0)) 1 (uM f5 x7 n9 f9 n11 f11 x17 ic0)) (aw (f9 ic0.toNat)) nc1 ic0 ic2 ic3) []))))) (.am n11 (.enter (iR 0 14 []) (d6.L5 0 (l_12833) (dt ic2 1 (uv f5 x7 n9 f9 n11 f11 x16 ic0)) (du ic3 1 (uv f5 x7 n9 f9 n11 f11 x16 ic0)) (aw (f9 ic0.toNat)) nc1 ic0 ic2 ic3) [])))))))) (.obp (((1:Nat)<=n9/\n9<=(1000:Nat))/\(1:Nat)<=n11/\n11<=(1000:Nat)) (.obt (.br (bJ n9 (aa ac f9) n11 (aa ac f11) (aw (f9 ic0.toNat)) (wI (1000*x17))) (.obp (ej n5 f5 n9 f9 n11 f11) (.obt (.cb (.am n11 (.enter (iR 0 14 []) (d6.L5 0 (l_12833) (dt ic2 1 (uM f5 x7 n9 f9 n11 f11 x17 ic0)) (du ic3 1 (uM f5 x7 n9 f9 n11 f11 x17 ic0)) (aw (f9 ic0.toNat)) nc1 ic0 ic2 ic3) []))))) (.am n11 (.enter (iR 0 14 []) (d6.L5 0 (l_12833) ic2 ic3 (aw (f9 ic0.toNat)) nc1 ic0 ic2 ic3) []))))))))))) (.next (iR 0 10 []) (d6.L2 (wI (ic0+1)) nc1 ic2 ic3) []))))) (.ret (V.agg [vi ic2,vi ic3]))
 |.L4 ie0 ne1 ie2 ie3 ne4 ie5 ne6 ie7 ie8=>.br (decide (ie0<(n11:Int))) (.ob (dI ie0 n11) (.ii (.obi (.br (xE f11 x16 x17 ie0) (.ob (xE f11 x16 x17 ie0) (.ob (xE f11 x16 x17 ie0) (.obp (((1:Nat)<=n9/\n9<=(1000:Nat))/\(1:Nat)<=n11/\n11<=(1000:Nat)) (.obt (.br (bJ n9 (aa ac f9) n11 (aa ac f11) (wI (1000*x15)) (aw (f11 ie0.toNat))) (.obp (ej n5 f5 n9 f9 n11 f11) (.obt (.cb (.next (iR 0 18 []) (d6.L4 (wI (ie0+1)) ne1 (dt ie2 1 (BU f5 x7 n9 f9 n11 f11 x15 ie0)) (du ie3 1 (BU f5 x7 n9 f9 n11 f11 x15 ie0)) ne4 ie5 ne6 ie7 ie8) [])))) (.next (iR 0 18 []) (d6.L4 (wI (ie0+1)) ne1 ie2 ie3 ne4 ie5 ne6 ie7 ie8) [])))))) (.next (iR 0 18 []) (d6.L4 (wI (ie0+1)) ne1 ie2 ie3 ne4 ie5 ne6 ie7 ie8) []))))) (.am n9 (.enter (iR 0 10 []) (d6.L2 0 ne4 ie2 ie3) []))
 |.L5 if0 nf1 if2 if3 if4 nf5 if6 if7 if8=>.br (decide (if0<(n11:Int))) (.ob (dI if0 n11) (.ii (.obi (.br (xG f11 x16 x17 if0) (.ob (xG f11 x16 x17 if0) (.ob (xG f11 x16 x17 if0) (.obp (((1:Nat)<=n9/\n9<=(1000:Nat))/\(1:Nat)<=n11/\n11<=(1000:Nat)) (.obt (.br (bJ n9 (aa ac f9) n11 (aa ac f11) if4 (aw (f11 if0.toNat))) (.obp (ej n5 f5 n9 f9 n11 f11) (.obt (.cb (.next (iR 0 14 []) (d6.L5 (wI (if0+1)) nf1 (dt if2 1 (D3 f5 x7 n9 f9 n11 f11 if0 if4)) (du if3 1 (D3 f5 x7 n9 f9 n11 f11 if0 if4)) if4 nf5 if6 if7 if8) [])))) (.next (iR 0 14 []) (d6.L5 (wI (if0+1)) nf1 if2 if3 if4 nf5 if6 if7 if8) [])))))) (.next (iR 0 14 []) (d6.L5 (wI (if0+1)) nf1 if2 if3 if4 nf5 if6 if7 if8) []))))) (.next (iR 0 10 []) (d6.L2 (wI (if6+1)) nf5 if2 if3) [])
def aaG:RT d6:=dm (s0,n1,f1,n3,f3,x8,x13) (.obp (ej n5 f5 n9 f9 n11 f11) (.obt (.obp (ej n5 f5 n9 f9 n11 f11) (.obt (.obp (ej n5 f5 n9 f9 n11 f11) (.obt (.obp (ej n5 f5 n9 f9 n11 f11) (.obt (.cb (.all (fun l_12550=>.all (fun l_12551=>.obp (((1:Nat)<=n9/\n9<=(1000:Nat))/\(1:Nat)<=n11/\n11<=(1000:Nat)) (.obt (.br (bJ n9 (aa ac f9) n11 (aa ac f11) (wI (1000*x14)) (wI (1000*x16))) (.obp (ej n5 f5 n9 f9 n11 f11) (.obt (.cb (.obp (((1:Nat)<=n9/\n9<=(1000:Nat))/\(1:Nat)<=n11/\n11<=(1000:Nat)) (.obt (.br (bJ n9 (aa ac f9) n11 (aa ac f11) (wI (1000*x14)) (wI (1000*x17))) (.obp (ej n5 f5 n9 f9 n11 f11) (.obt (.cb (.am n11 (.enter (iR 0 14 []) (d6.L0 0 (l_12551) (dt (dt (q7 f5 x7 n9 f9 n11 f11 x14 x15 x16 x17) 1 (uE f5 x7 n9 f9 n11 f11 x14 x16)) 1 (uz f5 x7 n9 f9 n11 f11 x14 x17)) (du (du (uS f5 x7 n9 f9 n11 f11 x14 x15 x16 x17) 1 (uE f5 x7 n9 f9 n11 f11 x14 x16)) 1 (uz f5 x7 n9 f9 n11 f11 x14 x17)) (l_12550)) []))))) (.am n11 (.enter (iR 0 14 []) (d6.L0 0 (l_12551) (dt (q7 f5 x7 n9 f9 n11 f11 x14 x15 x16 x17) 1 (uE f5 x7 n9 f9 n11 f11 x14 x16)) (du (uS f5 x7 n9 f9 n11 f11 x14 x15 x16 x17) 1 (uE f5 x7 n9 f9 n11 f11 x14 x16)) (l_12550)) [])))))))) (.obp (((1:Nat)<=n9/\n9<=(1000:Nat))/\(1:Nat)<=n11/\n11<=(1000:Nat)) (.obt (.br (bJ n9 (aa ac f9) n11 (aa ac f11) (wI (1000*x14)) (wI (1000*x17))) (.obp (ej n5 f5 n9 f9 n11 f11) (.obt (.cb (.am n11 (.enter (iR 0 14 []) (d6.L0 0 (l_12551) (dt (q7 f5 x7 n9 f9 n11 f11 x14 x15 x16 x17) 1 (uz f5 x7 n9 f9 n11 f11 x14 x17)) (du (uS f5 x7 n9 f9 n11 f11 x14 x15 x16 x17) 1 (uz f5 x7 n9 f9 n11 f11 x14 x17)) (l_12550)) []))))) (.am n11 (.enter (iR 0 14 []) (d6.L0 0 (l_12551) (q7 f5 x7 n9 f9 n11 f11 x14 x15 x16 x17) (uS f5 x7 n9 f9 n11 f11 x14 x15 x16 x17) (l_12550)) [])))))))))))))))))))
theorem WU:eS xz u0 (ank s0 n1 f1 n3 f3 n5 f5 x7 x8 n9 f9 n11 f11 x13 x14 x15 x16 x17) (SN s0 n1 f1 n3 f3 n5 f5 x7 x8 n9 f9 n11 f11 x13 x14 x15 x16 x17) (aaG s0 n1 f1 n3 f3 n5 f5 x7 x8 n9 f9 n11 f11 x13 x14 x15 x16 x17) (fH s0 n1 f1 n3 f3 n5 f5 x7 x8 n9 f9 n11 f11 x13 x14 x15 x16 x17):=⟨bF,fun s=>by cases s<;>exact bF⟩
def ovS (u v:Int) (o:Int×Int):Int×Int:=bif bJ n9 f9 n11 f11 u v then(min o.1 (ca f5 n9 f9 n11 f11 u v),max o.2 (cj f5 x7 n9 f9 n11 f11 u v)) else o
def UY (lo hi v:Int):Bool:=bif decide (lo<v) then decide (v<hi) else false
def Fc (f5:aL) (x7:Int) (n9:Nat) (f9:aL) (n11:Nat) (f11:aL) (y0 y1 u:Int) (o:Int×Int):Nat->Int×Int
 |0=>o
 |k+1=>bif UY y0 y1 (aw (f11 k)) then ovS f5 x7 n9 f9 n11 f11 u (aw (f11 k)) (Fc f5 x7 n9 f9 n11 f11 y0 y1 u o k) else Fc f5 x7 n9 f9 n11 f11 y0 y1 u o k
def II (y0 y1 u:Int) (o:Int×Int):Int×Int:=ovS f5 x7 n9 f9 n11 f11 u y1 (ovS f5 x7 n9 f9 n11 f11 u y0 o)
def ovR (y0 y1 u:Int) (o:Int×Int):Int×Int:=Fc f5 x7 n9 f9 n11 f11 y0 y1 u (II f5 x7 n9 f9 n11 f11 y0 y1 u o) n11
def L8 (f5:aL) (x7:Int) (n9:Nat) (f9:aL) (n11:Nat) (f11:aL) (x0 x1 y0 y1:Int) (o:Int×Int):Nat->Int×Int
 |0=>o
 |k+1=>bif UY x0 x1 (aw (f9 k)) then ovR f5 x7 n9 f9 n11 f11 y0 y1 (aw (f9 k)) (L8 f5 x7 n9 f9 n11 f11 x0 x1 y0 y1 o k) else L8 f5 x7 n9 f9 n11 f11 x0 x1 y0 y1 o k
def ovH (x0 x1 y0 y1:Int):Int×Int:=(min (min (min (ca f5 n9 f9 n11 f11 x0 y0) (ca f5 n9 f9 n11 f11 x0 y1)) (ca f5 n9 f9 n11 f11 x1 y0)) (ca f5 n9 f9 n11 f11 x1 y1),max (max (max (cj f5 x7 n9 f9 n11 f11 x0 y0) (cj f5 x7 n9 f9 n11 f11 x0 y1)) (cj f5 x7 n9 f9 n11 f11 x1 y0)) (cj f5 x7 n9 f9 n11 f11 x1 y1))
def ovA (x0 x1 y0 y1:Int):Int×Int:=L8 f5 x7 n9 f9 n11 f11 x0 x1 y0 y1 (ovR f5 x7 n9 f9 n11 f11 y0 y1 x1 (ovR f5 x7 n9 f9 n11 f11 y0 y1 x0 (ovH f5 x7 n9 f9 n11 f11 x0 x1 y0 y1))) n9
def il:Int:=(ovA f5 x7 n9 f9 n11 f11 (wI (1000*x14)) (wI (1000*x15)) (wI (1000*x16)) (wI (1000*x17))).1
def im:Int:=(ovA f5 x7 n9 f9 n11 f11 (wI (1000*x14)) (wI (1000*x15)) (wI (1000*x16)) (wI (1000*x17))).2
theorem vX {f5:aL} {x7:Int} {n9:Nat} {f9:aL} {n11:Nat} {f11:aL} {u v:Int} {o:Int×Int} (h:bJ n9 f9 n11 f11 u v=true):ovS f5 x7 n9 f9 n11 f11 u v o=(min o.1 (ca f5 n9 f9 n11 f11 u v),max o.2 (cj f5 x7 n9 f9 n11 f11 u v)):=by unfold ovS;rw[h];rfl
theorem xd {f5:aL} {x7:Int} {n9:Nat} {f9:aL} {n11:Nat} {f11:aL} {u v:Int} {o:Int×Int} (h:bJ n9 f9 n11 f11 u v=false):ovS f5 x7 n9 f9 n11 f11 u v o=o:=by unfold ovS;rw[h];rfl
theorem yt {f5:aL} {x7:Int} {n9:Nat} {f9:aL} {n11:Nat} {f11:aL} {y0 y1 u:Int} {o:Int×Int} {k:Nat} (h:(bif decide (y0<aw (f11 k)) then decide (aw (f11 k)<y1) else false)=true):Fc f5 x7 n9 f9 n11 f11 y0 y1 u o (k+1)=ovS f5 x7 n9 f9 n11 f11 u (aw (f11 k)) (Fc f5 x7 n9 f9 n11 f11 y0 y1 u o k):=by
 show (bif UY _ _ _ then _ else _)=_
 rw [show UY y0 y1 (aw (f11 k))=true from h];rfl
theorem R0 {f5:aL} {x7:Int} {n9:Nat} {f9:aL} {n11:Nat} {f11:aL} {y0 y1 u:Int} {o:Int×Int} {k:Nat} (h:(bif decide (y0<aw (f11 k)) then decide (aw (f11 k)<y1) else false)=false):Fc f5 x7 n9 f9 n11 f11 y0 y1 u o (k+1)=Fc f5 x7 n9 f9 n11 f11 y0 y1 u o k:=by
 show (bif UY _ _ _ then _ else _)=_
 rw [show UY y0 y1 (aw (f11 k))=false from h];rfl
theorem aow {f5:aL} {x7:Int} {n9:Nat} {f9:aL} {n11:Nat} {f11:aL} {x0 x1 y0 y1:Int} {o:Int×Int} {k:Nat} (h:(bif decide (x0<aw (f9 k)) then decide (aw (f9 k)<x1) else false)=true):L8 f5 x7 n9 f9 n11 f11 x0 x1 y0 y1 o (k+1)=ovR f5 x7 n9 f9 n11 f11 y0 y1 (aw (f9 k)) (L8 f5 x7 n9 f9 n11 f11 x0 x1 y0 y1 o k):=by
 show (bif UY _ _ _ then _ else _)=_
 rw [show UY x0 x1 (aw (f9 k))=true from h];rfl
theorem aj8 {f5:aL} {x7:Int} {n9:Nat} {f9:aL} {n11:Nat} {f11:aL} {x0 x1 y0 y1:Int} {o:Int×Int} {k:Nat} (h:(bif decide (x0<aw (f9 k)) then decide (aw (f9 k)<x1) else false)=false):L8 f5 x7 n9 f9 n11 f11 x0 x1 y0 y1 o (k+1)=L8 f5 x7 n9 f9 n11 f11 x0 x1 y0 y1 o k:=by
 show (bif UY _ _ _ then _ else _)=_
 rw [show UY x0 x1 (aw (f9 k))=false from h];rfl
theorem FN {f5:aL} {x7:Int} {n9:Nat} {f9:aL} {n11:Nat} {f11:aL} {y0 y1 u:Int} {o:Int×Int} (h:bJ n9 f9 n11 f11 u y0=true) (k:bJ n9 f9 n11 f11 u y1=true):II f5 x7 n9 f9 n11 f11 y0 y1 u o=(min (min o.1 (ca f5 n9 f9 n11 f11 u y0)) (ca f5 n9 f9 n11 f11 u y1),max (max o.2 (cj f5 x7 n9 f9 n11 f11 u y0)) (cj f5 x7 n9 f9 n11 f11 u y1)):=by unfold II;rw[vX k,vX h]
theorem FE {f5:aL} {x7:Int} {n9:Nat} {f9:aL} {n11:Nat} {f11:aL} {y0 y1 u:Int} {o:Int×Int} (h:bJ n9 f9 n11 f11 u y0=true) (k:bJ n9 f9 n11 f11 u y1=false):II f5 x7 n9 f9 n11 f11 y0 y1 u o=(min o.1 (ca f5 n9 f9 n11 f11 u y0),max o.2 (cj f5 x7 n9 f9 n11 f11 u y0)):=by unfold II;rw[xd k,vX h]
theorem Eu {f5:aL} {x7:Int} {n9:Nat} {f9:aL} {n11:Nat} {f11:aL} {y0 y1 u:Int} {o:Int×Int} (h:bJ n9 f9 n11 f11 u y0=false) (k:bJ n9 f9 n11 f11 u y1=true):II f5 x7 n9 f9 n11 f11 y0 y1 u o=(min o.1 (ca f5 n9 f9 n11 f11 u y1),max o.2 (cj f5 x7 n9 f9 n11 f11 u y1)):=by unfold II;rw[vX k,xd h]
theorem Gm {f5:aL} {x7:Int} {n9:Nat} {f9:aL} {n11:Nat} {f11:aL} {y0 y1 u:Int} {o:Int×Int} (h:bJ n9 f9 n11 f11 u y0=false) (k:bJ n9 f9 n11 f11 u y1=false):II f5 x7 n9 f9 n11 f11 y0 y1 u o=o:=by unfold II;rw[xd k,xd h]
section
variable {S:Type} {Nx:S->V->Prop} {r:V}
include S Nx r
theorem FA {H Q:Prop} {h0 h1:Bool} {T11 T10 T01 T00:RT S} (hH:H) (hQ:Q) (t11:h0=true->h1=true->aX Nx T11 r) (t10:h0=true->h1=false->aX Nx T10 r) (t01:h0=false->h1=true->aX Nx T01 r) (t00:h0=false->h1=false->aX Nx T00 r) :
 aX Nx (.obp H (.obt (.br h0 (.obp Q (.obt (.obc (.obt (.obp H (.obt (.br h1 (.obp Q (.obt (.obc (.obt T11)))) T10))))))) (.obp H (.obt (.br h1 (.obp Q (.obt (.obc (.obt T01)))) T00)))))) r :=
 evObp hH (evObt (evBr (fun a=>evObp hQ (evObt (au (evObt (evObp hH (evObt (evBr (fun c=>evObp hQ (evObt (au (evObt (t11 a c))))) (fun c=>t10 a c)))))))) (fun a=>evObp hH (evObt (evBr (fun c=>evObp hQ (evObt (au (evObt (t01 a c))))) (fun c=>t00 a c))))))
theorem TT {H Q:Prop} {c0 c d h:Bool} {T1 T2 T3:RT S} (hc:c0=true) (hH:H) (hQ:Q) (t1:c=true->h=true->aX Nx T1 r) (t2:c=true->h=false->aX Nx T2 r) (t3:c=false->aX Nx T3 r) :
 aX Nx (.ob c0 (.obi (.obi (.obi (.br c (.ob c (.ob c (.obp H (.obt (.br h (.obp Q (.obt (.obc (.obt T1)))) T2))))) T3))))) r :=
 aD hc (evObi (evObi (evObi (evBr (fun a=>aD a (aD a (evObp hH (evObt (evBr (fun e=>evObp hQ (evObt (au (evObt (t1 a e))))) (fun e=>t2 a e)))))) (fun a=>t3 a)))))
theorem Nb {c0 c:Bool} {T1 T3:RT S} (hc:c0=true) (t1:c=true->aX Nx T1 r) (t3:c=false->aX Nx T3 r) :
 aX Nx (.ob c0 (.obi (.obi (.obi (.br c (.ob c (.ob c T1)) T3))))) r :=
 aD hc (evObi (evObi (evObi (evBr (fun a=>aD a (aD a (t1 a))) t3))))
end
def ov0:Int×Int:=ovH (aa [Ty.sl ac] f5) x7 n9 (aa ac f9) n11 (aa ac f11) (wI (1000*x14)) (wI (1000*x15)) (wI (1000*x16)) (wI (1000*x17))
def UJ:Int×Int:=ovR (aa [Ty.sl ac] f5) x7 n9 (aa ac f9) n11 (aa ac f11) (wI (1000*x16)) (wI (1000*x17)) (wI (1000*x14)) (ov0 f5 x7 n9 f9 n11 f11 x14 x15 x16 x17)
def ov2:Int×Int:=ovR (aa [Ty.sl ac] f5) x7 n9 (aa ac f9) n11 (aa ac f11) (wI (1000*x16)) (wI (1000*x17)) (wI (1000*x15)) (UJ f5 x7 n9 f9 n11 f11 x14 x15 x16 x17)
section
variable (s0:ByteArray) (n1:Nat) (f1:aL) (n3:Nat) (f3:aL) (n5:Nat) (f5:aL) (x7:Int) (x8:Int) (n9:Nat) (f9:aL) (n11:Nat) (f11:aL) (x13:Int) (x14:Int) (x15:Int) (x16:Int) (x17:Int) (hp:mI n5 (aa [Ty.sl ac] f5) n9 (aa ac f9) n11 (aa ac f11))
include hp
theorem WE (u i0 o1 o2:Int) (o:Int×Int) (nx:∃ N,∀ l1,rW (fH s0 n1 f1 n3 f3 n5 f5 x7 x8 n9 f9 n11 f11 x13 x14 x15 x16 x17) N (.L2 (wI (i0+1)) l1 (Fc (aa [Ty.sl ac] f5) x7 n9 (aa ac f9) n11 (aa ac f11) (wI (1000*x16)) (wI (1000*x17)) u o n11).1 (Fc (aa [Ty.sl ac] f5) x7 n9 (aa ac f9) n11 (aa ac f11) (wI (1000*x16)) (wI (1000*x17)) u o n11).2) (.agg [vi (il (aa [Ty.sl ac] f5) x7 n9 (aa ac f9) n11 (aa ac f11) x14 x15 x16 x17),vi (im (aa [Ty.sl ac] f5) x7 n9 (aa ac f9) n11 (aa ac f11) x14 x15 x16 x17)])):∀ k,k<=n11->∃ N,∀ l0 l1,rW (fH s0 n1 f1 n3 f3 n5 f5 x7 x8 n9 f9 n11 f11 x13 x14 x15 x16 x17) N (.L5 (k:Int) l0 (Fc (aa [Ty.sl ac] f5) x7 n9 (aa ac f9) n11 (aa ac f11) (wI (1000*x16)) (wI (1000*x17)) u o k).1 (Fc (aa [Ty.sl ac] f5) x7 n9 (aa ac f9) n11 (aa ac f11) (wI (1000*x16)) (wI (1000*x17)) u o k).2 u l1 i0 o1 o2) (.agg [vi (il (aa [Ty.sl ac] f5) x7 n9 (aa ac f9) n11 (aa ac f11) x14 x15 x16 x17),vi (im (aa [Ty.sl ac] f5) x7 n9 (aa ac f9) n11 (aa ac f11) x14 x15 x16 x17)]):=by
 refine dO fun k hk ih=>?_
 have hb:=hp.b
 by_cases hlt:k<n11
 ·have hw:wI ((k:Int)+1)=((k+1:Nat):Int):=by rw[wrapI (by omega) (by omega)];omega
  obtain ⟨N,ih⟩:=ih hlt
  refine ⟨N+1,fun l0 l1=>?_⟩
  have ih:=ih l0 l1
  refine (show aX (rW (fH s0 n1 f1 n3 f3 n5 f5 x7 x8 n9 f9 n11 f11 x13 x14 x15 x16 x17) N) _ _ from ?_)
  refine cI (dqt (by omega)) (TT (d:=true) (dqt (by omega)) (Me hp) hp (fun a e=>aS ?_) (fun a e=>aS ?_) (fun a=>aS ?_))
  ·rw[hw]
   have e:bJ n9 (aa ac f9) n11 (aa ac f11) u (aw ((aa ac f11) k))=true:=e
   rw [yt (f11:=(aa ac f11)) (k:=k) a,vX e]at ih
   exact ih
  ·rw[hw]
   have e:bJ n9 (aa ac f9) n11 (aa ac f11) u (aw ((aa ac f11) k))=false:=e
   rw [yt (f11:=(aa ac f11)) (k:=k) a,xd e]at ih
   exact ih
  ·rw[hw]
   rw [R0 (f11:=(aa ac f11)) (k:=k) a]at ih
   exact ih
 ·have e:k=n11:=by omega
  obtain ⟨M,nx⟩:=nx
  refine ⟨M+1,fun l0 l1=>?_⟩
  refine (show aX (rW (fH s0 n1 f1 n3 f3 n5 f5 x7 x8 n9 f9 n11 f11 x13 x14 x15 x16 x17) M) _ _ from ?_)
  refine cS (ef (by omega)) ?_
  rw [e]
  exact aS (nx l1)
theorem Wj:∀ k,k<=n9->∃ N,∀ l,rW (fH s0 n1 f1 n3 f3 n5 f5 x7 x8 n9 f9 n11 f11 x13 x14 x15 x16 x17) N (.L2 (k:Int) l (L8 (aa [Ty.sl ac] f5) x7 n9 (aa ac f9) n11 (aa ac f11) (wI (1000*x14)) (wI (1000*x15)) (wI (1000*x16)) (wI (1000*x17)) (ov2 f5 x7 n9 f9 n11 f11 x14 x15 x16 x17) k).1 (L8 (aa [Ty.sl ac] f5) x7 n9 (aa ac f9) n11 (aa ac f11) (wI (1000*x14)) (wI (1000*x15)) (wI (1000*x16)) (wI (1000*x17)) (ov2 f5 x7 n9 f9 n11 f11 x14 x15 x16 x17) k).2) (.agg [vi (il (aa [Ty.sl ac] f5) x7 n9 (aa ac f9) n11 (aa ac f11) x14 x15 x16 x17),vi (im (aa [Ty.sl ac] f5) x7 n9 (aa ac f9) n11 (aa ac f11) x14 x15 x16 x17)]):=by
 refine dO fun k hk ih=>?_
 have ha:=hp.a
 by_cases hlt:k<n9
 ·have hw:wI ((k:Int)+1)=((k+1:Nat):Int):=by rw[wrapI (by omega) (by omega)];omega
  have ih:=ih hlt
  rw [← hw]at ih
  by_cases hc:(bif decide ((wI (1000*x14))<aw ((aa ac f9) k)) then decide (aw ((aa ac f9) k)<(wI (1000*x15))) else false)=true
  ·rw [aow hc]at ih
   obtain ⟨N,nx⟩:=WE s0 n1 f1 n3 f3 n5 f5 x7 x8 n9 f9 n11 f11 x13 x14 x15 x16 x17 hp (aw (f9 k)) (k:Int) (L8 (aa [Ty.sl ac] f5) x7 n9 (aa ac f9) n11 (aa ac f11) (wI (1000*x14)) (wI (1000*x15)) (wI (1000*x16)) (wI (1000*x17)) (ov2 f5 x7 n9 f9 n11 f11 x14 x15 x16 x17) k).1 (L8 (aa [Ty.sl ac] f5) x7 n9 (aa ac f9) n11 (aa ac f11) (wI (1000*x14)) (wI (1000*x15)) (wI (1000*x16)) (wI (1000*x17)) (ov2 f5 x7 n9 f9 n11 f11 x14 x15 x16 x17) k).2 (II (aa [Ty.sl ac] f5) x7 n9 (aa ac f9) n11 (aa ac f11) (wI (1000*x16)) (wI (1000*x17)) (aw (f9 k)) (L8 (aa [Ty.sl ac] f5) x7 n9 (aa ac f9) n11 (aa ac f11) (wI (1000*x14)) (wI (1000*x15)) (wI (1000*x16)) (wI (1000*x17)) (ov2 f5 x7 n9 f9 n11 f11 x14 x15 x16 x17) k)) ih 0 (acK _)
   refine ⟨N+1,fun l=>?_⟩
   refine (show aX (rW (fH s0 n1 f1 n3 f3 n5 f5 x7 x8 n9 f9 n11 f11 x13 x14 x15 x16 x17) N) _ _ from ?_)
   refine cI (dqt (by omega)) (Nb (dqt (by omega)) (fun a=>po fun l5=>?_) (fun a=>?_))
   ·rw [acm]
    exact (FA (Me hp) hp (fun h0 h1=>bw fun _=>aM (by
     have q:=nx l5 l
     rw [FN h0 h1]at q
     exact q)) (fun h0 h1=>bw fun _=>aM (by
     have q:=nx l5 l
     rw [FE h0 h1]at q
     exact q)) (fun h0 h1=>bw fun _=>aM (by
     have q:=nx l5 l
     rw [Eu h0 h1]at q
     exact q)) (fun h0 h1=>bw fun _=>aM (by
     have q:=nx l5 l
     rw [Gm h0 h1]at q
     exact q)))
   ·exact absurd (hc.symm.trans a) (by decide)
  ·have hc:=Bool.eq_false_iff.2 hc
   rw [aj8 hc]at ih
   obtain ⟨N,ih⟩:=ih
   refine ⟨N+1,fun l=>?_⟩
   refine (show aX (rW (fH s0 n1 f1 n3 f3 n5 f5 x7 x8 n9 f9 n11 f11 x13 x14 x15 x16 x17) N) _ _ from ?_)
   refine cI (dqt (by omega)) (Nb (dqt (by omega)) (fun a=>?_) (fun a=>aS (ih l)))
   exact absurd (hc.symm.trans a) (by decide)
 ·have e:k=n9:=by omega
  refine ⟨1,fun l=>?_⟩
  refine (show aX (rW (fH s0 n1 f1 n3 f3 n5 f5 x7 x8 n9 f9 n11 f11 x13 x14 x15 x16 x17) 0) _ _ from ?_)
  refine cS (ef (by omega)) ?_
  rw [e]
  exact evRet rfl
theorem VD :∀ k,k<=n11->∃ N,∀ l0 n4 i5 n6 i7 i8,rW (fH s0 n1 f1 n3 f3 n5 f5 x7 x8 n9 f9 n11 f11 x13 x14 x15 x16 x17) N (.L4 (k:Int) l0 (Fc (aa [Ty.sl ac] f5) x7 n9 (aa ac f9) n11 (aa ac f11) (wI (1000*x16)) (wI (1000*x17)) (wI (1000*x15)) (II (aa [Ty.sl ac] f5) x7 n9 (aa ac f9) n11 (aa ac f11) (wI (1000*x16)) (wI (1000*x17)) (wI (1000*x15)) (UJ f5 x7 n9 f9 n11 f11 x14 x15 x16 x17)) k).1 (Fc (aa [Ty.sl ac] f5) x7 n9 (aa ac f9) n11 (aa ac f11) (wI (1000*x16)) (wI (1000*x17)) (wI (1000*x15)) (II (aa [Ty.sl ac] f5) x7 n9 (aa ac f9) n11 (aa ac f11) (wI (1000*x16)) (wI (1000*x17)) (wI (1000*x15)) (UJ f5 x7 n9 f9 n11 f11 x14 x15 x16 x17)) k).2 n4 i5 n6 i7 i8) (.agg [vi (il (aa [Ty.sl ac] f5) x7 n9 (aa ac f9) n11 (aa ac f11) x14 x15 x16 x17),vi (im (aa [Ty.sl ac] f5) x7 n9 (aa ac f9) n11 (aa ac f11) x14 x15 x16 x17)]):=by
 refine dO fun k hk ih=>?_
 have hb:=hp.b
 by_cases hlt:k<n11
 ·have hw:wI ((k:Int)+1)=((k+1:Nat):Int):=by rw[wrapI (by omega) (by omega)];omega
  obtain ⟨N,ih⟩:=ih hlt
  refine ⟨N+1,fun l0 n4 i5 n6 i7 i8=>?_⟩
  have ih:=ih l0 n4 i5 n6 i7 i8
  refine (show aX (rW (fH s0 n1 f1 n3 f3 n5 f5 x7 x8 n9 f9 n11 f11 x13 x14 x15 x16 x17) N) _ _ from ?_)
  refine cI (dqt (by omega)) (TT (d:=true) (dqt (by omega)) (Me hp) hp (fun a e=>aS ?_) (fun a e=>aS ?_) (fun a=>aS ?_))
  ·rw[hw]
   have e:bJ n9 (aa ac f9) n11 (aa ac f11) (wI (1000*x15)) (aw ((aa ac f11) k))=true:=e
   rw [yt (f11:=(aa ac f11)) (k:=k) a,vX e]at ih
   exact ih
  ·rw[hw]
   have e:bJ n9 (aa ac f9) n11 (aa ac f11) (wI (1000*x15)) (aw ((aa ac f11) k))=false:=e
   rw [yt (f11:=(aa ac f11)) (k:=k) a,xd e]at ih
   exact ih
  ·rw[hw]
   rw [R0 (f11:=(aa ac f11)) (k:=k) a]at ih
   exact ih
 ·have e:k=n11:=by omega
  obtain ⟨M,nx⟩:=Wj s0 n1 f1 n3 f3 n5 f5 x7 x8 n9 f9 n11 f11 x13 x14 x15 x16 x17 hp 0 (acK _)
  refine ⟨M+1,fun l0 n4 i5 n6 i7 i8=>?_⟩
  refine (show aX (rW (fH s0 n1 f1 n3 f3 n5 f5 x7 x8 n9 f9 n11 f11 x13 x14 x15 x16 x17) M) _ _ from ?_)
  refine cS (ef (by omega)) ?_
  rw [e]
  exact bw fun _=>aM (nx n4)
theorem Vl :∀ k,k<=n11->∃ N,∀ l0 n4,rW (fH s0 n1 f1 n3 f3 n5 f5 x7 x8 n9 f9 n11 f11 x13 x14 x15 x16 x17) N (.L0 (k:Int) l0 (Fc (aa [Ty.sl ac] f5) x7 n9 (aa ac f9) n11 (aa ac f11) (wI (1000*x16)) (wI (1000*x17)) (wI (1000*x14)) (II (aa [Ty.sl ac] f5) x7 n9 (aa ac f9) n11 (aa ac f11) (wI (1000*x16)) (wI (1000*x17)) (wI (1000*x14)) (ov0 f5 x7 n9 f9 n11 f11 x14 x15 x16 x17)) k).1 (Fc (aa [Ty.sl ac] f5) x7 n9 (aa ac f9) n11 (aa ac f11) (wI (1000*x16)) (wI (1000*x17)) (wI (1000*x14)) (II (aa [Ty.sl ac] f5) x7 n9 (aa ac f9) n11 (aa ac f11) (wI (1000*x16)) (wI (1000*x17)) (wI (1000*x14)) (ov0 f5 x7 n9 f9 n11 f11 x14 x15 x16 x17)) k).2 n4) (.agg [vi (il (aa [Ty.sl ac] f5) x7 n9 (aa ac f9) n11 (aa ac f11) x14 x15 x16 x17),vi (im (aa [Ty.sl ac] f5) x7 n9 (aa ac f9) n11 (aa ac f11) x14 x15 x16 x17)]):=by
 refine dO fun k hk ih=>?_
 have hb:=hp.b
 by_cases hlt:k<n11
 ·have hw:wI ((k:Int)+1)=((k+1:Nat):Int):=by rw[wrapI (by omega) (by omega)];omega
  obtain ⟨N,ih⟩:=ih hlt
  refine ⟨N+1,fun l0 n4=>?_⟩
  have ih:=ih l0 n4
  refine (show aX (rW (fH s0 n1 f1 n3 f3 n5 f5 x7 x8 n9 f9 n11 f11 x13 x14 x15 x16 x17) N) _ _ from ?_)
  refine cI (dqt (by omega)) (TT (d:=true) (dqt (by omega)) (Me hp) hp (fun a e=>aS ?_) (fun a e=>aS ?_) (fun a=>aS ?_))
  ·rw[hw]
   have e:bJ n9 (aa ac f9) n11 (aa ac f11) (wI (1000*x14)) (aw ((aa ac f11) k))=true:=e
   rw [yt (f11:=(aa ac f11)) (k:=k) a,vX e]at ih
   exact ih
  ·rw[hw]
   have e:bJ n9 (aa ac f9) n11 (aa ac f11) (wI (1000*x14)) (aw ((aa ac f11) k))=false:=e
   rw [yt (f11:=(aa ac f11)) (k:=k) a,xd e]at ih
   exact ih
  ·rw[hw]
   rw [R0 (f11:=(aa ac f11)) (k:=k) a]at ih
   exact ih
 ·have e:k=n11:=by omega
  obtain ⟨M,nx⟩:=VD s0 n1 f1 n3 f3 n5 f5 x7 x8 n9 f9 n11 f11 x13 x14 x15 x16 x17 hp 0 (acK _)
  refine ⟨M+1,fun l0 n4=>?_⟩
  refine (show aX (rW (fH s0 n1 f1 n3 f3 n5 f5 x7 x8 n9 f9 n11 f11 x13 x14 x15 x16 x17) M) _ _ from ?_)
  refine cS (ef (by omega)) ?_
  rw [e]
  exact po fun l4=>(FA (Me hp) hp (fun h0 h1=>bw fun _=>aM (by
   have q:=nx l4 n4 (n11:Int) l0 (UJ f5 x7 n9 f9 n11 f11 x14 x15 x16 x17).1 (UJ f5 x7 n9 f9 n11 f11 x14 x15 x16 x17).2
   rw [FN h0 h1]at q
   exact q)) (fun h0 h1=>bw fun _=>aM (by
   have q:=nx l4 n4 (n11:Int) l0 (UJ f5 x7 n9 f9 n11 f11 x14 x15 x16 x17).1 (UJ f5 x7 n9 f9 n11 f11 x14 x15 x16 x17).2
   rw [FE h0 h1]at q
   exact q)) (fun h0 h1=>bw fun _=>aM (by
   have q:=nx l4 n4 (n11:Int) l0 (UJ f5 x7 n9 f9 n11 f11 x14 x15 x16 x17).1 (UJ f5 x7 n9 f9 n11 f11 x14 x15 x16 x17).2
   rw [Eu h0 h1]at q
   exact q)) (fun h0 h1=>bw fun _=>aM (by
   have q:=nx l4 n4 (n11:Int) l0 (UJ f5 x7 n9 f9 n11 f11 x14 x15 x16 x17).1 (UJ f5 x7 n9 f9 n11 f11 x14 x15 x16 x17).2
   rw [Gm h0 h1]at q
   exact q)))
end
theorem agZ (hp:mI n5 (aa [.sl ac] f5) n9 (aa ac f9) n11 (aa ac f11)):aX (Ev (fH s0 n1 f1 n3 f3 n5 f5 x7 x8 n9 f9 n11 f11 x13 x14 x15 x16 x17)) (aaG s0 n1 f1 n3 f3 n5 f5 x7 x8 n9 f9 n11 f11 x13 x14 x15 x16 x17) (.agg [vi (il (aa [.sl ac] f5) x7 n9 (aa ac f9) n11 (aa ac f11) x14 x15 x16 x17),vi (im (aa [.sl ac] f5) x7 n9 (aa ac f9) n11 (aa ac f11) x14 x15 x16 x17)]):=by
 obtain ⟨N,hN⟩:=Vl s0 n1 f1 n3 f3 n5 f5 x7 x8 n9 f9 n11 f11 x13 x14 x15 x16 x17 hp 0 (acK _)
 exact evObp hp (evObt (evObp hp (evObt (evObp hp (evObt (evObp hp (evObt (au (evObt (po fun l4=>po fun l0=>(FA (Me hp) hp (fun h0 h1=>bw fun _=>aM (by
  have q:=hN l0 l4
  rw [FN h0 h1]at q
  exact ⟨N,q⟩)) (fun h0 h1=>bw fun _=>aM (by
  have q:=hN l0 l4
  rw [FE h0 h1]at q
  exact ⟨N,q⟩)) (fun h0 h1=>bw fun _=>aM (by
  have q:=hN l0 l4
  rw [Eu h0 h1]at q
  exact ⟨N,q⟩)) (fun h0 h1=>bw fun _=>aM (by
  have q:=hN l0 l4
  rw [Gm h0 h1]at q
  exact ⟨N,q⟩)))))))))))))
def abU:av:=bL [.agg [.str,.sl ac,.sl ac,.sl [.sl ac],tI,tI,.sl ac,.sl ac,tI],.agg gP] (fun
 |[.agg [.str s0,.sl n1 f1,.sl n3 f3,.sl n5 f5,.int _ x7,.int _ x8,.sl n9 f9,.sl n11 f11,.int _ x13],.agg [.int _ x14,.int _ x15,.int _ x16,.int _ x17]]=>mI n5 f5 n9 f9 n11 f11
 |_=>False) fun
 |[.agg [.str s0,.sl n1 f1,.sl n3 f3,.sl n5 f5,.int _ x7,.int _ x8,.sl n9 f9,.sl n11 f11,.int _ x13],.agg [.int _ x14,.int _ x15,.int _ x16,.int _ x17]]=>.agg [vi (il f5 x7 n9 f9 n11 f11 x14 x15 x16 x17),vi (im f5 x7 n9 f9 n11 f11 x14 x15 x16 x17)]
 |_=>.any
theorem ahS:cr abU 72:=aY Sn fun _ hp=>nd (WU ..) (agZ _ _ _ _ _ _ _ _ _ _ _ _ _ _ _ _ _ _ hp)
def Nh:aZ:=(72,.con abU)::xz
theorem Ng:aO Tryz.prog eqs its Nh:=.con ahS (Sn)
def aaY:RT Empty:=dm (s0,x1,x2,x4,x5,x6,x11,x12,x13) (.cb (.cb (.ret (V.agg [vi (nW x3 x8 x10 x14 x15 x16),vi (nZ x3 x7 x9 x14 x15 x16)]))))
theorem V9:cW cX (aV JJ Nh u0 TG [V.agg [V.str s0,vi x1,vi x2,vi x3,vi x4,vi x5,vi x6,vi x7,vi x8,vi x9,vi x10,vi x11,vi x12,vi x13],V.agg [vi x14,vi x15,vi x16]]) (aaY s0 x1 x2 x3 x4 x5 x6 x7 x8 x9 x10 x11 x12 x13 x14 x15 x16):=bF
def mM:Int:=nW x3 x8 x10 x14 x15 x16
def mL:Int:=nZ x3 x7 x9 x14 x15 x16
def PU:V:=dm (s0,x1,x2,x4,x5,x6,x11,x12,x13) (.agg [vi (mM x3 x8 x10 x14 x15 x16),vi (mL x3 x7 x9 x14 x15 x16)])
theorem aem:aX cL (aaY s0 x1 x2 x3 x4 x5 x6 x7 x8 x9 x10 x11 x12 x13 x14 x15 x16) (PU s0 x1 x2 x3 x4 x5 x6 x7 x8 x9 x10 x11 x12 x13 x14 x15 x16):=au (evObt (au (evObt (evRet (by unfold PU mM mL;rfl)))))
def aaU:av:=bL [.agg ah,.agg aU] (fun _=>True) fun
 |[.agg [.str s0,.int _ x1,.int _ x2,.int _ x3,.int _ x4,.int _ x5,.int _ x6,.int _ x7,.int _ x8,.int _ x9,.int _ x10,.int _ x11,.int _ x12,.int _ x13],.agg [.int _ x14,.int _ x15,.int _ x16]]=>PU s0 x1 x2 x3 x4 x5 x6 x7 x8 x9 x10 x11 x12 x13 x14 x15 x16
 |_=>.any
theorem ajl:cr aaU 82:=aY Ng fun _ hp=>c9 (V9 ..) (aem _ _ _ _ _ _ _ _ _ _ _ _ _ _ _ _ _)
def Ak:Int:=rx (wI (rx (wI (rx (wI (x3*max 0 (wI (1000000-wI (x8*x14))))) 1000000*max 0 (wI (1000-wI (x10*x15))))) 1000*x16)) 1000
def A0:Int:=ut (wI (ut (wI (ut (wI (x3*max 0 (wI (1000000-wI (x7*x14))))) 1000000*max 0 (wI (1000-wI (x9*x15))))) 1000*x16)) 1000
theorem TV (a b c d e f:Int):mM a b c d e f=Ak a b c d e f:=by
 unfold mM Ak nW
 rw [Int.max_comm 0,Int.max_comm 0]
 rfl
theorem MO (a b c d e f:Int):mL a b c d e f=A0 a b c d e f:=by
 unfold mL A0 nZ
 rw [Int.max_comm 0,Int.max_comm 0]
 rfl
def HD:aZ:=(82,.con aaU)::Nh
theorem EX:aO Tryz.prog eqs its HD:=.con ajl (Ng)
def acn:RT Empty:=.obp ((ap n0 f0)/\ap n2 f2) (.obt (.ii (.asm ((bj n0 (aa af f0) n2 (aa ah f2)==0)=true->n0<=9223372036854775807) (.obi (.br (bj n0 (aa af f0) n2 (aa ah f2)==0) (.ob (bj n0 (aa af f0) n2 (aa ah f2)==0) (.ob (bj n0 (aa af f0) n2 (aa ah f2)==0) (.cb (.br (!yaa x4 0 (wI ((n0:Int)-1))) (.ret (vi 4)) (.ret (vi (bj n0 (aa af f0) n2 (aa ah f2)))))))) (.ret (vi (bj n0 (aa af f0) n2 (aa ah f2)))))))))
theorem V6:cW cX (aV JJ HD u0 Td [V.agg [V.sl n0 (aa af f0),V.sl n2 (aa ah f2)],vi x4]) (acn n0 f0 n2 f2 x4):=bF
def jB:Int:=bif bj n0 (aa af f0) n2 (aa ah f2)==0 then bif !yaa x4 0 (wI ((n0:Int)-1)) then 4 else bj n0 (aa af f0) n2 (aa ah f2) else bj n0 (aa af f0) n2 (aa ah f2)
def Cu:V:=vi (jB n0 f0 n2 f2 x4)
theorem aiP (hp:ap n0 f0/\ap n2 f2):aX cL (acn n0 f0 n2 f2 x4) (Cu n0 f0 n2 f2 x4):=evObp (by first|assumption|(exact hp)) (evObt (evObi (evObi (evAsm (fun a0=>evObi (evBr (fun h0=>aD (by first|assumption|(fail)) (aD (by first|assumption|(fail)) (au (evObt (evBr (fun h1=>evRet (by unfold Cu jB;try rw[h0];try rw[h1];rfl)) (fun h1=>evRet (by unfold Cu jB;try rw[h0];try rw[h1];rfl))))))) (fun h0=>evRet (by unfold Cu jB;try rw[h0];rfl))))))))
def acS:av:=bL [.agg [.sl af,.sl ah],tI] (fun
 |[.agg [.sl n0 f0,.sl n2 f2],.int _ x4]=>ap n0 f0/\ap n2 f2
 |_=>False) fun
 |[.agg [.sl n0 f0,.sl n2 f2],.int _ x4]=>Cu n0 f0 n2 f2 x4
 |_=>.any
theorem aic:cr acS 69:=aY EX fun _ hp=>c9 (V6 ..) (aiP _ _ _ _ _ hp)
def gL:Int:=bif dZ n0 (aa af f0) n2 (aa ah f2)==0 then bif !bf x4 0 (wI ((n0:Int)-1)) then 4 else dZ n0 (aa af f0) n2 (aa ah f2) else dZ n0 (aa af f0) n2 (aa ah f2)
def fe:Int:=bif dZ n0 (aa af f0) n2 (aa ah f2)==0 then bif !bf x4 0 (wI ((n2:Int)-1)) then 4 else dZ n0 (aa af f0) n2 (aa ah f2) else dZ n0 (aa af f0) n2 (aa ah f2)
theorem inT {x:Int} {n:Nat} (hn:n<=9223372036854775807) (h:(!yaa x 0 (wI ((n:Int)-1)))=false):decide (0<=x/\x<(n:Int))=true:=by
 rw [wrapI (by omega) (by omega)]at h
 unfold yaa at h
 refine dqt ?_
 by_cases h1:0<=x
 ·by_cases h2:x<=(n:Int)-1
  ·omega
  ·rw[dqt h1,ef h2]at h;simp at h
 ·rw[ef h1]at h;simp at h
def acw:RT Empty:=.obp ((ap n0 f0)/\ap n2 f2) (.obt (.br (bj n0 (aa af f0) n2 (aa ah f2)!=0) (.ret (V.tup [V.agg [V.str (ByteArray.mk (Array.mk [])),vi 0,vi 0,vi 0,vi 0,vi 0,vi 0,vi 0,vi 0,vi 0,vi 0,vi 0,vi 0,vi 0],vi (bj n0 (aa af f0) n2 (aa ah f2))])) (.am n2 (.cb (.br (!yaa x4 0 (wI ((n2:Int)-1))) (.ret (V.tup [V.agg [V.str (ByteArray.mk (Array.mk [])),vi 0,vi 0,vi 0,vi 0,vi 0,vi 0,vi 0,vi 0,vi 0,vi 0,vi 0,vi 0,vi 0],vi 4])) (.ob (dI x4 n2) (.ret (V.tup [V.agg [V.str (sv (aE (f2 x4.toNat))),vi (aW (f2 x4.toNat)),vi (b7 (f2 x4.toNat)),vi (bV (f2 x4.toNat)),vi (dA (f2 x4.toNat)),vi (bE (f2 x4.toNat)),vi (bE (ae (f2 x4.toNat))),vi (bE (ae (ae (f2 x4.toNat)))),vi (bE (ae (ae (ae (f2 x4.toNat))))),vi (bE (ae (ae (ae (ae (f2 x4.toNat)))))),vi (bE (ae (ae (ae (ae (ae (f2 x4.toNat))))))),vi (bE (ae (ae (ae (ae (ae (ae (f2 x4.toNat)))))))),vi (bE (ae (ae (ae (ae (ae (ae (ae (f2 x4.toNat))))))))),vi (bE (ae (ae (ae (ae (ae (ae (ae (ae (f2 x4.toNat))))))))))],vi 0]))))))))
theorem Zv:cW cX (aV JJ HD u0 Sk [V.agg [V.sl n0 (aa af f0),V.sl n2 (aa ah f2)],vi x4]) (acw n0 f0 n2 f2 x4):=bF
def uo:ByteArray:=bif bj n0 (aa af f0) n2 (aa ah f2)!=0 then ByteArray.mk (Array.mk []) else bif !yaa x4 0 (wI ((n2:Int)-1)) then ByteArray.mk (Array.mk []) else sv (aE (f2 x4.toNat))
def bK:Int:=bif bj n0 (aa af f0) n2 (aa ah f2)!=0 then 0 else bif !yaa x4 0 (wI ((n2:Int)-1)) then 0 else aW (f2 x4.toNat)
def uL:Int:=bif bj n0 (aa af f0) n2 (aa ah f2)!=0 then 0 else bif !yaa x4 0 (wI ((n2:Int)-1)) then 0 else b7 (f2 x4.toNat)
def gf:Int:=bif bj n0 (aa af f0) n2 (aa ah f2)!=0 then 0 else bif !yaa x4 0 (wI ((n2:Int)-1)) then 0 else bV (f2 x4.toNat)
def ks:Int:=bif bj n0 (aa af f0) n2 (aa ah f2)!=0 then 0 else bif !yaa x4 0 (wI ((n2:Int)-1)) then 0 else dA (f2 x4.toNat)
def ig:Int:=bif bj n0 (aa af f0) n2 (aa ah f2)!=0 then 0 else bif !yaa x4 0 (wI ((n2:Int)-1)) then 0 else bE (f2 x4.toNat)
def kt:Int:=bif bj n0 (aa af f0) n2 (aa ah f2)!=0 then 0 else bif !yaa x4 0 (wI ((n2:Int)-1)) then 0 else bE (ae (f2 x4.toNat))
def jx:Int:=bif bj n0 (aa af f0) n2 (aa ah f2)!=0 then 0 else bif !yaa x4 0 (wI ((n2:Int)-1)) then 0 else bE (ae (ae (f2 x4.toNat)))
def jt:Int:=bif bj n0 (aa af f0) n2 (aa ah f2)!=0 then 0 else bif !yaa x4 0 (wI ((n2:Int)-1)) then 0 else bE (ae (ae (ae (f2 x4.toNat))))
def jC:Int:=bif bj n0 (aa af f0) n2 (aa ah f2)!=0 then 0 else bif !yaa x4 0 (wI ((n2:Int)-1)) then 0 else bE (ae (ae (ae (ae (f2 x4.toNat)))))
def gI:Int:=bif bj n0 (aa af f0) n2 (aa ah f2)!=0 then 0 else bif !yaa x4 0 (wI ((n2:Int)-1)) then 0 else bE (ae (ae (ae (ae (ae (f2 x4.toNat))))))
def rN:Int:=bif bj n0 (aa af f0) n2 (aa ah f2)!=0 then 0 else bif !yaa x4 0 (wI ((n2:Int)-1)) then 0 else bE (ae (ae (ae (ae (ae (ae (f2 x4.toNat)))))))
def rE:Int:=bif bj n0 (aa af f0) n2 (aa ah f2)!=0 then 0 else bif !yaa x4 0 (wI ((n2:Int)-1)) then 0 else bE (ae (ae (ae (ae (ae (ae (ae (f2 x4.toNat))))))))
def qF:Int:=bif bj n0 (aa af f0) n2 (aa ah f2)!=0 then 0 else bif !yaa x4 0 (wI ((n2:Int)-1)) then 0 else bE (ae (ae (ae (ae (ae (ae (ae (ae (f2 x4.toNat)))))))))
def b6:Int:=bif bj n0 (aa af f0) n2 (aa ah f2)!=0 then bj n0 (aa af f0) n2 (aa ah f2) else bif !yaa x4 0 (wI ((n2:Int)-1)) then 4 else 0
def DN:V:=.tup [.agg [.str (uo n0 f0 n2 f2 x4),vi (bK n0 f0 n2 f2 x4),vi (uL n0 f0 n2 f2 x4),vi (gf n0 f0 n2 f2 x4),vi (ks n0 f0 n2 f2 x4),vi (ig n0 f0 n2 f2 x4),vi (kt n0 f0 n2 f2 x4),vi (jx n0 f0 n2 f2 x4),vi (jt n0 f0 n2 f2 x4),vi (jC n0 f0 n2 f2 x4),vi (gI n0 f0 n2 f2 x4),vi (rN n0 f0 n2 f2 x4),vi (rE n0 f0 n2 f2 x4),vi (qF n0 f0 n2 f2 x4)],vi (b6 n0 f0 n2 f2 x4)]
theorem ahg (hp:ap n0 f0/\ap n2 f2):aX cL (acw n0 f0 n2 f2 x4) (DN n0 f0 n2 f2 x4):=evObp (by first|assumption|(exact hp)) (evObt (evBr (fun h0=>evRet (by unfold DN uo bK uL gf ks ig kt jx jt jC gI rN rE qF b6;try rw[h0];rfl)) (fun h0=>evAsm (fun a1=>au (evObt (evBr (fun h1=>evRet (by unfold DN uo bK uL gf ks ig kt jx jt jC gI rN rE qF b6;try rw[h0];try rw[h1];rfl)) (fun h1=>aD (by first|assumption|((exact inT (a1 rfl) h1))) (evRet (by unfold DN uo bK uL gf ks ig kt jx jt jC gI rN rE qF b6;try rw[h0];try rw[h1];rfl)))))))))
def acy:av:=bL [.agg [.sl af,.sl ah],tI] (fun
 |[.agg [.sl n0 f0,.sl n2 f2],.int _ x4]=>ap n0 f0/\ap n2 f2
 |_=>False) fun
 |[.agg [.sl n0 f0,.sl n2 f2],.int _ x4]=>DN n0 f0 n2 f2 x4
 |_=>.any
theorem aiT:cr acy 51:=aY EX fun _ hp=>c9 (Zv ..) (ahg _ _ _ _ _ hp)
structure zI (n:Nat) (f:aL):Prop where
 r:∀ i,i<n->-5000<=aw (f i)/\aw (f i)<=5000
 u:∀ i,i+1<n->aw (f i)<aw (f (i+1))
theorem alQ {n:Nat} {f g:aL} (hn:n<=12) (e:∀ i,aw (g i)=aw (f i)) (h1:Ja n g=true) (h2:gU n g=true):zI n f:=by
 refine ⟨fun i hi=>?_,fun i hi=>?_⟩
 ·have:=cq h1 i hi
  have:=tR this
  rw [e]at this
  exact this
 ·have:=cq h2 (i+1) hi
  have:decide (aw (g i)<aw (g (i+1)))=true:=by
   unfold ris at this
   rw [wrapI (by omega) (by omega),show((((i+1:Nat):Int)==0)=false) from by simp;omega]at this
   have h3:decide (aw (g ((((i+1:Nat):Int)-1).toNat))<aw (g (((i+1:Nat):Int).toNat)))=true:=this
   rw [show(((i+1:Nat):Int)-1).toNat=i by omega,show((i+1:Nat):Int).toNat=i+1 by omega]at h3
   exact h3
  have:=abg this
  rw [e,e]at this
  exact this
theorem amA {f0:aL} {a:Nat} (h:nB (aa af f0) a=0):zI (aN (aE (ae (f0 a)))) (bO (aE (ae (f0 a))))/\zI (aN (aE (ae (ae (f0 a))))) (bO (aE (ae (ae (f0 a))))):=by
 have t:=NL h
 unfold nB at h
 obtain ⟨_,h⟩:=j8 h (by decide)
 obtain ⟨_,h⟩:=j8 h (by decide)
 unfold Pe at h
 obtain ⟨_,h⟩:=j8 h (by decide)
 obtain ⟨h1,h⟩:=j8 h (by decide)
 obtain ⟨h2,_⟩:=j8 h (by decide)
 obtain ⟨r1,r2⟩:=Nr h1
 obtain ⟨u1,u2⟩:=Nr h2
 exact ⟨alQ t.u.2 (fun i=>rfl) r1 u1,alQ t.v.2 (fun i=>rfl) r2 u2⟩
theorem an8 {x:List V} {H:Int} (t:uk x) (u:zI (aN (aE (ae x))) (bO (aE (ae x)))) (v:zI (aN (aE (ae (ae x)))) (bO (aE (ae (ae x))))) (h:1<=H/\H<=30000) :
 mI (KQ x) (BE x) (aN (aE (ae x))) (eg (bO (aE (ae x))) H) (aN (aE (ae (ae x)))) (eg (bO (aE (ae (ae x)))) H):=by
 have key:∀ {n:Nat} {f:aL},zI n f->∀ i:Nat,i+1<n->wI (aw (eg f H (i+1))-aw (eg f H i))≠0:=by
  intro n f w i hi
  have hu:=w.u i hi
  have r0:=w.r i (by omega)
  have r1:=w.r (i+1) hi
  have b:∀ a:Int,-5000<=a/\a<=5000->-150000000<=a*H/\a*H<=150000000:=fun a ha=>by
   have h1:a*H<=5000*H:=afT ha.2 (by omega)
   have h2:(-5000)*H<=a*H:=afT ha.1 (by omega)
   omega
  have b0:=b _ r0
  have b1:=b _ r1
  have e:∀ j,aw (eg f H j)=wI (aw (f j)*H):=fun j=>rfl
  rw [e,e,wrapI (x:=aw (f i)*H) (by omega) (by omega),wrapI (x:=aw (f (i+1))*H) (by omega) (by omega),wrapI (by omega) (by omega)]
  have:aw (f i)*H<aw (f (i+1))*H:=Int.mul_lt_mul_of_pos_right hu (by omega)
  omega
 refine ⟨⟨t.u.1,by have:=t.u.2;omega⟩,⟨t.v.1,by have:=t.v.2;omega⟩,by rw[t.n];exact aaS _,fun i hi=>?_,key u,key v⟩
 have:=t.row i hi
 show _<=aN (aE (BE x i))
 omega
theorem arn {n0:Nat} {f0:aL} {n2:Nat} {f2:aL} {x4:Int} (h:b6 n0 f0 n2 f2 x4=0) :
 (0<=bK n0 f0 n2 f2 x4/\bK n0 f0 n2 f2 x4<(n0:Int))/\nB (aa af (aa af f0)) (bK n0 f0 n2 f2 x4).toNat=0:=by
 unfold b6 at h
 have e:bj n0 (aa af f0) n2 (aa ah f2)=0:=by
  by_cases e:bj n0 (aa af f0) n2 (aa ah f2)=0
  ·exact e
  ·have:(bj n0 (aa af f0) n2 (aa ah f2)!=0)=true:=by simpa using e
   rw [this]at h
   exact h
 have c:=lI n0 (aa af f0) n2 (aa ah f2)
 have v:Bh n0 (aa af f0) n2 (aa ah f2):=AI (by
  have:=congrArg (fun p=>p.2.2) c
  exact this.symm.trans e)
 have ne:(bj n0 (aa af f0) n2 (aa ah f2)!=0)=false:=by rw[e];rfl
 rw [ne]at h
 have hb:(!yaa x4 0 (wI ((n2:Int)-1)))=false:=by
  cases hh:(!yaa x4 0 (wI ((n2:Int)-1))) with
  |false=>rfl
  |true=>rw[hh]at h;cases h
 have l2:=v.l2
 have r:=abg (inT (by omega) hb)
 have eq:bK n0 f0 n2 f2 x4=aW (f2 x4.toNat):=by
  unfold bK
  rw [ne,hb];rfl
 have lm:=(aiq (a:=x4.toNat) v.l0 (v.lm x4.toNat (by omega))).t
 have lm:0<=aW (f2 x4.toNat)/\aW (f2 x4.toNat)<(n0:Int):=lm
 rw [eq]
 exact ⟨lm,v.tb _ (by omega)⟩
def ybb:aZ:=(69,.con acS)::(51,.con acy)::HD
theorem PZ:aO Tryz.prog eqs its ybb:=.con aic (.con aiT (EX))
def uI:=fun i=>al ac (bO (aE (ae (f0 (bK n0 (aa af f0) n2 (aa ah f2) x4).toNat))) i)
def uT:=fun i=>al ac (bO (aE (ae (ae (f0 (bK n0 (aa af f0) n2 (aa ah f2) x4).toNat)))) i)
def yap:=((2:Nat)<=aN (aE (ae (f0 (bK n0 (aa af f0) n2 (aa ah f2) x4).toNat)))/\aN (aE (ae (f0 (bK n0 (aa af f0) n2 (aa ah f2) x4).toNat)))<=(1000:Nat))/\((2:Nat)<=aN (aE (ae (ae (f0 (bK n0 (aa af f0) n2 (aa ah f2) x4).toNat))))/\aN (aE (ae (ae (f0 (bK n0 (aa af f0) n2 (aa ah f2) x4).toNat))))<=(1000:Nat))/\aN (aE (ae (f0 (bK n0 (aa af f0) n2 (aa ah f2) x4).toNat)))<=aN (aE (ae (ae (ae (f0 (bK n0 (aa af f0) n2 (aa ah f2) x4).toNat)))))/\(∀ (i:Nat),i<aN (aE (ae (ae (ae (f0 (bK n0 (aa af f0) n2 (aa ah f2) x4).toNat)))))->aN (aE (ae (ae (f0 (bK n0 (aa af f0) n2 (aa ah f2) x4).toNat))))<=aN (aE (bO (aE (ae (ae (ae (f0 (bK n0 (aa af f0) n2 (aa ah f2) x4).toNat))))) i)))/\(∀ (i:Nat),i+(1:Nat)<aN (aE (ae (f0 (bK n0 (aa af f0) n2 (aa ah f2) x4).toNat)))->wI (aw (eg (uI n0 f0 n2 f2 x4) x12 (i+(1:Nat)))-aw (eg (uI n0 f0 n2 f2 x4) x12 i))≠(0:Int))/\∀ (i:Nat),i+(1:Nat)<aN (aE (ae (ae (f0 (bK n0 (aa af f0) n2 (aa ah f2) x4).toNat))))->wI (aw (eg (uT n0 f0 n2 f2 x4) x12 (i+(1:Nat)))-aw (eg (uT n0 f0 n2 f2 x4) x12 i))≠(0:Int)
def uu:RT Empty:=.obp (nz 1000) (.obt (.obp (nz 1000) (.obt (.ret (V.tup [V.agg [vi (em (wI (il (fun i=>al [Ty.sl ac] (bO (aE (ae (ae (ae (f0 (bK n0 (aa af f0) n2 (aa ah f2) x4).toNat))))) i)) (dA (f0 (bK n0 (aa af f0) n2 (aa ah f2) x4).toNat)) (aN (aE (ae (f0 (bK n0 (aa af f0) n2 (aa ah f2) x4).toNat)))) (aa ac (eg (uI n0 f0 n2 f2 x4) x12)) (aN (aE (ae (ae (f0 (bK n0 (aa af f0) n2 (aa ah f2) x4).toNat))))) (aa ac (eg (uT n0 f0 n2 f2 x4) x12)) x8 x9 x10 x11*mM (gf n0 (aa af f0) n2 (aa ah f2) x4) (jt n0 (aa af f0) n2 (aa ah f2) x4) (gI n0 (aa af f0) n2 (aa ah f2) x4) x5 x6 x7)) 1000),vi (fC (wI (im (fun i=>al [Ty.sl ac] (bO (aE (ae (ae (ae (f0 (bK n0 (aa af f0) n2 (aa ah f2) x4).toNat))))) i)) (dA (f0 (bK n0 (aa af f0) n2 (aa ah f2) x4).toNat)) (aN (aE (ae (f0 (bK n0 (aa af f0) n2 (aa ah f2) x4).toNat)))) (aa ac (eg (uI n0 f0 n2 f2 x4) x12)) (aN (aE (ae (ae (f0 (bK n0 (aa af f0) n2 (aa ah f2) x4).toNat))))) (aa ac (eg (uT n0 f0 n2 f2 x4) x12)) x8 x9 x10 x11*mL (gf n0 (aa af f0) n2 (aa ah f2) x4) (jx n0 (aa af f0) n2 (aa ah f2) x4) (jC n0 (aa af f0) n2 (aa ah f2) x4) x5 x6 x7)) 1000)],vi 0])))))
def ir:RT Empty:=.obp (yap n0 f0 n2 f2 x4 x12) (.obt (uu n0 f0 n2 f2 x4 x5 x6 x7 x8 x9 x10 x11 x12))
def oG:=aN (aE (ae (f0 (bK n0 (aa af f0) n2 (aa ah f2) x4).toNat)))<=(1000:Nat)/\aN (aE (ae (ae (f0 (bK n0 (aa af f0) n2 (aa ah f2) x4).toNat))))<=(1000:Nat)
def re:RT Empty:=.und (.obp (oG n0 f0 n2 f2 x4) (.obt (.und (ir n0 f0 n2 f2 x4 x5 x6 x7 x8 x9 x10 x11 x12) (ir n0 f0 n2 f2 x4 x5 x6 x7 x8 x9 x10 x11 x12)))) (.obp (oG n0 f0 n2 f2 x4) (.obt (ir n0 f0 n2 f2 x4 x5 x6 x7 x8 x9 x10 x11 x12)))
def Ap:RT Empty:=.ob (dI (bK n0 (aa af f0) n2 (aa ah f2) x4) n0) (.und (.cb (.und (.obp (oG n0 f0 n2 f2 x4) (.obt (.und (.obp (yap n0 f0 n2 f2 x4 x12) (.obt (.und (uu n0 f0 n2 f2 x4 x5 x6 x7 x8 x9 x10 x11 x12) (uu n0 f0 n2 f2 x4 x5 x6 x7 x8 x9 x10 x11 x12)))) (.und (.und (ir n0 f0 n2 f2 x4 x5 x6 x7 x8 x9 x10 x11 x12) (ir n0 f0 n2 f2 x4 x5 x6 x7 x8 x9 x10 x11 x12)) (.und (ir n0 f0 n2 f2 x4 x5 x6 x7 x8 x9 x10 x11 x12) (ir n0 f0 n2 f2 x4 x5 x6 x7 x8 x9 x10 x11 x12)))))) (.und (re n0 f0 n2 f2 x4 x5 x6 x7 x8 x9 x10 x11 x12) (re n0 f0 n2 f2 x4 x5 x6 x7 x8 x9 x10 x11 x12)))) (.und (.und (.cb (re n0 f0 n2 f2 x4 x5 x6 x7 x8 x9 x10 x11 x12)) (.cb (.obp (oG n0 f0 n2 f2 x4) (.obt (ir n0 f0 n2 f2 x4 x5 x6 x7 x8 x9 x10 x11 x12))))) (.und (.cb (re n0 f0 n2 f2 x4 x5 x6 x7 x8 x9 x10 x11 x12)) (.cb (.obp (oG n0 f0 n2 f2 x4) (.obt (ir n0 f0 n2 f2 x4 x5 x6 x7 x8 x9 x10 x11 x12)))))))
def Be:RT Empty:=.br (b6 n0 (aa af f0) n2 (aa ah f2) x4==0) (.cb (.br (yae x8 x9 x10 x11 x12 != 0) (.ret (V.tup [V.agg [vi 0,vi 0],vi (yae x8 x9 x10 x11 x12)])) (Ap n0 f0 n2 f2 x4 x5 x6 x7 x8 x9 x10 x11 x12))) (.br (b6 n0 (aa af f0) n2 (aa ah f2) x4 != 0) (.ret (V.tup [V.agg [vi 0,vi 0],vi (b6 n0 (aa af f0) n2 (aa ah f2) x4)])) (Ap n0 f0 n2 f2 x4 x5 x6 x7 x8 x9 x10 x11 x12))
def aaC:RT Empty:=.obp ((ap n0 f0)/\ap n2 f2) (.obt (.br (b6 n0 (aa af f0) n2 (aa ah f2) x4==0) (.ob (b6 n0 (aa af f0) n2 (aa ah f2) x4==0) (.cb (.br (gg x5 x6 x7) (.brf (.brt (.ret (V.tup [V.agg [vi 0,vi 0],vi 7])))) (Be n0 f0 n2 f2 x4 x5 x6 x7 x8 x9 x10 x11 x12)))) (Be n0 f0 n2 f2 x4 x5 x6 x7 x8 x9 x10 x11 x12)))
theorem XA:cW cX (aV JJ ybb u0 AD [V.agg [V.sl n0 (aa af f0),V.sl n2 (aa ah f2)],vi x4,V.agg [vi x5,vi x6,vi x7],V.agg [vi x8,vi x9,vi x10,vi x11],vi x12]) (aaC n0 f0 n2 f2 x4 x5 x6 x7 x8 x9 x10 x11 x12):=bF
def RJ (x:List V) (a c d e h:Int):Int:=il (BE x) (dA x) (aN (aE (ae x))) (aa ac (eg (bO (aE (ae x))) h)) (aN (aE (ae (ae x)))) (aa ac (eg (bO (aE (ae (ae x)))) h)) a c d e
def O5 (x:List V) (a c d e h:Int):Int:=im (BE x) (dA x) (aN (aE (ae x))) (aa ac (eg (bO (aE (ae x))) h)) (aN (aE (ae (ae x)))) (aa ac (eg (bO (aE (ae (ae x)))) h)) a c d e
def UP:Int:=bif b6 n0 f0 n2 f2 x4==0 then bif gg x5 x6 x7 then 7 else yae x8 x9 x10 x11 x12 else b6 n0 f0 n2 f2 x4
def twL:Int:=em (wI (RJ (f0 (bK n0 f0 n2 f2 x4).toNat) x8 x9 x10 x11 x12*mM (gf n0 f0 n2 f2 x4) (jt n0 f0 n2 f2 x4) (gI n0 f0 n2 f2 x4) x5 x6 x7)) 1000
def twH:Int:=fC (wI (O5 (f0 (bK n0 f0 n2 f2 x4).toNat) x8 x9 x10 x11 x12*mL (gf n0 f0 n2 f2 x4) (jx n0 f0 n2 f2 x4) (jC n0 f0 n2 f2 x4) x5 x6 x7)) 1000
def fX:Int:=bif UP n0 f0 n2 f2 x4 x5 x6 x7 x8 x9 x10 x11 x12==0 then twL n0 f0 n2 f2 x4 x5 x6 x7 x8 x9 x10 x11 x12 else 0
def e8:Int:=bif UP n0 f0 n2 f2 x4 x5 x6 x7 x8 x9 x10 x11 x12==0 then twH n0 f0 n2 f2 x4 x5 x6 x7 x8 x9 x10 x11 x12 else 0
def ik:Int:=UP n0 f0 n2 f2 x4 x5 x6 x7 x8 x9 x10 x11 x12
theorem adF (hp:ap n0 (aa af f0)/\ap n2 (aa ah f2)):aX cL (aaC n0 f0 n2 f2 x4 x5 x6 x7 x8 x9 x10 x11 x12) (.tup [.agg [vi (fX n0 (aa af f0) n2 (aa ah f2) x4 x5 x6 x7 x8 x9 x10 x11 x12),vi (e8 n0 (aa af f0) n2 (aa ah f2) x4 x5 x6 x7 x8 x9 x10 x11 x12)],vi (ik n0 (aa af f0) n2 (aa ah f2) x4 x5 x6 x7 x8 x9 x10 x11 x12)]):=by
 have leaf:UP n0 (aa af f0) n2 (aa ah f2) x4 x5 x6 x7 x8 x9 x10 x11 x12=0->aX cL (uu n0 f0 n2 f2 x4 x5 x6 x7 x8 x9 x10 x11 x12) (.tup [.agg [vi (fX n0 (aa af f0) n2 (aa ah f2) x4 x5 x6 x7 x8 x9 x10 x11 x12),vi (e8 n0 (aa af f0) n2 (aa ah f2) x4 x5 x6 x7 x8 x9 x10 x11 x12)],vi (ik n0 (aa af f0) n2 (aa ah f2) x4 x5 x6 x7 x8 x9 x10 x11 x12)]):=fun h=>evObp (by decide) (evObt (evObp (by decide) (evObt (evRet (by
  unfold fX e8 ik;rw[h];rfl)))))
 have bad:∀ {e:Int},UP n0 (aa af f0) n2 (aa ah f2) x4 x5 x6 x7 x8 x9 x10 x11 x12=e->e≠0->aX cL (.ret (V.tup [V.agg [vi 0,vi 0],vi e])) (.tup [.agg [vi (fX n0 (aa af f0) n2 (aa ah f2) x4 x5 x6 x7 x8 x9 x10 x11 x12),vi (e8 n0 (aa af f0) n2 (aa ah f2) x4 x5 x6 x7 x8 x9 x10 x11 x12)],vi (ik n0 (aa af f0) n2 (aa ah f2) x4 x5 x6 x7 x8 x9 x10 x11 x12)]):=fun h h0=>evRet (by
  unfold fX e8 ik;rw[h,show(_==(0:Int))=false from by simpa using h0];rfl)
 have L7:(b6 n0 (aa af f0) n2 (aa ah f2) x4=0->gg x5 x6 x7=false)->aX cL (Be n0 f0 n2 f2 x4 x5 x6 x7 x8 x9 x10 x11 x12) (.tup [.agg [vi (fX n0 (aa af f0) n2 (aa ah f2) x4 x5 x6 x7 x8 x9 x10 x11 x12),vi (e8 n0 (aa af f0) n2 (aa ah f2) x4 x5 x6 x7 x8 x9 x10 x11 x12)],vi (ik n0 (aa af f0) n2 (aa ah f2) x4 x5 x6 x7 x8 x9 x10 x11 x12)]):=fun hw=>by
  have L2:b6 n0 (aa af f0) n2 (aa ah f2) x4=0->yae x8 x9 x10 x11 x12=0->aX cL (Ap n0 f0 n2 f2 x4 x5 x6 x7 x8 x9 x10 x11 x12) (.tup [.agg [vi (fX n0 (aa af f0) n2 (aa ah f2) x4 x5 x6 x7 x8 x9 x10 x11 x12),vi (e8 n0 (aa af f0) n2 (aa ah f2) x4 x5 x6 x7 x8 x9 x10 x11 x12)],vi (ik n0 (aa af f0) n2 (aa ah f2) x4 x5 x6 x7 x8 x9 x10 x11 x12)]):=fun h0 hr=>by
   have ht:UP n0 (aa af f0) n2 (aa ah f2) x4 x5 x6 x7 x8 x9 x10 x11 x12=0:=by unfold UP;rw[h0,hw h0,hr];rfl
   have hb:=arn h0
   have tb:=NL hb.2
   have up:=amA hb.2
   have hH:1<=x12/\x12<=30000:=by
    unfold yae at hr
    cases hh:yaa x12 1 30000 with
    |true=>exact tR hh
    |false=>rw[hh]at hr;cases hr
   have vw:=an8 (H:=x12) tb up.1 up.2 hH
   have c4:yap n0 f0 n2 f2 x4 x12:=vw
   have c6:oG n0 f0 n2 f2 x4:=⟨vw.1.2,vw.2.1.2⟩
   have L3:=leaf ht
   have L1:aX cL (ir n0 f0 n2 f2 x4 x5 x6 x7 x8 x9 x10 x11 x12) (.tup [.agg [vi (fX n0 (aa af f0) n2 (aa ah f2) x4 x5 x6 x7 x8 x9 x10 x11 x12),vi (e8 n0 (aa af f0) n2 (aa ah f2) x4 x5 x6 x7 x8 x9 x10 x11 x12)],vi (ik n0 (aa af f0) n2 (aa ah f2) x4 x5 x6 x7 x8 x9 x10 x11 x12)]):=evObp c4 (evObt L3)
   have L5:aX cL (re n0 f0 n2 f2 x4 x5 x6 x7 x8 x9 x10 x11 x12) (.tup [.agg [vi (fX n0 (aa af f0) n2 (aa ah f2) x4 x5 x6 x7 x8 x9 x10 x11 x12),vi (e8 n0 (aa af f0) n2 (aa ah f2) x4 x5 x6 x7 x8 x9 x10 x11 x12)],vi (ik n0 (aa af f0) n2 (aa ah f2) x4 x5 x6 x7 x8 x9 x10 x11 x12)]):=⟨evObp c6 (evObt ⟨L1,L1⟩),evObp c6 (evObt L1)⟩
   refine aD (dqt hb.1) ?_
   repeat' (first|exact L3|exact L1|exact L5|refine evObt ?_|refine au ?_|refine evObp c4 ?_|refine evObp c6 ?_|constructor)
  refine evBr (fun h=>au (evObt (evBr (fun h2=>?_) (fun h2=>L2 (ajV h) (by simpa using h2)))) ) (fun h=>evBr (fun h2=>?_) (fun h2=>?_))
  ·exact bad (by unfold UP;rw[h,hw (ajV h)];rfl) (by simpa using h2)
  ·exact bad (by unfold UP;rw[h];rfl) (by simpa using h2)
  ·exact absurd (by simpa using h2:b6 n0 (aa af f0) n2 (aa ah f2) x4=0) (by simpa using h)
 refine evObp hp (evObt (evBr (fun h=>aD h (au (evObt (evBr (fun h2=>jR (fE (bad (by unfold UP;rw[h,h2];rfl) (by decide)))) (fun h2=>L7 fun _=>h2))))) (fun h=>L7 fun h2=>?_)))
 exact absurd h2 (by simpa using h)
def acX:av:=bL [.agg [.sl af,.sl ah],tI,.agg aU,.agg gP,tI] (fun
 |[.agg [.sl n0 f0,.sl n2 f2],.int _ x4,.agg [.int _ x5,.int _ x6,.int _ x7],.agg [.int _ x8,.int _ x9,.int _ x10,.int _ x11],.int _ x12]=>ap n0 f0/\ap n2 f2
 |_=>False) fun
 |[.agg [.sl n0 f0,.sl n2 f2],.int _ x4,.agg [.int _ x5,.int _ x6,.int _ x7],.agg [.int _ x8,.int _ x9,.int _ x10,.int _ x11],.int _ x12]=>.tup [.agg [vi (fX n0 f0 n2 f2 x4 x5 x6 x7 x8 x9 x10 x11 x12),vi (e8 n0 f0 n2 f2 x4 x5 x6 x7 x8 x9 x10 x11 x12)],vi (ik n0 f0 n2 f2 x4 x5 x6 x7 x8 x9 x10 x11 x12)]
 |_=>.any
theorem ad2:cr acX 64:=aY PZ fun _ hp=>c9 (XA ..) (adF _ _ _ _ _ _ _ _ _ _ _ _ _ hp)
set_option maxHeartbeats 0
set_option linter.unusedSectionVars false
def KH (h:Int):Prop:=(2<=n1/\n1<=1000)/\(2<=n3/\n3<=1000)/\n1<=n5/\(∀ i:Nat,i<n5->n3<=aN (aE (f5 i)))/\(∀ i:Nat,i+1<n1->wI (wI (aw (f1 (i+1))-aw (f1 i))*h)≠0)/\(∀ i:Nat,i+1<n3->wI (wI (aw (f3 (i+1))-aw (f3 i))*h)≠0)
theorem KH.a {n1:Nat} {f1:aL} {n3:Nat} {f3:aL} {n5:Nat} {f5:aL} {h:Int} (hp:KH n1 f1 n3 f3 n5 f5 h):2<=n1/\n1<=1000:=hp.1
theorem KH.b {n1:Nat} {f1:aL} {n3:Nat} {f3:aL} {n5:Nat} {f5:aL} {h:Int} (hp:KH n1 f1 n3 f3 n5 f5 h):2<=n3/\n3<=1000:=hp.2.1
section
variable {n1:Nat} {f1:aL} {n3:Nat} {f3:aL} {n5:Nat} {f5:aL} {h p q:Int} (hp:KH n1 f1 n3 f3 n5 f5 h) (a:0<=p/\p+1<(n1:Int)) (c:0<=q/\q+1<(n3:Int))
include hp a c
end
section
variable (s0:ByteArray) (n1:Nat) (f1:aL) (n3:Nat) (f3:aL) (n5:Nat) (f5:aL) (x7:Int) (x8:Int) (x9:Int) (x10:Int) (x11:Int) (x12:Int) (x13:Int) (hp:KH n1 (aa ac f1) n3 (aa ac f3) n5 (aa [Ty.sl ac] f5) x13)
include hp
end
end
noncomputable section
theorem uw (x:Int):b6 n0 f0 n2 f2 x=fe n0 f0 n2 f2 x:=by
 have c:bj n0 (aa af f0) n2 (aa ah f2)=dZ n0 (aa af f0) n2 (aa ah f2):=congrArg (fun p=>p.2.2) (lI n0 (aa af f0) n2 (aa ah f2))
 unfold b6 fe
 rw [c]
 generalize dZ n0 (aa af f0) n2 (aa ah f2)=e
 by_cases he:e=0
 ·subst he;rfl
 ·rw[show(e != 0)=true from by simpa using he,show(e==0)=false from by simpa using he];rfl
theorem Il (a b c:Int):(bif gg a b c then(7:Int) else 0)=o5 a b c:=by
 unfold gg o5
 have h:∀ x l u,yaa x l u=bf x l u:=fun _ _ _=>rfl
 rw [h,h,h]
 cases bf a 0 200000<;>cases bf b 0 600<;>cases bf c 0 1000<;>rfl
end
noncomputable section
section
variable {n:Nat} {f:aL} {H:Int} (u:zI n f) (hn:2<=n/\n<=12) (hH:1<=H/\H<=30000)
include u hn hH
end
section
variable {n:Nat} {f:aL} {m:Nat} {g:aL} {w:aL} {H:Int} (hu:zI n f) (hv:zI m g) (hn:2<=n/\n<=12) (hm:2<=m/\m<=12) (hH:1<=H/\H<=30000)
include hu hv hn hm hH
end
theorem Xd (a b c d h:Int):yae a b c d h=mR a b c d h:=by
 unfold yae mR
 rw [oX]
 rw [show(en 4 fun i=>bf (aw (aa ac (bc [vi a,vi b,vi c,vi d] 0 1) i)) (-200000) 200000)=((((true&&ge a)&&ge b)&&ge c)&&ge d) from rfl,show yaa h 1 30000=bf h 1 30000 from rfl]
 generalize ge a=p
 generalize ge b=q
 generalize ge c=r
 generalize ge d=s
 cases p<;>cases q<;>cases r<;>cases s<;>rfl
theorem nn7 {b:Bool} {z:Int} (h:(bif !!b then z else 7)=0):b=true/\z=0:=by
 cases b with
 |true=>exact⟨rfl,h⟩
 |false=>cases h
theorem aqw {a b c d h:Int} (e:mR a b c d h=0):(1<=h/\h<=30000)/\(-200000<=a/\a<=200000)/\(-200000<=b/\b<=200000)/\(-200000<=c/\c<=200000)/\(-200000<=d/\d<=200000):=by
 unfold mR at e
 obtain ⟨h1,e⟩:=nn7 e
 obtain ⟨h2,e⟩:=nn7 e
 obtain ⟨h3,e⟩:=nn7 e
 obtain ⟨h4,e⟩:=nn7 e
 obtain ⟨h5,_⟩:=j8 e (by decide)
 exact ⟨tR h1,tR h2,tR h3,tR h4,tR (notf h5)⟩
theorem apS {n0:Nat} {f0:aL} {n2:Nat} {f2:aL} {x4:Int} (h:b6 n0 f0 n2 f2 x4=0) :
 (bj n0 (aa af f0) n2 (aa ah f2)!=0)=false/\(!yaa x4 0 (wI ((n2:Int)-1)))=false:=by
 unfold b6 at h
 cases e:(bj n0 (aa af f0) n2 (aa ah f2)!=0) with
 | true =>
   rw [e]at h
   have h:bj n0 (aa af f0) n2 (aa ah f2)=0:=h
   rw [h]at e;cases e
 | false =>
   rw [e]at h
   cases hh:(!yaa x4 0 (wI ((n2:Int)-1))) with
   |true=>rw[hh]at h;cases h
   |false=>exact⟨rfl,rfl⟩
theorem Ua (ts:List Ty) (f:aL):aa ts (aa ts f)=aa ts f:=funext fun i=>dP ts (f i)
def Qj:aZ:=(64,.con acX)::ybb
theorem TX:aO Tryz.prog eqs its Qj:=.con ad2 (PZ)
def aaK:RT Empty:=dm (x4,n5,f5,n7,f7,n9,f9,n11,f11,s18,x21) (.ob (dI x17 n13) (.ob (dI x17 n15) (.obp ((((-1000:Int)<=x22/\x22<=(1000:Int))/\((-1000:Int)<=x23/\x23<=(1000:Int))/\(x22≠(0:Int)∨x23≠(0:Int)))/\((-400000000:Int)<=x19/\x19<=(400000000:Int))/\((-400000000:Int)<=x20/\x20<=(400000000:Int))/\((-400000000:Int)<=x24/\x24<=(400000000:Int))/\((-400000000:Int)<=x25/\x25<=(400000000:Int))/\((-400000000:Int)<=x26/\x26<=(400000000:Int))/\(-400000000:Int)<=x27/\x27<=(400000000:Int)) (.obt (.obp ((ap n0 f0)/\ap n2 f2) (.obt (.ret (V.agg [vi (fX n0 (aa af f0) n2 (aa ah f2) (aw (f13 x17.toNat)) (aw (f15 x17.toNat)) (aW (f15 x17.toNat)) (b7 (f15 x17.toNat)) (kr x19 x20 x22 x23 x24 x25 x26 x27) (ky x19 x20 x22 x23 x24 x25 x26 x27) (kF x19 x20 x22 x23 x24 x25 x26 x27) (kH x19 x20 x22 x23 x24 x25 x26 x27) x28),vi (e8 n0 (aa af f0) n2 (aa ah f2) (aw (f13 x17.toNat)) (aw (f15 x17.toNat)) (aW (f15 x17.toNat)) (b7 (f15 x17.toNat)) (kr x19 x20 x22 x23 x24 x25 x26 x27) (ky x19 x20 x22 x23 x24 x25 x26 x27) (kF x19 x20 x22 x23 x24 x25 x26 x27) (kH x19 x20 x22 x23 x24 x25 x26 x27) x28)]))))))))
theorem Xg:cW cX (aV JJ Qj u0 zD [V.agg [V.sl n0 (aa af f0),V.sl n2 (aa ah f2),vi x4,V.sl n5 (aa aB f5),V.sl n7 (aa aG f7),V.sl n9 (aa aH f9),V.sl n11 (aa aA f11),V.sl n13 (aa ac f13),V.sl n15 (aa aU f15),vi x17,V.str s18,vi x19,vi x20,vi x21,vi x22,vi x23],V.agg [vi x24,vi x25,vi x26,vi x27],vi x28]) (aaK n0 f0 n2 f2 x4 n5 f5 n7 f7 n9 f9 n11 f11 n13 f13 n15 f15 x17 s18 x19 x20 x21 x22 x23 x24 x25 x26 x27 x28):=bF
def oh (f2 f13 f15:aL) (i cx cy dx dy a b c d h:Int):Int:=fX n0 f0 n2 f2 (aw (f13 i.toNat)) (aw (f15 i.toNat)) (aW (f15 i.toNat)) (b7 (f15 i.toNat)) (kr cx cy dx dy a b c d) (ky cx cy dx dy a b c d) (kF cx cy dx dy a b c d) (kH cx cy dx dy a b c d) h
def oy (f2 f13 f15:aL) (i cx cy dx dy a b c d h:Int):Int:=e8 n0 f0 n2 f2 (aw (f13 i.toNat)) (aw (f15 i.toNat)) (aW (f15 i.toNat)) (b7 (f15 i.toNat)) (kr cx cy dx dy a b c d) (ky cx cy dx dy a b c d) (kF cx cy dx dy a b c d) (kH cx cy dx dy a b c d) h
theorem ail (n0:Nat) (f0:aL) (n2:Nat) (f2:aL) (x4:Int) (n5:Nat) (f5:aL) (n7:Nat) (f7:aL) (n9:Nat) (f9:aL) (n11:Nat) (f11:aL) (n13:Nat) (f13:aL) (n15:Nat) (f15:aL) (x17:Int) (s18:ByteArray) (x19 x20 x21 x22 x23 x24 x25 x26 x27 x28:Int) (hp:(0<=x17/\x17<(n13:Int))/\(0<=x17/\x17<(n15:Int))/\(ap n0 (aa af f0)/\ap n2 (aa ah f2))/\Hd x22 x23/\cZ x19/\cZ x20/\cZ x24/\cZ x25/\cZ x26/\cZ x27):aX cL (aaK n0 f0 n2 f2 x4 n5 f5 n7 f7 n9 f9 n11 f11 n13 f13 n15 f15 x17 s18 x19 x20 x21 x22 x23 x24 x25 x26 x27 x28) (.agg [vi (oh n0 (aa af f0) n2 (aa ah f2) (aa ac f13) (aa aU f15) x17 x19 x20 x22 x23 x24 x25 x26 x27 x28),vi (oy n0 (aa af f0) n2 (aa ah f2) (aa ac f13) (aa aU f15) x17 x19 x20 x22 x23 x24 x25 x26 x27 x28)]):=by
 obtain ⟨h0,h1,hz,hd,hc⟩:=hp
 refine aD (dqt h0) (aD (dqt h1) (evObp ⟨hd,hc⟩ (evObt (evObp hz (evObt ?_)))))
 exact evRet rfl
def aaP:av:=bL [.agg [.sl af,.sl ah,tI,.sl aB,.sl aG,.sl aH,.sl aA,.sl ac,.sl aU,tI,.str,tI,tI,tI,tI,tI],.agg gP,tI] (fun
 |[.agg [.sl n0 f0,.sl n2 f2,.int _ x4,.sl n5 f5,.sl n7 f7,.sl n9 f9,.sl n11 f11,.sl n13 f13,.sl n15 f15,.int _ x17,.str s18,.int _ x19,.int _ x20,.int _ x21,.int _ x22,.int _ x23],.agg [.int _ x24,.int _ x25,.int _ x26,.int _ x27],.int _ x28]=>(0<=x17/\x17<(n13:Int))/\(0<=x17/\x17<(n15:Int))/\(ap n0 f0/\ap n2 f2)/\Hd x22 x23/\cZ x19/\cZ x20/\cZ x24/\cZ x25/\cZ x26/\cZ x27
 |_=>False) fun
 |[.agg [.sl n0 f0,.sl n2 f2,.int _ x4,.sl n5 f5,.sl n7 f7,.sl n9 f9,.sl n11 f11,.sl n13 f13,.sl n15 f15,.int _ x17,.str s18,.int _ x19,.int _ x20,.int _ x21,.int _ x22,.int _ x23],.agg [.int _ x24,.int _ x25,.int _ x26,.int _ x27],.int _ x28]=>.agg [vi (oh n0 f0 n2 f2 f13 f15 x17 x19 x20 x22 x23 x24 x25 x26 x27 x28),vi (oy n0 f0 n2 f2 f13 f15 x17 x19 x20 x22 x23 x24 x25 x26 x27 x28)]
 |_=>.any
theorem aex:cr aaP 36:=aY TX fun _ hp=>c9 (Xg ..) (ail _ _ _ _ _ _ _ _ _ _ _ _ _ _ _ _ _ _ _ _ _ _ _ _ _ _ _ _ _ hp)
def nj (a b:Int):Int:=wI (a-b)
def oq (h:Int):Int:=wI (dU h-1500)
section
variable (cx cy:Int)
include cx cy
def ug (vx vy dx dy:Int):Int:=aQ dx dy (nj cx vx) (nj cy vy)
def XC (vx vy dx dy:Int):Int:=aP dx dy (nj cx vx) (nj cy vy)
def BY (h vx vy dx dy:Int):Int:=wI (wI (XC cx cy vx vy dx dy*XC cx cy vx vy dx dy)+wI (wI (oq h*oq h)*bB dx dy))
def vlQ (h vx vy:Int):Int:=wI (wI (wI (nj cx vx*nj cx vx)+wI (nj cy vy*nj cy vy))+wI (oq h*oq h))
def Y3 (h vx vy dx dy:Int):Int:=max (dv (wI (1000*fl (BY cx cy h vx vy dx dy))) (ug cx cy vx vy dx dy)) 26
def Kx (h vx vy dx dy:Int):Int:=max (eh (wI (1000*e7 (BY cx cy h vx vy dx dy))) (ug cx cy vx vy dx dy)) 26
def vlX (h vx vy dx dy:Int):Bool:=bif bif decide (oq h<=0) then true else decide (ug cx cy vx vy dx dy<=0) then true else decide (wI (ug cx cy vx vy dx dy*ug cx cy vx vy dx dy)<BY cx cy h vx vy dx dy)
def yaB (h vx vy dx dy:Int):Prop:=(-100000<=cx/\cx<=100000)/\(-100000<=cy/\cy<=100000)/\(1<=h/\h<=200)/\(-100000<=vx/\vx<=100000)/\(-100000<=vy/\vy<=100000)/\Hd dx dy
end
theorem Db:b9=dv:=rfl
theorem y6:b5=eh:=rfl
theorem pf {a b:Int} {A B:Nat} (h:a.natAbs<=A) (k:b.natAbs<=B):(a*b).natAbs<=A*B:=by
 rw [Int.natAbs_mul];exact akl h k
theorem sq0 (b:Int):0<=b*b:=by
 rcases Int.le_total 0 b with h|h
 ·exact imn h h
 ·exact Int.mul_nonneg_of_nonpos_of_nonpos h h
theorem dnP {n d:Int} (hd:0<d) (h1:0<=n) (h2:n<=1000*d) (h3:d<=1000000000):0<=dv n d/\dv n d<=1000:=by
 unfold dv
 have m:=Int.tmod_nonneg d h1
 have g0:0<=n / d:=Int.ediv_nonneg h1 (by omega)
 have g1:n / d<1001:=Int.ediv_lt_of_lt_mul hd (by omega)
 rw [ef (by omega),cond_false,ajd h1,wrapI (by omega) (by omega)]
 omega
theorem dnN {k d:Int} (hd:0<d) (h1:0<=k) (h2:k<=1000*d) (h3:d<=1000000000):-1000<=dv (0-k) d/\dv (0-k) d<=0:=by
 unfold dv
 rw [Int.zero_sub,Int.neg_tmod,Int.neg_tdiv,ajd h1,Int.tmod_eq_emod_of_nonneg h1]
 have g0:0<=k / d:=Int.ediv_nonneg h1 (by omega)
 have g1:k / d<1001:=Int.ediv_lt_of_lt_mul hd (by omega)
 have e:=Int.mul_ediv_add_emod k d
 have r1:=Int.emod_nonneg k (by omega:d≠0)
 rw [wrapI (x:=-(k / d)) (by omega) (by omega)]
 by_cases q:-(k % d)<0
 ·rw [dqt q,cond_true,wrapI (by omega) (by omega)]
  have:k / d<1000:=Int.ediv_lt_of_lt_mul hd (by
   rcases Int.lt_or_le k (1000*d) with z|z
   ·omega
   ·have z:k=d*1000:=by omega
    rw [z,Int.mul_emod_right]at q
    omega)
  omega
 ·rw[ef q,cond_false]
  omega
section
variable {cx cy h vx vy dx dy:Int} (o:yaB cx cy h vx vy dx dy)
include o
theorem Vk:nj cx vx=cx-vx/\(nj cx vx).natAbs<=200000:=by
 obtain ⟨h1,h2,h3,h4,h5,h6⟩:=o
 have e:nj cx vx=cx-vx:=wrapI (by omega) (by omega)
 exact ⟨e,by rw[e];omega⟩
theorem Zk:nj cy vy=cy-vy/\(nj cy vy).natAbs<=200000:=by
 obtain ⟨h1,h2,h3,h4,h5,h6⟩:=o
 have e:nj cy vy=cy-vy:=wrapI (by omega) (by omega)
 exact ⟨e,by rw[e];omega⟩
theorem XM:oq h=100*h-1500/\(oq h).natAbs<=18500:=by
 obtain ⟨h1,h2,h3,h4,h5,h6⟩:=o
 have e:oq h=100*h-1500:=by
  unfold oq dU
  rw [wrapI (x:=100*h) (by omega) (by omega)]
  exact wrapI (by omega) (by omega)
 exact ⟨e,by rw[e];omega⟩
theorem alT:(ug cx cy vx vy dx dy).natAbs<=400000000:=by
 have hx:=(Vk o).2
 have hy:=(Zk o).2
 have hd:=o.2.2.2.2.2
 have p:(nj cx vx*dx).natAbs<=200000*1000:=pf hx (by have:=hd.1;omega)
 have q:(nj cy vy*dy).natAbs<=200000*1000:=pf hy (by have:=hd.2.1;omega)
 unfold ug aQ
 rw [wrapI (x:=nj cx vx*dx) (by omega) (by omega),wrapI (x:=nj cy vy*dy) (by omega) (by omega),wrapI (by omega) (by omega)]
 omega
theorem aoV:(XC cx cy vx vy dx dy).natAbs<=400000000:=by
 have hx:=(Vk o).2
 have hy:=(Zk o).2
 have hd:=o.2.2.2.2.2
 have p:(nj cx vx*dy).natAbs<=200000*1000:=pf hx (by have:=hd.2.1;omega)
 have q:(nj cy vy*dx).natAbs<=200000*1000:=pf hy (by have:=hd.1;omega)
 unfold XC aP
 rw [wrapI (x:=nj cx vx*dy) (by omega) (by omega),wrapI (x:=nj cy vy*dx) (by omega) (by omega),wrapI (by omega) (by omega)]
 omega
theorem ajm:0<=BY cx cy h vx vy dx dy/\BY cx cy h vx vy dx dy<=3999999999999999999:=by
 have hb:(XC cx cy vx vy dx dy*XC cx cy vx vy dx dy).natAbs<=400000000*400000000:=pf (aoV o) (aoV o)
 have hz:(oq h*oq h).natAbs<=18500*18500:=pf (XM o).2 (XM o).2
 have b0:=sq0 (XC cx cy vx vy dx dy)
 have z0:=sq0 (oq h)
 have hs:=hdS o.2.2.2.2.2
 have hw:wI (oq h*oq h)=oq h*oq h:=wrapI (by omega) (by omega)
 have hp:(oq h*oq h*bB dx dy).natAbs<=342250000*2000000:=pf (by omega) (by omega)
 have p0:0<=oq h*oq h*bB dx dy:=imn z0 (by omega)
 unfold BY
 rw [hw,wrapI (x:=XC cx cy vx vy dx dy*XC cx cy vx vy dx dy) (by omega) (by omega),wrapI (x:=oq h*oq h*bB dx dy) (by omega) (by omega),wrapI (by omega) (by omega)]
 omega
theorem aqP (hz:¬ oq h<=0):vlQ cx cy h vx vy=0->False:=by
 have hx:(nj cx vx*nj cx vx).natAbs<=200000*200000:=pf (Vk o).2 (Vk o).2
 have hy:(nj cy vy*nj cy vy).natAbs<=200000*200000:=pf (Zk o).2 (Zk o).2
 have hw:(oq h*oq h).natAbs<=18500*18500:=pf (XM o).2 (XM o).2
 have x0:=sq0 (nj cx vx)
 have y0:=sq0 (nj cy vy)
 have z0:0<oq h*oq h:=Int.mul_pos (by omega) (by omega)
 unfold vlQ
 rw [wrapI (x:=nj cx vx*nj cx vx) (by omega) (by omega),wrapI (x:=nj cy vy*nj cy vy) (by omega) (by omega),wrapI (x:=oq h*oq h) (by omega) (by omega),wrapI (x:=nj cx vx*nj cx vx+nj cy vy*nj cy vy) (by omega) (by omega),wrapI (by omega) (by omega)]
 omega
section
variable (ha:¬ ug cx cy vx vy dx dy<=0) (hn:¬ wI (ug cx cy vx vy dx dy*ug cx cy vx vy dx dy)<BY cx cy h vx vy dx dy)
include ha hn
theorem aqm :
 (0<=fl (BY cx cy h vx vy dx dy)/\fl (BY cx cy h vx vy dx dy)<=ug cx cy vx vy dx dy)/\0<=e7 (BY cx cy h vx vy dx dy)/\e7 (BY cx cy h vx vy dx dy)<=ug cx cy vx vy dx dy:=by
 have a1:=alT o
 have hm:(ug cx cy vx vy dx dy*ug cx cy vx vy dx dy).natAbs<=400000000*400000000:=pf a1 a1
 have n1:=ajm o
 rw [wrapI (by omega) (by omega)]at hn
 revert hn n1 ha a1
 generalize BY cx cy h vx vy dx dy=n
 generalize ug cx cy vx vy dx dy=a
 intro a1 ha n1 hn
 have hc:q5 n=n.toNat:=by unfold q5;omega
 have sp:=(lU n.toNat).1
 have e:fl n=(eD n.toNat:Int):=by unfold fl;rw[hc]
 unfold e7
 rw [e]
 revert sp
 generalize eD n.toNat=r
 intro sp
 have sp:(r:Int)*r<=n:=by
  have:=Int.ofNat_le.2 sp
  rw [Int.natCast_mul]at this
  omega
 have ra:(r:Int)<=a:=by
  rcases Int.lt_or_le a r with q|q
  ·have g1:(a+1)*(a+1)<=(r:Int)*r:=Int.mul_le_mul (by omega) (by omega) (by omega) (by omega)
   have g2:(a+1)*(a+1)=a*a+2*a+1:=by grind
   omega
  ·exact q
 have rr:((r:Int)*r).natAbs<=400000000*400000000:=pf (by omega) (by omega)
 rw [wrapI (x:=(r:Int)*r) (by omega) (by omega)]
 refine ⟨⟨by omega,ra⟩,?_⟩
 by_cases q:(r:Int)*r<n
 ·have rs:(r:Int)<a:=by
   rcases Int.lt_or_le (r:Int) a with q2|q2
   ·exact q2
   ·have:a=(r:Int):=by omega
    subst this
    omega
  rw [dqt q,cond_true,wrapI (by omega) (by omega)]
  omega
 ·rw[ef q,cond_false]
  exact ⟨by omega,ra⟩
theorem aqx:(26<=Y3 cx cy h vx vy dx dy/\Y3 cx cy h vx vy dx dy<=1000)/\26<=Kx cx cy h vx vy dx dy/\Kx cx cy h vx vy dx dy<=1000:=by
 have r:=aqm o ha hn
 have a1:=alT o
 unfold Y3 Kx eh
 revert r a1 ha
 generalize fl (BY cx cy h vx vy dx dy)=p
 generalize e7 (BY cx cy h vx vy dx dy)=q
 generalize ug cx cy vx vy dx dy=a
 intro ha r a1
 rw [wrapI (x:=1000*p) (by omega) (by omega),wrapI (x:=1000*q) (by omega) (by omega),wrapI (x:=0-1000*q) (by omega) (by omega)]
 have g1:=dnP (n:=1000*p) (d:=a) (by omega) (by omega) (by omega) (by omega)
 have g2:=dnN (k:=1000*q) (d:=a) (by omega) (by omega) (by omega) (by omega)
 rw [wrapI (x:=0-dv (0-1000*q) a) (by omega) (by omega)]
 omega
theorem arT:(wI (Kx cx cy h vx vy dx dy*Kx cx cy h vx vy dx dy)=0->False)/\(wI (Y3 cx cy h vx vy dx dy*Y3 cx cy h vx vy dx dy)=0->False):=by
 have k:=aqx o ha hn
 have key:∀ x:Int,26<=x/\x<=1000->wI (x*x)=0->False:=fun x hx=>by
  have h1:(x*x).natAbs<=1000*1000:=pf (by omega) (by omega)
  have h2:0<x*x:=Int.mul_pos (by omega) (by omega)
  rw [wrapI (by omega) (by omega)]
  omega
 exact ⟨key _ k.2,key _ k.1⟩
end
end
def Na:aZ:=(36,.con aaP)::Qj
theorem OW:aO Tryz.prog eqs its Na:=.con aex (TX)
def sk (f2 f13 f15:aL) (i cx cy h cdx cdy vx vy dx dy:Int):Int:=bif vlX cx cy h vx vy dx dy then 0 else dv (wI (10000*dv (wI (1000000*dv (wI (dv (wI (1000000*oh n0 f0 n2 f2 f13 f15 i cx cy cdx cdy vx vy vx vy (oq h))) (vlQ cx cy h vx vy)*707)) 1000)) (wI (Kx cx cy h vx vy dx dy*Kx cx cy h vx vy dx dy)))) 3283
def sW (f2 f13 f15:aL) (i cx cy h cdx cdy vx vy dx dy:Int):Int:=bif vlX cx cy h vx vy dx dy then 0 else eh (wI (10000*eh (wI (eh (wI (1000000*oy n0 f0 n2 f2 f13 f15 i cx cy cdx cdy vx vy vx vy (oq h))) (vlQ cx cy h vx vy)*eh (wI (wI (1000000+wI (Kx cx cy h vx vy dx dy*Kx cx cy h vx vy dx dy))*wI (1000000+wI (Kx cx cy h vx vy dx dy*Kx cx cy h vx vy dx dy)))) 1000000)) (wI (Y3 cx cy h vx vy dx dy*Y3 cx cy h vx vy dx dy)))) 3282
theorem anH {cx cy h vx vy dx dy:Int} (e:vlX cx cy h vx vy dx dy=false):(¬ oq h<=0)/\(¬ ug cx cy vx vy dx dy<=0)/\¬ wI (ug cx cy vx vy dx dy*ug cx cy vx vy dx dy)<BY cx cy h vx vy dx dy:=by
 unfold vlX at e
 cases h1:decide (oq h<=0) with
 |true=>rw[h1]at e;cases e
 | false =>
   rw [h1]at e
   cases h2:decide (ug cx cy vx vy dx dy<=0) with
   |true=>rw[h2]at e;cases e
   | false =>
     rw [h2]at e
     exact ⟨abu h1,abu h2,abu e⟩
def plS (cx cy h vx vy dx dy:Int):Int:=max (b9 (wI (1000*dq (BY cx cy h vx vy dx dy))) (ug cx cy vx vy dx dy)) 26
def UU (cx cy h vx vy dx dy:Int):Int:=max (b5 (wI (1000*cK (BY cx cy h vx vy dx dy))) (ug cx cy vx vy dx dy)) 26
section
variable {cx cy h vx vy dx dy:Int} (o:yaB cx cy h vx vy dx dy)
include cx cy h vx vy dx dy o
theorem aet:plS cx cy h vx vy dx dy=Y3 cx cy h vx vy dx dy:=by
 unfold plS Y3
 rw [oU (ajm o).2,Db]
theorem ai3:UU cx cy h vx vy dx dy=Kx cx cy h vx vy dx dy:=by
 unfold UU Kx
 rw [BM (ajm o).2,y6]
theorem vlP:cZ cx/\cZ cy/\cZ vx/\cZ vy/\cZ vx/\cZ vy:=by
 obtain ⟨h1,h2,h3,h4,h5,h6⟩:=o
 unfold cZ
 omega
end
def aap:RT Empty:=dm (x4,n5,f5,n7,f7,n9,f9,n11,f11,s18) (.cb (.cb (.cb (.cb (.iv (.ii (.obi (.br (vlX x19 x20 x21 x24 x25 x26 x27) (.ret (V.agg [vi 0,vi 0])) (.cb (.obp (nz (ug x19 x20 x24 x25 x26 x27)) (.obt (.cb (.obp (nz (ug x19 x20 x24 x25 x26 x27)) (.obt (.obp (((0:Int)<=x17/\x17<(n13:Int))/\((0:Int)<=x17/\x17<(n15:Int))/\(ap n0 (aa af f0)/\ap n2 (aa ah f2))/\Hd x22 x23/\cZ x19/\cZ x20/\cZ x24/\cZ x25/\cZ x24/\cZ x25) (.obt (.obp (nz (vlQ x19 x20 x21 x24 x25)) (.obt (.obp (nz 1000) (.obt (.obp (nz (vlQ x19 x20 x21 x24 x25)) (.obt (.obp (nz 1000000) (.obt (.obp (nz (wI (UU x19 x20 x21 x24 x25 x26 x27*UU x19 x20 x21 x24 x25 x26 x27))) (.obt (.obp (nz 3283) (.obt (.obp (nz (wI (plS x19 x20 x21 x24 x25 x26 x27*plS x19 x20 x21 x24 x25 x26 x27))) (.obt (.obp (nz 3282) (.obt (.ret (V.agg [vi (b9 (wI (10000*b9 (wI (1000000*b9 (wI (707*b9 (wI (1000000*oh n0 (aa af f0) n2 (aa ah f2) (aa ac f13) (aa aU f15) x17 x19 x20 x22 x23 x24 x25 x24 x25 (oq x21))) (vlQ x19 x20 x21 x24 x25))) 1000)) (wI (UU x19 x20 x21 x24 x25 x26 x27*UU x19 x20 x21 x24 x25 x26 x27)))) 3283),vi (b5 (wI (10000*b5 (wI (b5 (wI (1000000*oy n0 (aa af f0) n2 (aa ah f2) (aa ac f13) (aa aU f15) x17 x19 x20 x22 x23 x24 x25 x24 x25 (oq x21))) (vlQ x19 x20 x21 x24 x25)*b5 (wI (wI (1000000+wI (UU x19 x20 x21 x24 x25 x26 x27*UU x19 x20 x21 x24 x25 x26 x27))*wI (1000000+wI (UU x19 x20 x21 x24 x25 x26 x27*UU x19 x20 x21 x24 x25 x26 x27)))) 1000000)) (wI (plS x19 x20 x21 x24 x25 x26 x27*plS x19 x20 x21 x24 x25 x26 x27)))) 3282)]))))))))))))))))))))))))))))))))))
theorem Yv:cW cX (aV JJ Na u0 aih [V.agg [V.sl n0 (aa af f0),V.sl n2 (aa ah f2),vi x4,V.sl n5 (aa aB f5),V.sl n7 (aa aG f7),V.sl n9 (aa aH f9),V.sl n11 (aa aA f11),V.sl n13 (aa ac f13),V.sl n15 (aa aU f15),vi x17,V.str s18,vi x19,vi x20,vi x21,vi x22,vi x23],V.agg [vi x24,vi x25,vi x26,vi x27]]) (aap n0 f0 n2 f2 x4 n5 f5 n7 f7 n9 f9 n11 f11 n13 f13 n15 f15 x17 s18 x19 x20 x21 x22 x23 x24 x25 x26 x27):=bF
theorem afn (n0:Nat) (f0:aL) (n2:Nat) (f2:aL) (x4:Int) (n5:Nat) (f5:aL) (n7:Nat) (f7:aL) (n9:Nat) (f9:aL) (n11:Nat) (f11:aL) (n13:Nat) (f13:aL) (n15:Nat) (f15:aL) (x17:Int) (s18:ByteArray) (x19 x20 x21 x22 x23 x24 x25 x26 x27:Int) (hp:(0<=x17/\x17<(n13:Int))/\(0<=x17/\x17<(n15:Int))/\(ap n0 (aa af f0)/\ap n2 (aa ah f2))/\Hd x22 x23/\yaB x19 x20 x21 x24 x25 x26 x27):aX cL (aap n0 f0 n2 f2 x4 n5 f5 n7 f7 n9 f9 n11 f11 n13 f13 n15 f15 x17 s18 x19 x20 x21 x22 x23 x24 x25 x26 x27) (.agg [vi (sk n0 (aa af f0) n2 (aa ah f2) (aa ac f13) (aa aU f15) x17 x19 x20 x21 x22 x23 x24 x25 x26 x27),vi (sW n0 (aa af f0) n2 (aa ah f2) (aa ac f13) (aa aU f15) x17 x19 x20 x21 x22 x23 x24 x25 x26 x27)]):=by
 obtain ⟨h0,h1,hz,hd,o⟩:=hp
 refine au (evObt (au (evObt (au (evObt (au (evObt (evObi (evObi (evObi (evObi (evObi (evObi (evObi (evBr (fun h=>evRet ?_) (fun h=>?_))))))))))))))))
 ·unfold sk sW
  rw [h];rfl
 ·have k:=anH h
  have ha:ug x19 x20 x24 x25 x26 x27=0->False:=fun e=>k.2.1 (by rw[e];exact Int.le_refl 0)
  have hq:=aqP o k.1
  have hm:=arT o k.2.1 k.2.2
  have hs:=hm.2
  have hm:=hm.1
  rw [ai3 o,aet o,Db,y6,Int.mul_comm 707]
  refine au (evObt (evObp ha (evObt (au (evObt (evObp ha (evObt (evObp ⟨h0,h1,hz,hd,vlP o⟩ (evObt (evObp hq (evObt (evObp (by decide) (evObt (evObp hq (evObt (evObp (by decide) (evObt (evObp hm (evObt (evObp (by decide) (evObt (evObp hs (evObt (evObp (by decide) (evObt (evRet ?_))))))))))))))))))))))))))
  unfold sk sW
  rw [h];rfl
def aaN:av:=bL [.agg [.sl af,.sl ah,tI,.sl aB,.sl aG,.sl aH,.sl aA,.sl ac,.sl aU,tI,.str,tI,tI,tI,tI,tI],.agg gP] (fun
 |[.agg [.sl n0 f0,.sl n2 f2,.int _ x4,.sl n5 f5,.sl n7 f7,.sl n9 f9,.sl n11 f11,.sl n13 f13,.sl n15 f15,.int _ x17,.str s18,.int _ x19,.int _ x20,.int _ x21,.int _ x22,.int _ x23],.agg [.int _ x24,.int _ x25,.int _ x26,.int _ x27]]=>(0<=x17/\x17<(n13:Int))/\(0<=x17/\x17<(n15:Int))/\(ap n0 f0/\ap n2 f2)/\Hd x22 x23/\yaB x19 x20 x21 x24 x25 x26 x27
 |_=>False) fun
 |[.agg [.sl n0 f0,.sl n2 f2,.int _ x4,.sl n5 f5,.sl n7 f7,.sl n9 f9,.sl n11 f11,.sl n13 f13,.sl n15 f15,.int _ x17,.str s18,.int _ x19,.int _ x20,.int _ x21,.int _ x22,.int _ x23],.agg [.int _ x24,.int _ x25,.int _ x26,.int _ x27]]=>.agg [vi (sk n0 f0 n2 f2 f13 f15 x17 x19 x20 x21 x22 x23 x24 x25 x26 x27),vi (sW n0 f0 n2 f2 f13 f15 x17 x19 x20 x21 x22 x23 x24 x25 x26 x27)]
 |_=>.any
theorem ah8:cr aaN 24:=aY OW fun _ hp=>c9 (Yv ..) (afn _ _ _ _ _ _ _ _ _ _ _ _ _ _ _ _ _ _ _ _ _ _ _ _ _ _ _ _ hp)
def D9:aZ:=(24,.con aaN)::Na
theorem Bv:aO Tryz.prog eqs its D9:=.con ah8 (OW)
def iP (p:Nat->Bool) (v:Nat->Int):Nat->Int
 |0=>0
 |k+1=>bif p k then wI (iP p v k+v k) else iP p v k
theorem kT {p:Nat->Bool} {v:Nat->Int} {k:Nat} (h:p k=true):iP p v (k+1)=wI (iP p v k+v k):=by
 show (bif p k then _ else _)=_
 rw [h];rfl
theorem jY {p:Nat->Bool} {v:Nat->Int} {k:Nat} (h:p k=false):iP p v (k+1)=iP p v k:=by
 show (bif p k then _ else _)=_
 rw [h];rfl
def jy (i:Nat):Bool:=decide (0<=aw (f13 i))
def aiC:Prop:=(n13=n11/\n15=n11)/\(ap n0 f0/\ap n2 f2)/\∀ i,i<n11->WO (f11 i)
def X1 (vx vy dx dy:Int):Prop:=(-100000<=vx/\vx<=100000)/\(-100000<=vy/\vy<=100000)/\Hd dx dy
def mT (f2 f11 f13 f15:aL) (vx vy dx dy:Int):Nat->Int:=iP (jy f13) fun i=>sk n0 f0 n2 f2 f13 f15 (i:Int) (aW (f11 i)) (b7 (f11 i)) (bV (f11 i)) (dA (f11 i)) (bE (f11 i)) vx vy dx dy
def mS (f2 f11 f13 f15:aL) (vx vy dx dy:Int):Nat->Int:=iP (jy f13) fun i=>sW n0 f0 n2 f2 f13 f15 (i:Int) (aW (f11 i)) (b7 (f11 i)) (bV (f11 i)) (dA (f11 i)) (bE (f11 i)) vx vy dx dy
def acU:RT Empty:=dm (x4,n5,f5,n7,f7,n9,f9,n11,f11,s18) (.obp (((0:Int)<=x17/\x17<(n13:Int))/\((0:Int)<=x17/\x17<(n15:Int))/\(ap n0 (aa af f0)/\ap n2 (aa ah f2))/\Hd x22 x23/\yaB x19 x20 x21 x24 x25 x26 x27) (.obt (.ret (V.agg [vi (sk n0 (aa af f0) n2 (aa ah f2) (aa ac f13) (aa aU f15) x17 x19 x20 x21 x22 x23 x24 x25 x26 x27),vi (sW n0 (aa af f0) n2 (aa ah f2) (aa ac f13) (aa aU f15) x17 x19 x20 x21 x22 x23 x24 x25 x26 x27)]))))
theorem Z3:cW cX (aV JJ D9 u0 aho [V.agg [V.sl n0 (aa af f0),V.sl n2 (aa ah f2),vi x4,V.sl n5 (aa aB f5),V.sl n7 (aa aG f7),V.sl n9 (aa aH f9),V.sl n11 (aa aA f11),V.sl n13 (aa ac f13),V.sl n15 (aa aU f15),vi x17,V.str s18,vi x19,vi x20,vi x21,vi x22,vi x23],V.pd [vi x24,vi x25,vi x26,vi x27]]) (acU n0 f0 n2 f2 x4 n5 f5 n7 f7 n9 f9 n11 f11 n13 f13 n15 f15 x17 s18 x19 x20 x21 x22 x23 x24 x25 x26 x27):=bF
theorem ahp (n0:Nat) (f0:aL) (n2:Nat) (f2:aL) (x4:Int) (n5:Nat) (f5:aL) (n7:Nat) (f7:aL) (n9:Nat) (f9:aL) (n11:Nat) (f11:aL) (n13:Nat) (f13:aL) (n15:Nat) (f15:aL) (x17:Int) (s18:ByteArray) (x19 x20 x21 x22 x23 x24 x25 x26 x27:Int) (hp:(0<=x17/\x17<(n13:Int))/\(0<=x17/\x17<(n15:Int))/\(ap n0 (aa af f0)/\ap n2 (aa ah f2))/\Hd x22 x23/\yaB x19 x20 x21 x24 x25 x26 x27):aX cL (acU n0 f0 n2 f2 x4 n5 f5 n7 f7 n9 f9 n11 f11 n13 f13 n15 f15 x17 s18 x19 x20 x21 x22 x23 x24 x25 x26 x27) (.agg [vi (sk n0 (aa af f0) n2 (aa ah f2) (aa ac f13) (aa aU f15) x17 x19 x20 x21 x22 x23 x24 x25 x26 x27),vi (sW n0 (aa af f0) n2 (aa ah f2) (aa ac f13) (aa aU f15) x17 x19 x20 x21 x22 x23 x24 x25 x26 x27)]):=evObp hp (evObt (evRet rfl))
def Iv:av:=bL [.agg [.sl af,.sl ah,tI,.sl aB,.sl aG,.sl aH,.sl aA,.sl ac,.sl aU,tI,.str,tI,tI,tI,tI,tI],.pd gP] (fun
 |[.agg [.sl n0 f0,.sl n2 f2,.int _ x4,.sl n5 f5,.sl n7 f7,.sl n9 f9,.sl n11 f11,.sl n13 f13,.sl n15 f15,.int _ x17,.str s18,.int _ x19,.int _ x20,.int _ x21,.int _ x22,.int _ x23],.pd [.int _ x24,.int _ x25,.int _ x26,.int _ x27]]=>(0<=x17/\x17<(n13:Int))/\(0<=x17/\x17<(n15:Int))/\(ap n0 f0/\ap n2 f2)/\Hd x22 x23/\yaB x19 x20 x21 x24 x25 x26 x27
 |_=>False) fun
 |[.agg [.sl n0 f0,.sl n2 f2,.int _ x4,.sl n5 f5,.sl n7 f7,.sl n9 f9,.sl n11 f11,.sl n13 f13,.sl n15 f15,.int _ x17,.str s18,.int _ x19,.int _ x20,.int _ x21,.int _ x22,.int _ x23],.pd [.int _ x24,.int _ x25,.int _ x26,.int _ x27]]=>.agg [vi (sk n0 f0 n2 f2 f13 f15 x17 x19 x20 x21 x22 x23 x24 x25 x26 x27),vi (sW n0 f0 n2 f2 f13 f15 x17 x19 x20 x21 x22 x23 x24 x25 x26 x27)]
 |_=>.any
theorem EF:cr Iv 23:=aY Bv fun _ hp=>c9 (Z3 ..) (ahp _ _ _ _ _ _ _ _ _ _ _ _ _ _ _ _ _ _ _ _ _ _ _ _ _ _ _ _ hp)
def DY:aZ:=(28,.inl xD u0)::(23,.con Iv)::D9
theorem yaE:aO Tryz.prog eqs its DY:=eT Tryz.func28 bb (.con EF (Bv))
inductive mf where
 |L0 (ia0:Int) (na1:Nat) (ia2 ia3:Int)
def RO:mf->bD×List O×Option Ex
 |.L0 ia0 na1 ia2 ia3=>([(8,vi ia0),(7,vi (n13:Int)),(6,V.sl n13 (aa ac f13)),(5,V.pl 4 7),(0,V.yl na1),(1,V.pl 4 0)],[O.cells [V.sl n0 (aa af f0),V.sl n2 (aa ah f2),vi x4,V.sl n5 (aa aB f5),V.sl n7 (aa aG f7),V.sl n9 (aa aH f9),V.sl n11 (aa aA f11),V.sl n13 (aa ac f13),V.sl n15 (aa aU f15)] 35,O.cells [V.fn 23 [] [V.pd [vi x17,vi x18,vi x19,vi x20]]] 70,O.cells [vi 0,vi 0] 44,O.cells [vi ia2,vi ia3] 44,O.cells [V.sl n0 (aa af f0),V.sl n2 (aa ah f2),vi x4,V.sl n5 (aa aB f5),V.sl n7 (aa aG f7),V.sl n9 (aa aH f9),V.sl n11 (aa aA f11),V.sl n13 (aa ac f13),V.sl n15 (aa aU f15)] 35],none)
def Vd:mf->JJ
 |.L0 ia0 na1 ia2 ia3=>(0,[Cx.n na1])
def Jv:T (ck JJ):=aV JJ DY u0 vC [V.agg [V.sl n0 (aa af f0),V.sl n2 (aa ah f2),vi x4,V.sl n5 (aa aB f5),V.sl n7 (aa aG f7),V.sl n9 (aa aH f9),V.sl n11 (aa aA f11),V.sl n13 (aa ac f13),V.sl n15 (aa aU f15)],V.fn 23 [] [V.pd [vi x17,vi x18,vi x19,vi x20]]]
def zd (cx:List Cx):Lp JJ:=fQ (eZ (US (eZ (Jv n0 f0 n2 f2 x4 n5 f5 n7 f7 n9 f9 n11 f11 n13 f13 n15 f15 x17 x18 x19 x20) []) (eC cx 0)) [])
def XJ:JJ->Lp JJ
 |(0,cx)=>zd n0 f0 n2 f2 x4 n5 f5 n7 f7 n9 f9 n11 f11 n13 f13 n15 f15 x17 x18 x19 x20 cx
 |(_,cx)=>zd n0 f0 n2 f2 x4 n5 f5 n7 f7 n9 f9 n11 f11 n13 f13 n15 f15 x17 x18 x19 x20 cx
def agm:LD JJ mf:=⟨Vd,XJ n0 f0 n2 f2 x4 n5 f5 n7 f7 n9 f9 n11 f11 n13 f13 n15 f15 x17 x18 x19 x20,RO n0 f0 n2 f2 x4 n5 f5 n7 f7 n9 f9 n11 f11 n13 f13 n15 f15 x17 x18 x19 x20⟩
def Aj (n0:Nat) (f0:aL) (n2:Nat) (f2:aL) (x4:Int) (n5:Nat) (f5:aL) (n7:Nat) (f7:aL) (n9:Nat) (f9:aL) (n11:Nat) (f11:aL) (n13:Nat) (f13:aL) (n15:Nat) (f15:aL) (x17 x18 x19 x20:Int):mf->RT mf
 |.L0 ia0 na1 ia2 ia3=>.br (decide (ia0<(n13:Int))) (.ob (dI ia0 n13) (.iv (.obj (decide (0<=aw (f13 ia0.toNat))) (dI ia0 n11) (.iv (.br (decide (0<=aw (f13 ia0.toNat))) (.ob (decide (0<=aw (f13 ia0.toNat))) (.ob (decide (0<=aw (f13 ia0.toNat))) (.obp (((0:Int)<=ia0/\ia0<(n13:Int))/\((0:Int)<=ia0/\ia0<(n15:Int))/\(ap n0 (aa af f0)/\ap n2 (aa ah f2))/\Hd (dA (f11 ia0.toNat)) (bE (f11 ia0.toNat))/\yaB (aW (f11 ia0.toNat)) (b7 (f11 ia0.toNat)) (bV (f11 ia0.toNat)) x17 x18 x19 x20) (.obt (.next (iR 0 5 []) (mf.L0 (wI (ia0+1)) na1 (wI (ia2+sk n0 (aa af f0) n2 (aa ah f2) (aa ac f13) (aa aU f15) ia0 (aW (f11 ia0.toNat)) (b7 (f11 ia0.toNat)) (bV (f11 ia0.toNat)) (dA (f11 ia0.toNat)) (bE (f11 ia0.toNat)) x17 x18 x19 x20)) (wI (ia3+sW n0 (aa af f0) n2 (aa ah f2) (aa ac f13) (aa aU f15) ia0 (aW (f11 ia0.toNat)) (b7 (f11 ia0.toNat)) (bV (f11 ia0.toNat)) (dA (f11 ia0.toNat)) (bE (f11 ia0.toNat)) x17 x18 x19 x20))) []))))) (.next (iR 0 5 []) (mf.L0 (wI (ia0+1)) na1 ia2 ia3) [])))))) (.ret (V.agg [vi ia2,vi ia3]))
def Py:RT mf:=dm (n0,f0,n2,f2,x4,n5,f5,n7,f7,n9,f9,n11,f11,f13,n15,f15,x17,x18,x19,x20) (.all (fun l_13003=>.am n13 (.enter (iR 0 5 []) (mf.L0 0 (l_13003) 0 0) [])))
theorem N5:eS DY u0 (agm n0 f0 n2 f2 x4 n5 f5 n7 f7 n9 f9 n11 f11 n13 f13 n15 f15 x17 x18 x19 x20) (Jv n0 f0 n2 f2 x4 n5 f5 n7 f7 n9 f9 n11 f11 n13 f13 n15 f15 x17 x18 x19 x20) (Py n0 f0 n2 f2 x4 n5 f5 n7 f7 n9 f9 n11 f11 n13 f13 n15 f15 x17 x18 x19 x20) (Aj n0 f0 n2 f2 x4 n5 f5 n7 f7 n9 f9 n11 f11 n13 f13 n15 f15 x17 x18 x19 x20):=⟨bF,fun s=>by cases s<;>exact bF⟩
section
variable (hp:aiC n0 (aa af f0) n2 (aa ah f2) n11 (aa aA f11) n13 n15/\X1 x17 x18 x19 x20)
include hp
theorem ad5 (hn:n13<=9223372036854775807) (l:Nat):∀ k,k<=n13->Ev (Aj n0 f0 n2 f2 x4 n5 f5 n7 f7 n9 f9 n11 f11 n13 f13 n15 f15 x17 x18 x19 x20) (.L0 (k:Int) l (mT n0 (aa af f0) n2 (aa ah f2) (aa aA f11) (aa ac f13) (aa aU f15) x17 x18 x19 x20 k) (mS n0 (aa af f0) n2 (aa ah f2) (aa aA f11) (aa ac f13) (aa aU f15) x17 x18 x19 x20 k)) (.agg [vi (mT n0 (aa af f0) n2 (aa ah f2) (aa aA f11) (aa ac f13) (aa aU f15) x17 x18 x19 x20 n13),vi (mS n0 (aa af f0) n2 (aa ah f2) (aa aA f11) (aa ac f13) (aa aU f15) x17 x18 x19 x20 n13)]):=by
 obtain ⟨⟨⟨h1,h2⟩,hz,hc⟩,hv⟩:=hp
 refine dO fun k hk ih=>Ev.of rfl ?_
 by_cases hlt:k<n13
 ·have hw:wI ((k:Int)+1)=((k+1:Nat):Int):=by rw[wrapI (by omega) (by omega)];omega
  have ih:=ih hlt
  rw [← hw]at ih
  have c:=hc k (by omega)
  refine cI (dqt (by omega)) (aD (dqt (by omega)) (evObi (evObi (evObi (evObi (d5 (fun _=>dqt (by omega)) (evObi (evObi (evObi (evObi (evBr (fun h=>aD h (aD h (evObp ⟨by omega,by omega,hz,c.hd,c.px,c.py,c.ph,hv.1,hv.2.1,hv.2.2⟩ (evObt (aS ?_))))) (fun h=>aS ?_))))))))))))
  ·have h:jy (aa ac f13) k=true:=h
   unfold mT mS at ih
   rw [kT h,kT h]at ih
   exact ih
  ·have h:jy (aa ac f13) k=false:=h
   unfold mT mS at ih
   rw [jY h,jY h]at ih
   exact ih
 ·have e:k=n13:=by omega
  refine cS (ef (by omega)) ?_
  rw [e]
  exact evRet rfl
theorem Wk:aX (Ev (Aj n0 f0 n2 f2 x4 n5 f5 n7 f7 n9 f9 n11 f11 n13 f13 n15 f15 x17 x18 x19 x20)) (Py n0 f0 n2 f2 x4 n5 f5 n7 f7 n9 f9 n11 f11 n13 f13 n15 f15 x17 x18 x19 x20) (.agg [vi (mT n0 (aa af f0) n2 (aa ah f2) (aa aA f11) (aa ac f13) (aa aU f15) x17 x18 x19 x20 n13),vi (mS n0 (aa af f0) n2 (aa ah f2) (aa aA f11) (aa ac f13) (aa aU f15) x17 x18 x19 x20 n13)]):=po fun l=>bw fun hn=>aM (ad5 n0 f0 n2 f2 x4 n5 f5 n7 f7 n9 f9 n11 f11 n13 f13 n15 f15 x17 x18 x19 x20 hp hn l 0 (acK _))
end
def Ab:av:=bL [.agg [.sl af,.sl ah,tI,.sl aB,.sl aG,.sl aH,.sl aA,.sl ac,.sl aU],.fn 23 [] [.pd gP]] (fun
 |[.agg [.sl n0 f0,.sl n2 f2,.int _ x4,.sl n5 f5,.sl n7 f7,.sl n9 f9,.sl n11 f11,.sl n13 f13,.sl n15 f15],.fn _ [] [.pd [.int _ x17,.int _ x18,.int _ x19,.int _ x20]]]=>aiC n0 f0 n2 f2 n11 f11 n13 n15/\X1 x17 x18 x19 x20
 |_=>False) fun
 |[.agg [.sl n0 f0,.sl n2 f2,.int _ x4,.sl n5 f5,.sl n7 f7,.sl n9 f9,.sl n11 f11,.sl n13 f13,.sl n15 f15],.fn _ [] [.pd [.int _ x17,.int _ x18,.int _ x19,.int _ x20]]]=>.agg [vi (mT n0 f0 n2 f2 f11 f13 f15 x17 x18 x19 x20 n13),vi (mS n0 f0 n2 f2 f11 f13 f15 x17 x18 x19 x20 n13)]
 |_=>.any
theorem AN:cr Ab 16:=aY yaE fun _ hp=>nd (N5 ..) (Wk _ _ _ _ _ _ _ _ _ _ _ _ _ _ _ _ _ _ _ _ _ hp)
def M6:aZ:=(16,.con Ab)::DY
theorem N7:aO Tryz.prog eqs its M6:=.con AN (yaE)
def ckV:Int:=dX n0 (aa af f0) n2 (aa ah f2) x4 n5 (aa aB f5) n7 (aa aG f7) n9 (aa aH f9) n11 (aa aA f11) n13 (aa ac f13) n15 (aa aU f15)
def va (e vx vy dx dy:Int):Int:=bif e==0 then bif !(fh vx&&fh vy) then 7 else bif !yaf dx dy then 2 else 0 else e
theorem mu {e z a b:Int} (h:e=z) (h0:z≠0):cz (V.tup [V.agg [vi 0,vi 0],vi z])=cz (V.tup [V.agg [vi (iA e a),vi (iA e b)],vi e]):=by
 subst h
 unfold iA
 rw [show(e==0)=false from by simpa using h0];rfl
theorem lC {x:Int} (h:(x != 0)=true):x≠0:=by simpa using h
theorem arI {x:Int} (h:(x==0)=false):x≠0:=by simpa using h
theorem NR {e a b:Int} (h:e=0):cz (V.tup [V.agg [vi a,vi b],vi 0])=cz (V.tup [V.agg [vi (iA e a),vi (iA e b)],vi e]):=by
 subst h;rfl
theorem alJ {e vx vy dx dy:Int} (h:e≠0):va e vx vy dx dy=e:=by
 unfold va
 rw [show(e==0)=false from by simpa using h];rfl
theorem amQ {vx vy dx dy:Int} (h:(fh vx&&fh vy)=false):va 0 vx vy dx dy=7:=by unfold va;rw[h];rfl
theorem al2 {vx vy dx dy:Int} (h:(fh vx&&fh vy)=true) (k:yaf dx dy=false):va 0 vx vy dx dy=2:=by unfold va;rw[h,k];rfl
theorem anh {vx vy dx dy:Int} (h:(fh vx&&fh vy)=true) (k:yaf dx dy=true):va 0 vx vy dx dy=0:=by unfold va;rw[h,k];rfl
theorem pl2 (a b:Int):mE 2 (aa ac (bc [vi a,vi b] 0 1))=(fh a&&fh b):=by
 show (!(decide (0<=xJ 2 fun ii=>jv (aw (aa ac (aa ac (bc [vi a,vi b] 0 1)) ii)))))=_
 rw [kB]
 show (!(!(en 2 fun ii=>!jv (aw (aa ac (aa ac (bc [vi a,vi b] 0 1)) ii)))))=_
 rw [akg]
 show ((true&&!(!fh a))&&!(!fh b))=_
 rw [akg,akg,Bool.true_and]
theorem Jt (a b:Int):l7 a b=yaf a b:=by
 unfold l7 yaf
 show (bif bP a (-1000) 1000 then bif bP b (-1000) 1000 then !(a==0&&(b==0&&true)) else false else false)=_
 rw [bne,bne]
 cases bP a (-1000) 1000<;>cases bP b (-1000) 1000<;>cases (a==0)<;>cases (b==0)<;>rfl
theorem akD {a b:Int} (h:yaf a b=true):Hd a b:=by
 unfold yaf at h
 cases h1:bP a (-1000) 1000 with
 |false=>rw[h1]at h;cases h
 | true =>
   rw [h1]at h
   cases h2:bP b (-1000) 1000 with
   |false=>rw[h2]at h;cases h
   | true =>
     rw [h2]at h
     refine ⟨tR h1,tR h2,?_⟩
     cases h3:a != 0 with
     |true=>exact .inl (by simpa using h3)
     | false =>
       rw [h3]at h
       exact .inr (by simpa using(show(b != 0)=true from h))
theorem apR {vx vy dx dy:Int} (h:(fh vx&&fh vy)=true) (k:yaf dx dy=true):X1 vx vy dx dy:=by
 obtain ⟨h1,h2⟩:=BP h
 exact ⟨tR h1,tR h2,akD k⟩
def abw:RT Empty:=.obp (ap n0 (aa af f0)/\ap n2 (aa ah f2)/\ap n5 (aa aB f5)/\ap n11 (aa aA f11)) (.obt (.br (ckV n0 f0 n2 f2 x4 n5 f5 n7 f7 n9 f9 n11 f11 n13 f13 n15 f15 != 0) (.ret (V.tup [V.agg [vi 0,vi 0],vi (ckV n0 f0 n2 f2 x4 n5 f5 n7 f7 n9 f9 n11 f11 n13 f13 n15 f15)])) (.cb (.br (!mE 2 (aa ac (bc [vi x17,vi x18] 0 1))) (.ret (V.tup [V.agg [vi 0,vi 0],vi 7])) (.cb (.br (!l7 x19 x20) (.ret (V.tup [V.agg [vi 0,vi 0],vi 2])) (.obp (aiC n0 (aa af f0) n2 (aa ah f2) n11 (aa aA f11) n13 n15/\X1 x17 x18 x19 x20) (.obt (.ret (V.tup [V.agg [vi (mT n0 (aa af f0) n2 (aa ah f2) (aa aA f11) (aa ac f13) (aa aU f15) x17 x18 x19 x20 n13),vi (mS n0 (aa af f0) n2 (aa ah f2) (aa aA f11) (aa ac f13) (aa aU f15) x17 x18 x19 x20 n13)],vi 0]))))))))))
theorem Xm:cW cX (aV JJ M6 u0 ahT [V.agg [V.sl n0 (aa af f0),V.sl n2 (aa ah f2),vi x4,V.sl n5 (aa aB f5),V.sl n7 (aa aG f7),V.sl n9 (aa aH f9),V.sl n11 (aa aA f11),V.sl n13 (aa ac f13),V.sl n15 (aa aU f15)],V.agg [vi x17,vi x18,vi x19,vi x20]]) (abw n0 f0 n2 f2 x4 n5 f5 n7 f7 n9 f9 n11 f11 n13 f13 n15 f15 x17 x18 x19 x20):=bF
theorem aiA (hp:ap n0 (aa af f0)/\ap n2 (aa ah f2)/\ap n5 (aa aB f5)/\ap n11 (aa aA f11)):aX cL (abw n0 f0 n2 f2 x4 n5 f5 n7 f7 n9 f9 n11 f11 n13 f13 n15 f15 x17 x18 x19 x20) (.tup [.agg [vi (iA (va (dX n0 (aa af f0) n2 (aa ah f2) x4 n5 (aa aB f5) n7 (aa aG f7) n9 (aa aH f9) n11 (aa aA f11) n13 (aa ac f13) n15 (aa aU f15)) x17 x18 x19 x20) (mT n0 (aa af f0) n2 (aa ah f2) (aa aA f11) (aa ac f13) (aa aU f15) x17 x18 x19 x20 n13)),vi (iA (va (dX n0 (aa af f0) n2 (aa ah f2) x4 n5 (aa aB f5) n7 (aa aG f7) n9 (aa aH f9) n11 (aa aA f11) n13 (aa ac f13) n15 (aa aU f15)) x17 x18 x19 x20) (mS n0 (aa af f0) n2 (aa ah f2) (aa aA f11) (aa ac f13) (aa aU f15) x17 x18 x19 x20 n13))],vi (va (dX n0 (aa af f0) n2 (aa ah f2) x4 n5 (aa aB f5) n7 (aa aG f7) n9 (aa aH f9) n11 (aa aA f11) n13 (aa ac f13) n15 (aa aU f15)) x17 x18 x19 x20)]):=by
 refine evObp hp (evObt (evBr (fun h=>evRet (mu (alJ (lC h)) (lC h))) (fun h=>?_)))
 have h0:(dX n0 (aa af f0) n2 (aa ah f2) x4 n5 (aa aB f5) n7 (aa aG f7) n9 (aa aH f9) n11 (aa aA f11) n13 (aa ac f13) n15 (aa aU f15))=0:=gM h
 have G:=vv h0
 rw [h0,pl2,Jt]
 refine au (evObt (evBr (fun h1=>evRet (mu (amQ (AY h1)) (by decide))) (fun h1=>au (evObt (evBr (fun h2=>evRet (mu (al2 (notf h1) (AY h2)) (by decide))) (fun h2=>evObp ⟨⟨⟨G.ll,G.lu⟩,⟨hp.1,hp.2.1⟩,G.cl⟩,apR (notf h1) (notf h2)⟩ (evObt (evRet (NR (anh (notf h1) (notf h2)))))))))))
def yK:av:=bL [.agg [.sl af,.sl ah,tI,.sl aB,.sl aG,.sl aH,.sl aA,.sl ac,.sl aU],.agg gP] (fun
 |[.agg [.sl n0 f0,.sl n2 f2,.int _ x4,.sl n5 f5,.sl n7 f7,.sl n9 f9,.sl n11 f11,.sl n13 f13,.sl n15 f15],.agg [.int _ x17,.int _ x18,.int _ x19,.int _ x20]]=>ap n0 f0/\ap n2 f2/\ap n5 f5/\ap n11 f11
 |_=>False) fun
 |[.agg [.sl n0 f0,.sl n2 f2,.int _ x4,.sl n5 f5,.sl n7 f7,.sl n9 f9,.sl n11 f11,.sl n13 f13,.sl n15 f15],.agg [.int _ x17,.int _ x18,.int _ x19,.int _ x20]]=>.tup [.agg [vi (iA (va (dX n0 f0 n2 f2 x4 n5 f5 n7 f7 n9 f9 n11 f11 n13 f13 n15 f15) x17 x18 x19 x20) (mT n0 f0 n2 f2 f11 f13 f15 x17 x18 x19 x20 n13)),vi (iA (va (dX n0 f0 n2 f2 x4 n5 f5 n7 f7 n9 f9 n11 f11 n13 f13 n15 f15) x17 x18 x19 x20) (mS n0 f0 n2 f2 f11 f13 f15 x17 x18 x19 x20 n13))],vi (va (dX n0 f0 n2 f2 x4 n5 f5 n7 f7 n9 f9 n11 f11 n13 f13 n15 f15) x17 x18 x19 x20)]
 |_=>.any
theorem xr:cr yK 9:=aY N7 fun _ hp=>c9 (Xm ..) (aiA _ _ _ _ _ _ _ _ _ _ _ _ _ _ _ _ _ _ _ _ _ hp)
theorem XT (x:Int):jB n0 f0 n2 f2 x=gL n0 f0 n2 f2 x:=by
 have c:bj n0 (aa af f0) n2 (aa ah f2)=dZ n0 (aa af f0) n2 (aa ah f2):=congrArg (fun p=>p.2.2) (lI n0 (aa af f0) n2 (aa ah f2))
 unfold jB gL
 rw [c]
 rfl
theorem asc {n0:Nat} {f0:aL} {n2:Nat} {f2:aL} {x4:Int} (h:gL n0 f0 n2 f2 x4=0) :
 (0<=x4/\x4<(n0:Int))/\nB (aa af (aa af f0)) x4.toNat=0:=by
 unfold gL at h
 have e:dZ n0 (aa af f0) n2 (aa ah f2)=0:=by
  by_cases e:dZ n0 (aa af f0) n2 (aa ah f2)=0
  ·exact e
  ·have:(dZ n0 (aa af f0) n2 (aa ah f2)==0)=false:=by simpa using e
   rw [this]at h
   exact h
 have v:Bh n0 (aa af f0) n2 (aa ah f2):=AI e
 rw [e]at h
 have hb:(!bf x4 0 (wI ((n0:Int)-1)))=false:=by
  cases hh:(!bf x4 0 (wI ((n0:Int)-1))) with
  |false=>rfl
  |true=>rw[hh]at h;cases h
 have l0:=v.l0
 have r:=abg (inT (by omega) hb)
 exact ⟨r,v.tb _ (by omega)⟩
def Jf (x4 a b c d h:Int):Int:=bif gL n0 f0 n2 f2 x4==0 then mR a b c d h else gL n0 f0 n2 f2 x4
def Cl (x4 a b c d h:Int):Int:=bif Jf n0 f0 n2 f2 x4 a b c d h==0 then RJ (f0 x4.toNat) a b c d h else 0
def BX (x4 a b c d h:Int):Int:=bif Jf n0 f0 n2 f2 x4 a b c d h==0 then O5 (f0 x4.toNat) a b c d h else 0
theorem amB {n0:Nat} {f0:aL} {n2:Nat} {f2:aL} {x4 a b c d h:Int} (k:gL n0 f0 n2 f2 x4≠0):Jf n0 f0 n2 f2 x4 a b c d h=gL n0 f0 n2 f2 x4:=by
 unfold Jf
 rw [show(gL n0 f0 n2 f2 x4==0)=false from by simpa using k];rfl
theorem acR {n0:Nat} {f0:aL} {n2:Nat} {f2:aL} {x4 a b c d h:Int} (k:gL n0 f0 n2 f2 x4=0):Jf n0 f0 n2 f2 x4 a b c d h=mR a b c d h:=by
 unfold Jf
 rw [k];rfl
theorem OV {n0:Nat} {f0:aL} {n2:Nat} {f2:aL} {x4 a b c d h z:Int} (k:Jf n0 f0 n2 f2 x4 a b c d h=z) (k0:z≠0):cz (V.tup [V.agg [vi 0,vi 0],vi z])=cz (V.tup [V.agg [vi (Cl n0 f0 n2 f2 x4 a b c d h),vi (BX n0 f0 n2 f2 x4 a b c d h)],vi (Jf n0 f0 n2 f2 x4 a b c d h)]):=by
 unfold Cl BX
 rw [k,show(z==0)=false from by simpa using k0];rfl
theorem aos {n0:Nat} {f0:aL} {n2:Nat} {f2:aL} {x4 a b c d h:Int} (k:Jf n0 f0 n2 f2 x4 a b c d h=0):cz (V.tup [V.agg [vi (RJ (f0 x4.toNat) a b c d h),vi (O5 (f0 x4.toNat) a b c d h)],vi 0])=cz (V.tup [V.agg [vi (Cl n0 f0 n2 f2 x4 a b c d h),vi (BX n0 f0 n2 f2 x4 a b c d h)],vi (Jf n0 f0 n2 f2 x4 a b c d h)]):=by
 unfold Cl BX
 rw [k];rfl
def Rn:aZ:=(9,.con yK)::M6
theorem MY:aO Tryz.prog eqs its Rn:=.con xr (N7)
def AW:RT Empty:=.ob (dI x4 n0) (.obp (aN (aE (ae (f0 x4.toNat)))<=(1000:Nat)/\aN (aE (ae (ae (f0 x4.toNat))))<=(1000:Nat)) (.obt (.obp (((2:Nat)<=aN (aE (ae (f0 x4.toNat)))/\aN (aE (ae (f0 x4.toNat)))<=(1000:Nat))/\((2:Nat)<=aN (aE (ae (ae (f0 x4.toNat))))/\aN (aE (ae (ae (f0 x4.toNat))))<=(1000:Nat))/\aN (aE (ae (f0 x4.toNat)))<=aN (aE (ae (ae (ae (f0 x4.toNat)))))/\(∀ (i:Nat),i<aN (aE (ae (ae (ae (f0 x4.toNat)))))->aN (aE (ae (ae (f0 x4.toNat))))<=aN (aE (bO (aE (ae (ae (ae (f0 x4.toNat))))) i)))/\(∀ (i:Nat),i+(1:Nat)<aN (aE (ae (f0 x4.toNat)))->wI (aw (eg (fun i=>al ac (bO (aE (ae (f0 x4.toNat))) i)) x9 (i+(1:Nat)))-aw (eg (fun i=>al ac (bO (aE (ae (f0 x4.toNat))) i)) x9 i))≠(0:Int))/\∀ (i:Nat),i+(1:Nat)<aN (aE (ae (ae (f0 x4.toNat))))->wI (aw (eg (fun i=>al ac (bO (aE (ae (ae (f0 x4.toNat)))) i)) x9 (i+(1:Nat)))-aw (eg (fun i=>al ac (bO (aE (ae (ae (f0 x4.toNat)))) i)) x9 i))≠(0:Int)) (.obt (.ret (V.tup [V.agg [vi (il (fun i=>al [Ty.sl ac] (bO (aE (ae (ae (ae (f0 x4.toNat))))) i)) (dA (f0 x4.toNat)) (aN (aE (ae (f0 x4.toNat)))) (aa ac (eg (fun i=>al ac (bO (aE (ae (f0 x4.toNat))) i)) x9)) (aN (aE (ae (ae (f0 x4.toNat))))) (aa ac (eg (fun i=>al ac (bO (aE (ae (ae (f0 x4.toNat)))) i)) x9)) x5 x6 x7 x8),vi (im (fun i=>al [Ty.sl ac] (bO (aE (ae (ae (ae (f0 x4.toNat))))) i)) (dA (f0 x4.toNat)) (aN (aE (ae (f0 x4.toNat)))) (aa ac (eg (fun i=>al ac (bO (aE (ae (f0 x4.toNat))) i)) x9)) (aN (aE (ae (ae (f0 x4.toNat))))) (aa ac (eg (fun i=>al ac (bO (aE (ae (ae (f0 x4.toNat)))) i)) x9)) x5 x6 x7 x8)],vi 0]))))))
def M5:RT Empty:=.obp (ap n0 (aa af f0)/\ap n2 (aa ah f2)) (.obt (.br (jB n0 (aa af f0) n2 (aa ah f2) x4==0) (.cb (.br (yae x5 x6 x7 x8 x9 != 0) (.ret (V.tup [V.agg [vi 0,vi 0],vi (yae x5 x6 x7 x8 x9)])) (AW n0 f0 x4 x5 x6 x7 x8 x9))) (.br (jB n0 (aa af f0) n2 (aa ah f2) x4 != 0) (.ret (V.tup [V.agg [vi 0,vi 0],vi (jB n0 (aa af f0) n2 (aa ah f2) x4)])) (AW n0 f0 x4 x5 x6 x7 x8 x9))))
theorem aan:cW cX (aV JJ Rn u0 R2 [V.agg [V.sl n0 (aa af f0),V.sl n2 (aa ah f2)],vi x4,V.agg [vi x5,vi x6,vi x7,vi x8],vi x9]) (M5 n0 f0 n2 f2 x4 x5 x6 x7 x8 x9):=bF
theorem aid (hp:ap n0 (aa af f0)/\ap n2 (aa ah f2)):aX cL (M5 n0 f0 n2 f2 x4 x5 x6 x7 x8 x9) (.tup [.agg [vi (Cl n0 (aa af f0) n2 (aa ah f2) x4 x5 x6 x7 x8 x9),vi (BX n0 (aa af f0) n2 (aa ah f2) x4 x5 x6 x7 x8 x9)],vi (Jf n0 (aa af f0) n2 (aa ah f2) x4 x5 x6 x7 x8 x9)]):=by
 have L1:gL n0 (aa af f0) n2 (aa ah f2) x4=0->mR x5 x6 x7 x8 x9=0->aX cL (AW n0 f0 x4 x5 x6 x7 x8 x9) (.tup [.agg [vi (Cl n0 (aa af f0) n2 (aa ah f2) x4 x5 x6 x7 x8 x9),vi (BX n0 (aa af f0) n2 (aa ah f2) x4 x5 x6 x7 x8 x9)],vi (Jf n0 (aa af f0) n2 (aa ah f2) x4 x5 x6 x7 x8 x9)]):=fun h0 hr=>by
  have ht:Jf n0 (aa af f0) n2 (aa ah f2) x4 x5 x6 x7 x8 x9=0:=(acR h0).trans hr
  have hb:=asc h0
  have w:=hb.2
  rw [Ua]at w
  have t:=NL w
  have u:=amA w
  have r:=aqw hr
  have vw:=an8 (H:=x9) t u.1 u.2 r.1
  exact aD (dqt hb.1) (evObp ⟨vw.1.2,vw.2.1.2⟩ (evObt (evObp vw (evObt (evRet (aos ht))))))
 unfold M5
 rw [XT,Xd]
 refine evObp hp (evObt (evBr (fun h=>au (evObt (evBr (fun h2=>?_) (fun h2=>L1 (ajV h) (gM h2))))) (fun h=>evBr (fun h2=>?_) (fun h2=>?_))))
 ·exact evRet (OV (acR (ajV h)) (lC h2))
 ·exact evRet (OV (amB (lC h2)) (lC h2))
 ·exact absurd (gM h2) (arI h)
def HI:av:=bL [.agg [.sl af,.sl ah],tI,.agg gP,tI] (fun
 |[.agg [.sl n0 f0,.sl n2 f2],.int _ x4,.agg [.int _ x5,.int _ x6,.int _ x7,.int _ x8],.int _ x9]=>ap n0 f0/\ap n2 f2
 |_=>False) fun
 |[.agg [.sl n0 f0,.sl n2 f2],.int _ x4,.agg [.int _ x5,.int _ x6,.int _ x7,.int _ x8],.int _ x9]=>.tup [.agg [vi (Cl n0 f0 n2 f2 x4 x5 x6 x7 x8 x9),vi (BX n0 f0 n2 f2 x4 x5 x6 x7 x8 x9)],vi (Jf n0 f0 n2 f2 x4 x5 x6 x7 x8 x9)]
 |_=>.any
theorem ES:cr HI 44:=aY MY fun _ hp=>c9 (aan ..) (aid _ _ _ _ _ _ _ _ _ _ hp)
def Kv:aZ:=Rn
theorem FU:aO Tryz.prog eqs its Kv:=MY
def acQ:RT Empty:=dm (n0,f0,n2,f2,x4,n5,f5,n7,f7,n9,f9,n11,f11,n13,f13,n15,f15,x17,s18,x21,x22,x23) (.cb (.cb (.ret (V.tup [vi (wI (mb (wI (x24-x19)) (wI (x26-x19))+mb (wI (x25-x20)) (wI (x27-x20)))),vi (wI (mD (wI (x24-x19)) (wI (x26-x19))+mD (wI (x25-x20)) (wI (x27-x20))))]))))
theorem VU:cW cX (aV JJ Kv u0 Pf [V.agg [V.sl n0 (aa af f0),V.sl n2 (aa ah f2),vi x4,V.sl n5 (aa aB f5),V.sl n7 (aa aG f7),V.sl n9 (aa aH f9),V.sl n11 (aa aA f11),V.sl n13 (aa ac f13),V.sl n15 (aa aU f15),vi x17,V.str s18,vi x19,vi x20,vi x21,vi x22,vi x23],V.agg [vi x24,vi x25,vi x26,vi x27]]) (acQ n0 f0 n2 f2 x4 n5 f5 n7 f7 n9 f9 n11 f11 n13 f13 n15 f15 x17 s18 x19 x20 x21 x22 x23 x24 x25 x26 x27):=bF
def Jj:Int:=wI (mb (wI (x24-x19)) (wI (x26-x19))+mb (wI (x25-x20)) (wI (x27-x20)))
def IV:Int:=wI (mD (wI (x24-x19)) (wI (x26-x19))+mD (wI (x25-x20)) (wI (x27-x20)))
def Nj:V:=dm (n0,f0,n2,f2,x4,n5,f5,n7,f7,n9,f9,n11,f11,n13,f13,n15,f15,x17,s18,x21,x22,x23) (.tup [vi (Jj x19 x20 x24 x25 x26 x27),vi (IV x19 x20 x24 x25 x26 x27)])
theorem ahQ:aX cL (acQ n0 f0 n2 f2 x4 n5 f5 n7 f7 n9 f9 n11 f11 n13 f13 n15 f15 x17 s18 x19 x20 x21 x22 x23 x24 x25 x26 x27) (Nj n0 f0 n2 f2 x4 n5 f5 n7 f7 n9 f9 n11 f11 n13 f13 n15 f15 x17 s18 x19 x20 x21 x22 x23 x24 x25 x26 x27):=au (evObt (au (evObt (evRet (by unfold Nj Jj IV;rfl)))))
def yh:av:=bL [.agg [.sl af,.sl ah,tI,.sl aB,.sl aG,.sl aH,.sl aA,.sl ac,.sl aU,tI,.str,tI,tI,tI,tI,tI],.agg gP] (fun _=>True) fun
 |[.agg [.sl n0 f0,.sl n2 f2,.int _ x4,.sl n5 f5,.sl n7 f7,.sl n9 f9,.sl n11 f11,.sl n13 f13,.sl n15 f15,.int _ x17,.str s18,.int _ x19,.int _ x20,.int _ x21,.int _ x22,.int _ x23],.agg [.int _ x24,.int _ x25,.int _ x26,.int _ x27]]=>Nj n0 f0 n2 f2 x4 n5 f5 n7 f7 n9 f9 n11 f11 n13 f13 n15 f15 x17 s18 x19 x20 x21 x22 x23 x24 x25 x26 x27
 |_=>.any
theorem w4:cr yh 37:=aY FU fun _ hp=>c9 (VU ..) (ahQ _ _ _ _ _ _ _ _ _ _ _ _ _ _ _ _ _ _ _ _ _ _ _ _ _ _ _ _)
def Ib:aZ:=(29,.con C30)::(27,.con C32)::Kk
theorem Gt:aO Tryz.prog eqs its Ib:=.con Kz (.con KT (Gl))
def amK:RT Empty:=.br (x0 != x2) (.ret (vi (wI (x0-x2)))) (.ret (vi (wI (x1-x3))))
theorem aee:cW cX (aV JJ Ib u0 ybm [V.agg [vi x0,vi x1],V.agg [vi x2,vi x3]]) (amK x0 x1 x2 x3):=bF
def qa:Int:=bif x0 != x2 then wI (x0-x2) else wI (x1-x3)
def YB:V:=vi (qa x0 x1 x2 x3)
theorem aki:aX cL (amK x0 x1 x2 x3) (YB x0 x1 x2 x3):=evBr (fun h0=>evRet (by unfold YB qa;try rw[h0];rfl)) (fun h0=>evRet (by unfold YB qa;try rw[h0];rfl))
def RA:av:=bL [.agg aJ,.agg aJ] (fun _=>True) fun
 |[.agg [.int _ x0,.int _ x1],.agg [.int _ x2,.int _ x3]]=>YB x0 x1 x2 x3
 |_=>.any
theorem Hc:cr RA 157:=aY Gt fun _ hp=>c9 (aee ..) (aki _ _ _ _)
def m49:RT Empty:=.obi (.br (!b8) (.ob (!b8) (.ob (!b8) (.ob (!b8) (.cb (.cb (.cb (.ret (V.bool (ja (bQ x0 x2 x9 x3) (bR x1 x2 x10 x3) (bQ x0 x2 x9 x4) (bR x1 x2 x10 x4) x5 x6 x7))))))))) (.ret (V.kb false)))
theorem aoD:cW cX (aV JJ Ib u0 arO [V.agg [vi x0,vi x1,vi x2,vi x3,vi x4,vi x5,vi x6,vi x7,V.bool b8],V.agg [vi x9,vi x10]]) (m49 x0 x1 x2 x3 x4 x5 x6 x7 b8 x9 x10):=bF
def Dp:Bool:=bif !b8 then ja (bQ x0 x2 x9 x3) (bR x1 x2 x10 x3) (bQ x0 x2 x9 x4) (bR x1 x2 x10 x4) x5 x6 x7 else false
def R49:V:=.bool (Dp x0 x1 x2 x3 x4 x5 x6 x7 b8 x9 x10)
theorem ap2:aX cL (m49 x0 x1 x2 x3 x4 x5 x6 x7 b8 x9 x10) (R49 x0 x1 x2 x3 x4 x5 x6 x7 b8 x9 x10):=evObi (evBr (fun h0=>aD (by first|assumption|(fail)) (aD (by first|assumption|(fail)) (aD (by first|assumption|(fail)) (au (evObt (au (evObt (au (evObt (evRet (by unfold R49 Dp;try rw[h0];rfl))))))))))) (fun h0=>evRet (by unfold R49 Dp;try rw[h0];rfl)))
def C49:av:=bL [.agg [tI,tI,tI,tI,tI,tI,tI,tI,.bool],.agg aJ] (fun _=>True) fun
 |[.agg [.int _ x0,.int _ x1,.int _ x2,.int _ x3,.int _ x4,.int _ x5,.int _ x6,.int _ x7,.bool b8],.agg [.int _ x9,.int _ x10]]=>R49 x0 x1 x2 x3 x4 x5 x6 x7 b8 x9 x10
 |_=>.any
theorem Vf:cr C49 103:=aY Gt fun _ hp=>c9 (aoD ..) (ap2 _ _ _ _ _ _ _ _ _ _ _)
def u5:kk:=fun _=>5
def EK:aZ:=(157,.con RA)::(103,.con C49)::Ib
theorem Ig:aO Tryz.prog eqs its EK:=.con Hc (.con Vf (Gt))
def m56:RT Empty:=.cb (.ret (V.bool !Dp x2 x3 x4 x5 x6 x7 x8 x9 b10 x0 x1))
theorem ake:cW cX (aV JJ EK u0 asb [V.agg [vi x0,vi x1],V.pd [vi x2,vi x3,vi x4,vi x5,vi x6,vi x7,vi x8,vi x9,V.bool b10]]) (m56 x0 x1 x2 x3 x4 x5 x6 x7 x8 x9 b10):=bF
def GP:Bool:=!Dp x2 x3 x4 x5 x6 x7 x8 x9 b10 x0 x1
def R56:V:=.bool (GP x0 x1 x2 x3 x4 x5 x6 x7 x8 x9 b10)
theorem ar0:aX cL (m56 x0 x1 x2 x3 x4 x5 x6 x7 x8 x9 b10) (R56 x0 x1 x2 x3 x4 x5 x6 x7 x8 x9 b10):=au (evObt (evRet (by unfold R56 GP;rfl)))
def C56:av:=bL [.agg aJ,.pd [tI,tI,tI,tI,tI,tI,tI,tI,.bool]] (fun _=>True) fun
 |[.agg [.int _ x0,.int _ x1],.pd [.int _ x2,.int _ x3,.int _ x4,.int _ x5,.int _ x6,.int _ x7,.int _ x8,.int _ x9,.bool b10]]=>R56 x0 x1 x2 x3 x4 x5 x6 x7 x8 x9 b10
 |_=>.any
theorem Zd:cr C56 102:=aY Ig fun _ hp=>c9 (ake ..) (ar0 _ _ _ _ _ _ _ _ _ _ _)
end
end Go.Dx
namespace Go.Dx
open Go.IntKind (i64 u64 u8)
open Go.Sx
end Go.Dx
namespace Go.Dx
open Go.IntKind (i64 u64 u8)
open Go.Sx
end Go.Dx
namespace Go.Dx
open Go.IntKind (i64 u64 u8)
open Go.Sx
end Go.Dx
namespace Go.Dx
open Go.IntKind (i64 u64 u8)
end Go.Dx
namespace Go.Dx
open Go.IntKind (i64 u64 u8)
open Go.Sx Go.Proofs
variable (n0:Nat) (f0:aL) (x2 x3 x4 x5 x6 x7 x8 x9:Int) (b10:Bool)
noncomputable section
def E2:aZ:=(102,.con C56)::EK
theorem Vp:aO Tryz.prog eqs its E2:=.con Zd (Ig)
inductive Dc where
 |L0 (ia0:Int)
def aev:Dc->bD×List O×Option Ex
 |.L0 ia0=>([(8,vi ia0),(7,vi (n0:Int)),(6,V.sl n0 (aa aJ f0)),(4,vi 0),(0,V.sl n0 (aa aJ f0)),(1,V.fn 102 [] [V.pd [vi x2,vi x3,vi x4,vi x5,vi x6,vi x7,vi x8,vi x9,V.bool b10]])],[],none)
def amt:Dc->JJ
 |.L0 ia0=>(0,[])
def acL:T (ck JJ):=aV JJ E2 u0 akW [V.sl n0 (aa aJ f0),V.fn 102 [] [V.pd [vi x2,vi x3,vi x4,vi x5,vi x6,vi x7,vi x8,vi x9,V.bool b10]]]
def JZ (cx:List Cx):Lp JJ:=fQ (eZ (acL n0 f0 x2 x3 x4 x5 x6 x7 x8 x9 b10) [])
def an2:JJ->Lp JJ
 |(0,cx)=>JZ n0 f0 x2 x3 x4 x5 x6 x7 x8 x9 b10 cx
 |(_,cx)=>JZ n0 f0 x2 x3 x4 x5 x6 x7 x8 x9 b10 cx
def aqU:LD JJ Dc:=⟨amt,an2 n0 f0 x2 x3 x4 x5 x6 x7 x8 x9 b10,aev n0 f0 x2 x3 x4 x5 x6 x7 x8 x9 b10⟩
def PL:Dc->RT Dc
 |.L0 ia0=>.br (decide (ia0<(n0:Int))) (.ob (decide (0<=ia0/\ia0<(n0:Int))) (.cb (.br (GP (aw (f0 ia0.toNat)) (aW (f0 ia0.toNat)) x2 x3 x4 x5 x6 x7 x8 x9 b10) (.ret (vi ia0)) (.next [] (Dc.L0 (wI (ia0+1))) [])))) (.ret (vi (-1)))
def ae8:RT Dc:=dm (f0,x2,x3,x4,x5,x6,x7,x8,x9,b10) (.am n0 (.enter [] (Dc.L0 0) []))
theorem af6:eS E2 u0 (aqU n0 f0 x2 x3 x4 x5 x6 x7 x8 x9 b10) (acL n0 f0 x2 x3 x4 x5 x6 x7 x8 x9 b10) (ae8 n0 f0 x2 x3 x4 x5 x6 x7 x8 x9 b10) (PL n0 f0 x2 x3 x4 x5 x6 x7 x8 x9 b10):=⟨bF,fun s=>by cases s<;>exact bF⟩
def Te:Int  :=xJ n0 fun ii=>GP (aw (f0 ii)) (aW (f0 ii)) x2 x3 x4 x5 x6 x7 x8 x9 b10
theorem XG:aX (Ev (PL n0 f0 x2 x3 x4 x5 x6 x7 x8 x9 b10)) (ae8 n0 f0 x2 x3 x4 x5 x6 x7 x8 x9 b10) (vi (Te n0 f0 x2 x3 x4 x5 x6 x7 x8 x9 b10)):=bw fun hn=>aM (nX hn fun i=>rfl)
theorem anS:aX (Ev (PL n0 f0 x2 x3 x4 x5 x6 x7 x8 x9 b10)) (ae8 n0 f0 x2 x3 x4 x5 x6 x7 x8 x9 b10) (vi (Te n0 (aa aJ f0) x2 x3 x4 x5 x6 x7 x8 x9 b10)):=XG n0 f0 x2 x3 x4 x5 x6 x7 x8 x9 b10
def aae:av:=bL [.sl aJ,.fn 102 [] [.pd [tI,tI,tI,tI,tI,tI,tI,tI,.bool]]] (fun _=>True) fun
 |[.sl n0 f0,.fn _ [] [.pd [.int _ x2,.int _ x3,.int _ x4,.int _ x5,.int _ x6,.int _ x7,.int _ x8,.int _ x9,.bool b10]]]=>vi (Te n0 f0 x2 x3 x4 x5 x6 x7 x8 x9 b10)
 |_=>.any
theorem QG:cr aae 134:=aY Vp fun _ hp=>nd (af6 ..) (anS _ _ _ _ _ _ _ _ _ _ _)
def Cg:aZ:=[(134,.con aae),(102,.con C56),(157,.con RA),(103,.con C49),(29,.con C30),(27,.con C32),(56,.con C80),(55,.con C44),(67,.con C23),(90,.con C62),(96,.con C68),(91,.con C63),(97,.con C69),(128,.inl yU u0),(127,.inl yC u0),(126,.con EG),(124,.con Fp),(150,.con F6),(92,.con C64),(94,.con C66),(122,.con D7),(93,.con C65),(95,.con C67),(98,.con C53),(123,.con C45),(125,.con C90),(130,.con yay),(132,.con B7),(46,.con C99),(149,.con C8),(151,.con B3),(152,.con DL),(121,.con CW),(129,.con C3),(131,.con Cn),(77,.con DK),(136,.con C4),(147,.con CU),(154,.con D6),(155,.con BL),(59,.con C78),(100,.con C54),(99,.con C48),(135,.con CS),(57,.con C81),(79,.con C84),(153,.con C85),(80,.con DG),(133,.con Ds),(78,.con Zr),(169,.con BZ),(188,.con FX),(148,.con CV),(187,.inl amr u0)]
theorem UH:aO Tryz.prog eqs its Cg:=.con QG (.con Zd (.con Hc (.con Vf (.con Kz (.con KT (.con KU (.con Ln (.con Gw (.con LX (.con Lw (.con Lf (.con Lz (eT Tryz.func128 bb (eT Tryz.func127 bb (.con yB (.con zp (.con zt (.con KI (.con K9 (.con vY (.con E0 (.con F8 (.con EM (.con Ef (.con Fo (.con xt (.con vV (.con FB (.con vd (.con wJ (.con vD (.con wF (.con wq (.con xn (.con vT (.con uZ (.con vt (.con wv (.con xc (.con EH (.con EV (.con Gs (.con wX (.con ED (.con Fa (.con EC (.con xi (.con vn (.con yaw (.con vl (.con yT (.con yQ (eT Tryz.func187 bb (.nil))))))))))))))))))))))))))))))))))))))))))))))))))))))
def m55:RT Empty:=.cb (.ret (V.bool (decide (0<=Te n0 (aa aJ f0) x2 x3 x4 x5 x6 x7 x8 x9 b10))))
theorem aob:cW cX (aV JJ Cg u0 aqJ [V.sl n0 (aa aJ f0),V.fn 102 [] [V.pd [vi x2,vi x3,vi x4,vi x5,vi x6,vi x7,vi x8,vi x9,V.bool b10]]]) (m55 n0 f0 x2 x3 x4 x5 x6 x7 x8 x9 b10):=bF
def Hm:Bool:=decide (0<=Te n0 (aa aJ f0) x2 x3 x4 x5 x6 x7 x8 x9 b10)
def R55:V:=.bool (Hm n0 f0 x2 x3 x4 x5 x6 x7 x8 x9 b10)
theorem arz:aX cL (m55 n0 f0 x2 x3 x4 x5 x6 x7 x8 x9 b10) (R55 n0 f0 x2 x3 x4 x5 x6 x7 x8 x9 b10):=au (evObt (evRet (by unfold R55 Hm;rfl)))
def C55:av:=bL [.sl aJ,.fn 102 [] [.pd [tI,tI,tI,tI,tI,tI,tI,tI,.bool]]] (fun _=>True) fun
 |[.sl n0 f0,.fn _ [] [.pd [.int _ x2,.int _ x3,.int _ x4,.int _ x5,.int _ x6,.int _ x7,.int _ x8,.int _ x9,.bool b10]]]=>R55 n0 f0 x2 x3 x4 x5 x6 x7 x8 x9 b10
 |_=>.any
theorem an9:cr C55 101:=aY UH fun _ hp=>c9 (aob ..) (arz _ _ _ _ _ _ _ _ _ _ _)
def alS:List V->Prop
 |[.int _ x]=>x=8
 |_=>False
def arA:av:=bL [.int .u64] alS fun _=>vi 4
theorem arb {w0:World}:bu (cV w0 (SV Cg)) (aV JJ Cg u0 aa9 [.int .u64 8]) (pT (vi 4)):=xI bb
theorem anl:(vP arA).Ok Tryz.prog 171:=mkE (un:=u0) UH Tryz.func171 bb fun ds hp=>by
 have hp':aw ds=8:=hp
 intro hd w0
 show bu _ (aV JJ Cg u0 aa9 [.int .u64 (aw ds)]) _
 rw [hp']
 exact arb
def aml:List V->Bool
 |[.int _ x]=>decide (x=8)
 |_=>false
def yaW:av:=qx [.int .u64] aml fun _=>vi 4
theorem Mp:(vP yaW).Ok Tryz.prog 171:=kR (pre:=alS) (fun ds h=>by
 unfold aml at h
 split at h
 ·rename_i x;exact(show x=8 from abg h)
 ·cases h) anl
end
end Go.Dx
namespace Go.Dx
noncomputable section
theorem ac5 {ts:List Ty} (h:ts.all bU=true) {n:Nat} {p:Nat->Bool} {ds:List V} {f:aL} (h1:wz ts n f) (hf:kL [] (al ts ds) ds=al ts ds):wz ts n fun i=>cond (p i) ds (f i):=fun i hi=>by
 show lX _ (al ts (cond (p i) ds (f i)))=true/\eH [] (cond (p i) ds (f i)) (al ts (cond (p i) ds (f i)))
 cases p i with
 |true=>exact⟨jI h _,fK _ _ hf⟩
 |false=>exact h1 i hi
end
end Go.Dx
namespace Go.Dx
open Go.IntKind (i64 u64 u8)
open Go.Sx
noncomputable section
theorem HS {x:Int} (h1:0<=x) (h2:x<18446744073709551616):u64.wrap x=x:=IntWalk.u64_in _ (by omega)
theorem rv {x y A B:Int} (h1:-A<=x) (h2:x<=A) (h3:-B<=y) (h4:y<=B):-(A*B)<=x*y/\x*y<=A*B:=by
 have hA:0<=A:=by omega
 have hB:0<=B:=by omega
 by_cases hy:0<=y
 ·have a1:x*y<=A*y:=afT h2 hy
  have a2:A*y<=A*B:=iml h4 hA
  have a3:-A*y<=x*y:=afT h1 hy
  rw [Int.neg_mul]at a3
  exact ⟨by omega,by omega⟩
 ·have hy':0<=-y:=by omega
  have a1:x*(-y)<=A*(-y):=afT h2 hy'
  have a2:A*(-y)<=A*B:=iml (by omega) hA
  have a3:-A*(-y)<=x*(-y):=afT h1 hy'
  have b1:x*(-y)=-(x*y):=Int.mul_neg _ _
  have b3:-A*(-y)=-(A*(-y)):=Int.neg_mul _ _
  exact ⟨by omega,by omega⟩
theorem sqN (x:Int):0<=x*x:=by
 by_cases h:0<=x
 ·exact imn h h
 ·rw[← Int.neg_mul_neg];exact imn (by omega) (by omega)
theorem parts {x:Int} (h0:0<=x) (h1:x<18446744073709551616):0<=x / 4294967296/\x / 4294967296<=4294967295/\0<=x % 4294967296/\x % 4294967296<=4294967295:=by omega
theorem aou {x y:Int} (hx0:0<=x) (hx:x<18446744073709551616) (hy0:0<=y) (hy:y<18446744073709551616):sS x y=x*y / 18446744073709551616:=by
 rw [← mul64_arith x y hx0 hx hy0 hy]
 unfold sS
 simp only [and_low32 _ hx0 hx,and_low32 _ hy0 hy,IntKind.wrap_u64]
 rw [and_low32 _ (by omega) (by omega)]
 simp only [show(2:Int) ^ 32=4294967296 from rfl]
 rw [ajN _ (by omega),ajN _ (by omega),ajN _ (by omega),ajN _ (by omega),ajN _ (by omega)]
theorem amN (x y:Int):s9 x y=x*y % 18446744073709551616:=by unfold s9;rw[IntKind.wrap_u64]
theorem Up {x y z w:Int} (hx0:0<=x) (hx:x<9223372036854775808) (hy0:0<=y) (hy:y<9223372036854775808) (hz0:0<=z) (hz:z<9223372036854775808) (hw0:0<=w) (hw:w<9223372036854775808) :
 sO (l8 x y) (mP x y) (l8 z w) (mP z w)=decide (x*y<=z*w):=by
 unfold l8 mP sO
 rw [HS hx0 (by omega),HS hy0 (by omega),HS hz0 (by omega),HS hw0 (by omega)]
 rw [aou hx0 (by omega) hy0 (by omega),aou hz0 (by omega) hw0 (by omega),amN,amN]
 generalize x*y=a
 generalize z*w=b
 rw [apC]
 simp only [apk,Bool.and_true,aaw,ajU,abN]
 split<;>(try split)<;>(try split)<;>simp_all<;>omega
def nr (ax ay bx by' px py r:Int):Bool :=
 bif decide ((px-ax)*(bx-ax)+(py-ay)*(by'-ay)<=0) then decide ((px-ax)*(px-ax)+(py-ay)*(py-ay)<=r*r)
 else bif decide ((bx-ax)*(bx-ax)+(by'-ay)*(by'-ay)<=(px-ax)*(bx-ax)+(py-ay)*(by'-ay)) then decide ((px-bx)*(px-bx)+(py-by')*(py-by')<=r*r)
 else decide (((bx-ax)*(py-ay)-(by'-ay)*(px-ax))*((bx-ax)*(py-ay)-(by'-ay)*(px-ax))<=r*r*((bx-ax)*(bx-ax)+(by'-ay)*(by'-ay)))
def sm (x:Int):Prop:=-536870912<=x/\x<=536870912
theorem adK (c:Int):max c (0-c)*max c (0-c)=c*c:=by
 by_cases h:0<=c
 ·rw[show max c (0-c)=c from by omega]
 ·rw[show max c (0-c)=-c from by omega,Int.neg_mul_neg]
section
variable {ax ay bx by' px py r:Int}
theorem adX (h1:sm ax) (h2:sm ay) (h3:sm bx) (h4:sm by') (h5:sm px) (h6:sm py) (h7:0<=r) (h8:r<=1073741824):ja ax ay bx by' px py r=nr ax ay bx by' px py r:=by
 unfold sm at *
 unfold ja nr bo bn
 rw [wrapI (x:=bx-ax) (by omega) (by omega),wrapI (x:=by'-ay) (by omega) (by omega),wrapI (x:=px-ax) (by omega) (by omega),wrapI (x:=py-ay) (by omega) (by omega),wrapI (x:=px-bx) (by omega) (by omega),wrapI (x:=py-by') (by omega) (by omega)]
 have e1:-1073741824<=bx-ax/\bx-ax<=1073741824:=by omega
 have e2:-1073741824<=by'-ay/\by'-ay<=1073741824:=by omega
 have e3:-1073741824<=px-ax/\px-ax<=1073741824:=by omega
 have e4:-1073741824<=py-ay/\py-ay<=1073741824:=by omega
 have e5:-1073741824<=px-bx/\px-bx<=1073741824:=by omega
 have e6:-1073741824<=py-by'/\py-by'<=1073741824:=by omega
 generalize bx-ax=dx at *
 generalize by'-ay=dy at *
 generalize px-ax=ux at *
 generalize py-ay=uy at *
 generalize px-bx=vx at *
 generalize py-by'=vy at *
 have k:∀ a b c d:Int,(-1073741824<=a/\a<=1073741824)->(-1073741824<=b/\b<=1073741824)->(-1073741824<=c/\c<=1073741824)->(-1073741824<=d/\d<=1073741824)->gT a b c d=a*c+b*d/\-2305843009213693952<=a*c+b*d/\a*c+b*d<=2305843009213693952:=by
  intro a b c d ha hb hc hd
  have m1:=rv ha.1 ha.2 hc.1 hc.2
  have m2:=rv hb.1 hb.2 hd.1 hd.2
  unfold gT
  rw [wrapI (x:=a*c) (by omega) (by omega),wrapI (x:=b*d) (by omega) (by omega),wrapI (by omega) (by omega)]
  exact ⟨rfl,by omega,by omega⟩
 have hr:=rv (x:=r) (y:=r) (A:=1073741824) (B:=1073741824) (by omega) h8 (by omega) h8
 have hr0:0<=r*r:=imn h7 h7
 have s1:0<=dx*dx:=sqN dx
 have s2:0<=dy*dy:=sqN dy
 rw [(k ux uy dx dy e3 e4 e1 e2).1,(k ux uy ux uy e3 e4 e3 e4).1,(k dx dy dx dy e1 e2 e1 e2).1,(k vx vy vx vy e5 e6 e5 e6).1,wrapI (x:=r*r) (by omega) (by omega)]
 have c1:=rv e1.1 e1.2 e4.1 e4.2
 have c2:=rv e2.1 e2.2 e3.1 e3.2
 have d1:=rv e1.1 e1.2 e1.1 e1.2
 have d2:=rv e2.1 e2.2 e2.1 e2.2
 rw [show dH dx dy ux uy=dx*uy-dy*ux from by
  unfold dH
  rw [wrapI (x:=dx*uy) (by omega) (by omega),wrapI (x:=dy*ux) (by omega) (by omega),wrapI (by omega) (by omega)]]
 rw [wrapI (x:=0-(dx*uy-dy*ux)) (by omega) (by omega)]
 rw [Up (by omega) (by omega) (by omega) (by omega) hr0 (by omega) (by omega) (by omega),adK]
end
end
end Go.Dx
namespace Go.Dx
open Go.IntKind (i64 u64 u8)
noncomputable section
def sd (ax ay bx b2 px py:Int):Int:=(bx-ax)*(py-ay)-(b2-ay)*(px-ax)
end
end Go.Dx
namespace Go.Dx
open Go.IntKind (i64 u64 u8)
open Go.Sx
noncomputable section
theorem EA {n d q r:Int} (hd:0<d) (h:n=d*q+r) (h1:0<=r) (h2:r<d):n / d=q:=by
 rw [h,Int.add_comm,Int.add_mul_ediv_left _ _ (by omega),Int.ediv_eq_zero_of_lt h1 h2];omega
theorem rI {n d B:Int} (hd:0<d) (h1:-B<=n) (h2:n<=B):-B<=n / d/\n / d<=B:=by
 constructor
 ·have:-B<=n / d↔-B*d<=n:=Int.le_ediv_iff_mul_le hd
  rw [this]
  by_cases hB:0<=B
  ·have:B*1<=B*d:=iml (by omega) hB
   have e:-B*d=-(B*d):=Int.neg_mul _ _
   omega
  ·omega
 ·have hB:0<=B:=by omega
  have:n / d<B+1↔n<(B+1)*d:=Int.ediv_lt_iff_lt_mul hd
  have h3:(B+1)*1<=(B+1)*d:=iml (by omega) (by omega)
  have:=this.2 (by omega)
  omega
section
variable {n d:Int} (hd:0<d) (hd2:d<=1000000000) (h1:-1000000000000<=n) (h2:n<=1000000000000)
include n d hd hd2 h1 h2
theorem Se:rz n d=n / d:=by
 have hb:=rI hd h1 h2
 unfold rz
 by_cases hn:n<0
 ·rw[dqt hn,cond_true,wrapI (x:=d-1) (by omega) (by omega),wrapI (x:=d-1-n) (by omega) (by omega),ajd (by omega)]
  have e:=Int.mul_ediv_add_emod n d
  have r1:=Int.emod_nonneg n (by omega:d≠0)
  have r2:=Int.emod_lt_of_pos n hd
  have:(d-1-n) / d=-(n / d):=EA (r:=d-1-n % d) hd (by have:d*-(n / d)=-(d*(n / d)):=Int.mul_neg _ _;omega) (by omega) (by omega)
  rw [this,wrapI (x:=-(n / d)) (by omega) (by omega),wrapI (by omega) (by omega)];omega
 ·rw[ef hn,cond_false,ajd (by omega),wrapI (by omega) (by omega)]
theorem AU:GO n d=n / d:=by
 have hb:=rI hd h1 h2
 unfold GO
 by_cases hn:n<0
 ·rw [dqt hn,cond_true]
  have e:=Int.mul_ediv_add_emod n d
  have r1:=Int.emod_nonneg n (by omega:d≠0)
  have r2:=Int.emod_lt_of_pos n hd
  have ht:n.tdiv d=-((-n) / d):=by
   have:n=-(-n):=by omega
   rw [this,Int.neg_tdiv,ajd (by omega)];simp
  have hm:n.tmod d=n-d*n.tdiv d:=Int.tmod_def n d
  by_cases hr:n % d=0
  ·have hq:(-n) / d=-(n / d):=EA (r:=0) hd (by have:d*-(n / d)=-(d*(n / d)):=Int.mul_neg _ _;omega) (by omega) (by omega)
   have ht':n.tdiv d=n / d:=by rw[ht,hq];omega
   have hm0:n.tmod d=0:=by rw[hm,ht'];omega
   rw [hm0,ht']
   exact wrapI (by omega) (by omega)
  ·have h0:d*(-(n / d)-1)=-(d*(n / d))-d:=by rw[Int.mul_sub,Int.mul_neg];omega
   have hq:(-n) / d=-(n / d)-1:=EA (r:=d-n % d) hd (by omega) (by omega) (by omega)
   have ht':n.tdiv d=n / d+1:=by rw[ht,hq];omega
   have hm0:(n.tmod d != 0)=true:=by
    rw [bne_iff_ne,hm,ht',Int.mul_add];omega
   rw [hm0,ht',cond_true]
   have hb1:n / d<0:=by
    have:=rI (n:=n) hd h1 h2
    rw [Int.ediv_lt_iff_lt_mul hd];omega
   rw [wrapI (x:=n / d+1) (by omega) (by omega),wrapI (by omega) (by omega)];omega
 ·rw[ef hn,cond_false,cond_false,ajd (by omega),wrapI (by omega) (by omega)]
end
theorem HQ {x p A B:Int} (h1:-A<=x) (h2:x<=A) (h3:0<=p) (h4:p<=B):-(A*B)<=x*p/\x*p<=A*B:=by
 have hA:0<=A:=by omega
 have a1:x*p<=A*p:=afT h2 h3
 have a2:A*p<=A*B:=iml h4 hA
 have a3:-A*p<=x*p:=afT h1 h3
 rw [Int.neg_mul]at a3
 exact ⟨by omega,by omega⟩
theorem JD {a b p q:Int} (ha:-100000<=a/\a<=100000) (hb:-100000<=b/\b<=100000) (hp:0<=p/\p<=1000) (hq:0<=q/\q<=1000):F80_0 a b p q=ze a b p q/\F80_1 a b p q=zh a b p q:=by
 have m1:=HQ (x:=b-a) (A:=200000) (by omega) (by omega) hp.1 hp.2
 have m2:=HQ (x:=b-a) (A:=200000) (by omega) (by omega) hq.1 hq.2
 unfold F80_0 ze F80_1 zh
 rw [wrapI (x:=1000*a) (by omega) (by omega),wrapI (x:=b-a) (by omega) (by omega),wrapI (x:=(b-a)*p) (by omega) (by omega),wrapI (x:=(b-a)*q) (by omega) (by omega),
  wrapI (x:=1000*a+(b-a)*p) (by omega) (by omega),wrapI (x:=1000*a+(b-a)*q) (by omega) (by omega)]
 generalize (b-a)*p=x at *
 generalize (b-a)*q=y at *
 rw [wrapI (x:=0-max (1000*a+x) (1000*a+y)) (by omega) (by omega)]
 rw [Se (by omega) (by omega) (by omega) (by omega),AU (by omega) (by omega) (by omega) (by omega),Se (by omega) (by omega) (by omega) (by omega),AU (by omega) (by omega) (by omega) (by omega)]
 exact ⟨rfl,rfl⟩
theorem gh {a l h:Int} (hf:gx a l h=true):l<=a/\a<=h:=by
 unfold gx at hf
 by_cases h1:l<=a
 ·rw[dqt h1,cond_true]at hf;exact⟨h1,abg hf⟩
 ·rw[ef h1]at hf;cases hf
theorem GY {l:List V} (h:z6 l=false):0<=aw l/\aw l<aW l/\aW l<=1000:=by
 unfold z6 at h
 simp only [apk]at h
 refine ⟨?_,?_,?_⟩<;>(apply Classical.byContradiction;intro hn)<;>simp_all<;>omega
theorem vk {f4:aL} {i:Nat} (h:cF f4 i=0) :
 (∀ x,x∈[aw (f4 i),aW (f4 i),b7 (f4 i),bV (f4 i)]->-100000<=x/\x<=100000)/\aN (aE (ae (ae (ae (ae (f4 i))))))<=6/\∀ j,j<aN (aE (ae (ae (ae (ae (f4 i))))))->z6 (al gP (bO (aE (ae (ae (ae (ae (f4 i)))))) j))=false:=by
 unfold cF F72 at h
 generalize aw (f4 i)=a at h ⊢
 generalize aW (f4 i)=b at h ⊢
 generalize b7 (f4 i)=c at h ⊢
 generalize bV (f4 i)=d at h ⊢
 generalize aN (aE (ae (ae (ae (ae (f4 i))))))=n at h ⊢
 generalize aE (ae (ae (ae (ae (f4 i)))))=w at h ⊢
 cases hp:LE 4 (aa ac (bc [V.int .i64 a,V.int .i64 b,V.int .i64 c,V.int .i64 d] 0 1)) with
 |false=>rw[hp]at h;cases h
 | true =>
   rw [hp,apb,cond_false]at h
   cases he:(a==c&&(b==d&&true)) with
   |true=>rw[he]at h;cases h
   | false =>
     rw [he,cond_false]at h
     by_cases hn:6<(n:Int)
     ·rw[dqt hn]at h;cases h
     ·rw [ef hn,cond_false]at h
      cases hw:ls n (fun j=>z6 (al gP (bO w j))) with
      |true=>rw[hw]at h;cases h
      | false =>
        unfold LE at hp
        have h0:=gh (cq hp 0 (by omega))
        have h1:=gh (cq hp 1 (by omega))
        have h2:=gh (cq hp 2 (by omega))
        have h3:=gh (cq hp 3 (by omega))
        refine ⟨fun x hx=>?_,by omega,fun j hj=>?_⟩
        ·simp only[ahG,ajR,or_false]at hx
         rcases hx with rfl|rfl|rfl|rfl
         ·exact h0
         ·exact h1
         ·exact h2
         ·exact h3
        ·cases hb:z6 (al gP (bO w j)) with
         |false=>rfl
         |true=>rw[eA j hj hb]at hw;cases hw
section
variable {e1 e2:Int} {bd:Bool} (h:e1=0->e2=(bif bd then 4 else 0))
include e1 e2 bd h
theorem LQ {z v v':Int} (hv:e1=0->bd=false->v=v') :
 (bif e1==0 then bif e2 != 0 then z else v else bif e1 != 0 then z else v)=(bif bif e1==0 then bd else false then z else bif e1 != 0 then z else v'):=by
 by_cases he:e1=0
 ·rw[h he];subst he
  cases bd with
  |true=>rfl
  |false=>exact hv rfl rfl
 ·have h1:(e1==0)=false:=by simpa using he
  have h2:(e1 != 0)=true:=by simpa using he
  rw [h1,h2];rfl
theorem akf :
 (bif e1==0 then bif e2 != 0 then e2 else 0 else bif e1 != 0 then e1 else 0)=(bif bif e1==0 then bd else false then 4 else bif e1 != 0 then e1 else 0):=by
 by_cases he:e1=0
 ·rw[h he];subst he
  cases bd<;>rfl
 ·have h1:(e1==0)=false:=by simpa using he
  have h2:(e1 != 0)=true:=by simpa using he
  rw [h1,h2];rfl
end
theorem ww {e i m:Int} (h:ix1 e i m=0):e=0/\0<=i/\i<m:=by
 unfold ix1 at h
 cases he:e==0 with
 |false=>rw[he,cond_false]at h;rw[h]at he;cases he
 | true =>
   rw [he,cond_true]at h
   refine ⟨ajV he,?_⟩
   unfold oc at h
   by_cases h1:i<0
   ·rw[dqt h1]at h;cases h
   ·rw[ef h1,cond_false]at h
    by_cases h2:m<=i
    ·rw[dqt h2]at h;cases h
    ·omega
theorem xx {i m:Int} (h:oc i m=false):0<=i/\i<m:=by
 unfold oc at h
 by_cases h1:i<0
 ·rw[dqt h1]at h;cases h
 ·rw[ef h1,cond_false]at h
  have:=abu h
  omega
section
variable {n0:Nat} {f0:aL} {n2:Nat} {f2:aL} {n4:Nat} {f4:aL} {n6:Nat} {f6:aL}
theorem hJ (x8 x9:Int):pg n0 f0 n2 f2 n4 f4 n6 f6 x8 x9=tW n0 f0 n2 f2 n4 f4 n6 f6 x8 x9/\pI n0 f0 n2 f2 n4 f4 n6 f6 x8 x9=to n0 f0 n2 f2 n4 f4 n6 f6 x8 x9/\pn n0 f0 n2 f2 n4 f4 n6 f6 x8 x9=te n0 f0 n2 f2 n4 f4 n6 f6 x8 x9/\pA n0 f0 n2 f2 n4 f4 n6 f6 x8 x9=tQ n0 f0 n2 f2 n4 f4 n6 f6 x8 x9
 /\ qH n0 f0 n2 f2 n4 f4 n6 f6 x8 x9=yL n0 f0 n2 f2 n4 f4 n6 f6 x8 x9/\ri n0 f0 n2 f2 n4 f4 n6 f6 x8 x9=yX n0 f0 n2 f2 n4 f4 n6 f6 x8 x9/\ru n0 f0 n2 f2 n4 f4 n6 f6 x8 x9=G8 n0 f0 n2 f2 n4 f4 n6 f6 x8 x9:=by
 have hc:=agi (n0:=n0) (f0:=f0) (n2:=n2) (f2:=f2) (n4:=n4) (f4:=f4) (n6:=n6) (f6:=f6) (i:=x8) (m:=n4) (fun h=>by have:=(tX h).l4;omega)
 have hd:=Ul (n0:=n0) (f0:=f0) (n2:=n2) (f2:=f2) (n4:=n4) (f4:=f4) (n6:=n6) (f6:=f6) (i:=x8) (m:=n4)
 have hin:ix1 (fv n0 (aa aB f0) n2 (aa aG f2) n4 (aa aH f4) n6 (aa aA f6)) x8 n4=0->fv n0 (aa aB f0) n2 (aa aG f2) n4 (aa aH f4) n6 (aa aA f6)=0/\cF f4 x8.toNat=0:=fun h=>by
  obtain ⟨h1,h2,h3⟩:=ww h
  exact ⟨h1,(tX h1).fr x8.toNat (by omega)⟩
 have he:ix1 (fv n0 (aa aB f0) n2 (aa aG f2) n4 (aa aH f4) n6 (aa aA f6)) x8 n4=0->jd n0 (aa aB f0) n2 (aa aG f2) n4 (aa aH f4) n6 (aa aA f6) 2 (aa ac (bc [vi x9,vi (aN (aE (ae (ae (ae (ae (f4 x8.toNat)))))))] 0 1))=(bif oc x9 (aN (aE (ae (ae (ae (ae (f4 x8.toNat))))))) then 4 else 0):=fun h=>by
  obtain ⟨h1,h2⟩:=hin h
  have:=(vk h2).2.1
  rw [agi (fun _=>by omega),h1];rfl
 have hv:ix1 (fv n0 (aa aB f0) n2 (aa aG f2) n4 (aa aH f4) n6 (aa aA f6)) x8 n4=0->oc x9 (aN (aE (ae (ae (ae (ae (f4 x8.toNat)))))))=false ->
  (∀ x,x∈[aw (f4 x8.toNat),aW (f4 x8.toNat),b7 (f4 x8.toNat),bV (f4 x8.toNat)]->-100000<=x/\x<=100000)/\z6 (bO (aE (ae (ae (ae (ae (f4 x8.toNat)))))) x9.toNat)=false:=fun h hb=>by
  obtain ⟨h1,h2⟩:=hin h
  obtain ⟨g1,g2,g3⟩:=vk h2
  obtain ⟨k1,k2⟩:=xx hb
  exact ⟨g1,g3 x9.toNat (by omega)⟩
 unfold pg pI pn pA qH ri ru tW to te tQ yL yX G8
 rw [hc,hd]
 refine ⟨LQ he fun a b=>?_,LQ he fun a b=>?_,LQ he fun a b=>?_,LQ he fun a b=>?_,LQ he fun _ _=>rfl,LQ he fun _ _=>rfl,akf he⟩ <;>
 ·obtain⟨g1,g2⟩:=hv a b
  have w:=GY g2
  have s1:=JD (g1 (aw (f4 x8.toNat)) (by simp)) (g1 (b7 (f4 x8.toNat)) (by simp)) (p:=aw (bO (aE (ae (ae (ae (ae (f4 x8.toNat)))))) x9.toNat)) (q:=aW (bO (aE (ae (ae (ae (ae (f4 x8.toNat)))))) x9.toNat)) (by omega) (by omega)
  have s2:=JD (g1 (aW (f4 x8.toNat)) (by simp)) (g1 (bV (f4 x8.toNat)) (by simp)) (p:=aw (bO (aE (ae (ae (ae (ae (f4 x8.toNat)))))) x9.toNat)) (q:=aW (bO (aE (ae (ae (ae (ae (f4 x8.toNat)))))) x9.toNat)) (by omega) (by omega)
  first|exact s1.1|exact s2.1|exact s1.2|exact s2.2
end
end
end Go.Dx
namespace Go.Dx
open Go.Sx
noncomputable section
section
variable {ax ay bx b2 px py r:Int}
theorem aq1 (h1:sm ax) (h2:sm ay) (h3:sm bx) (h4:sm b2) (h5:sm px) (h6:sm py):dH (bo bx ax) (bn b2 ay) (bo px ax) (bn py ay)=sd ax ay bx b2 px py/\-4611686018427387904<=sd ax ay bx b2 px py/\sd ax ay bx b2 px py<=4611686018427387904:=by
 unfold sm at *
 unfold sd dH bo bn
 rw [wrapI (x:=bx-ax) (by omega) (by omega),wrapI (x:=b2-ay) (by omega) (by omega),wrapI (x:=px-ax) (by omega) (by omega),wrapI (x:=py-ay) (by omega) (by omega)]
 have c1:=rv (x:=bx-ax) (y:=py-ay) (A:=1073741824) (B:=1073741824) (by omega) (by omega) (by omega) (by omega)
 have c2:=rv (x:=b2-ay) (y:=px-ax) (A:=1073741824) (B:=1073741824) (by omega) (by omega) (by omega) (by omega)
 rw [wrapI (x:=(bx-ax)*(py-ay)) (by omega) (by omega),wrapI (x:=(b2-ay)*(px-ax)) (by omega) (by omega),wrapI (by omega) (by omega)]
 exact ⟨rfl,by omega,by omega⟩
end
theorem P7 (a b c d:Int):wU a b c d=!J1 a b c d:=by
 unfold wU J1
 rw [iG]
 generalize LE _ _=p
 have e1:decide (c<a)=!decide (a<=c):=by by_cases h:a<=c<;>simp[h]<;>omega
 have e2:decide (d<b)=!decide (b<=d):=by by_cases h:b<=d<;>simp[h]<;>omega
 rw [e1,e2]
 generalize decide (a<=c)=q
 generalize decide (b<=d)=u
 cases p<;>cases q<;>cases u<;>rfl
theorem NO {a b c d:Int} (h:J1 a b c d=true):(-100000<=a/\a<=100000)/\(-100000<=b/\b<=100000)/\(-100000<=c/\c<=100000)/\(-100000<=d/\d<=100000)/\a<=c/\b<=d:=by
 unfold J1 at h
 cases hp:LE 4 (aa [Ty.int IntKind.i64] (bc [V.int IntKind.i64 a,V.int IntKind.i64 b,V.int IntKind.i64 c,V.int IntKind.i64 d] 0 1)) with
 |false=>rw[hp]at h;cases h
 | true =>
   rw [hp,cond_true]at h
   by_cases h1:a<=c
   ·rw[arm h1,cond_true]at h
    have h2:=abg h
    unfold LE at hp
    exact ⟨gh (cq hp 0 (by omega)),gh (cq hp 1 (by omega)),gh (cq hp 2 (by omega)),gh (cq hp 3 (by omega)),h1,h2⟩
   ·rw[decide_eq_false h1]at h;cases h
theorem QZ {x y:Int} (h:tY x y=true):(-100000<=x/\x<=100000)/\(-100000<=y/\y<=100000):=by
 unfold tY LE at h
 exact ⟨gh (cq h 0 (by omega)),gh (cq h 1 (by omega))⟩
end
end Go.Dx
namespace Go.Dx
noncomputable section
def q2 (x y:Int):Int:=x*x+y*y
abbrev P2:=Int×Int
def Md (a b p:P2):Int:=sd a.1 a.2 b.1 b.2 p.1 p.2
def qc (a b:P2):Prop:=a.1<b.1∨(a.1=b.1/\a.2<b.2)
def Mb (a b:P2):Prop:=a.1<b.1∨(a.1=b.1/\a.2<=b.2)
section
variable {a b c p q t a':P2}
theorem oV (h1:qc a b) (h2:qc b c):qc a c:=by unfold qc at *;omega
theorem aiH (h1:qc a b):Mb a b:=by unfold qc Mb at *;omega
theorem Ai (a:P2):¬ qc a a:=by unfold qc;omega
theorem Zt (a b:P2):qc a b∨a=b∨qc b a:=by
 by_cases h:a.1=b.1/\a.2=b.2
 ·exact .inr (.inl (Prod.ext h.1 h.2))
 ·unfold qc;omega
end
def mi (p:P2):List P2->List P2
 |b::a::l=>bif decide (Md a b p<=0) then mi p (a::l) else b::a::l
 |l=>l
def cB:List P2->List P2->List P2
 |st,[]=>st
 |st,p::l=>cB (p::mi p st) l
end
noncomputable section
def js:List P2->List P2
 |[]=>[]
 |[a]=>[a]
 |a::b::l=>(cB [] (a::b::l)).tail.reverse++(cB [] (a::b::l).reverse).tail.reverse
def jk (l:List P2) (i:Nat):P2:=l.getD i (0,0)
def nrp (a b m:P2) (r:Int):Bool:=nr a.1 a.2 b.1 b.2 m.1 m.2 r
def TP (H:List P2) (m:P2) (r:Int):Prop:=(∃ i,i<H.length/\nrp (jk H i) (jk H ((i+1) % H.length)) m r=true)∨(2<H.length/\∀ i,i<H.length->0<Md (jk H i) (jk H ((i+1) % H.length)) m)
section
variable {D:P2->Prop} {A B:List P2} {z m:P2}
theorem xe {l:List P2} {i:Nat} (h:i<l.length):l[i]? = some (jk l i):=by
 unfold jk;rw[ach h];simp[List.getD,ach h]
end
end
end Go.Dx
namespace Go.Dx
open Go.Sx
noncomputable section
abbrev ty2:List Ty:=[Ty.int IntKind.i64,Ty.int IntKind.i64]
def pq (f:aL) (i:Nat):P2:=(aw (f i),aW (f i))
def FQ (p:P2):List V:=[V.int .i64 p.1,V.int .i64 p.2]
theorem qN (f:aL) (i:Nat):pq (aa ty2 f) i=pq f i:=rfl
def ptL (n:Nat) (f:aL):List P2:=(List.range n).map (pq f)
theorem di (n:Nat) (f:aL):(ptL n f).length=n:=by simp[ptL]
theorem wo {n:Nat} {f:aL} {k:Nat} (h:k<n):(ptL n f)[k]? = some (pq f k):=by simp[ptL,h]
theorem aiZ (n:Nat) (f:aL):ptL n (aa ty2 f)=ptL n f:=rfl
theorem qD {n:Nat} {f:aL} {q:P2}:q∈ptL n f↔∃ k,k<n/\pq f k=q:=by simp[ptL]
theorem yan (n:Nat) (f:aL) (p:P2):ptL (n+1) (bh n (aa ty2 f) fun _=>FQ p)=ptL n f++[p]:=by
 unfold ptL
 rw [List.range_succ,List.map_append]
 congr 1
 ·refine anf fun k hk=>?_
  have hk:=List.mem_range.1 hk
  unfold pq bh
  rw [show Nat.blt k n=true from adr hk];rfl
 ·simp only [ahC,apm,abA,aoW]
  unfold pq bh
  have:Nat.blt n n=false:=by
   cases hb:Nat.blt n n with
   |false=>rfl
   |true=>have:=aaF hb;omega
  rw [this];rfl
theorem Dl {n m:Nat} {f:aL} (h:m<=n):ptL m f=(ptL n f).take m:=by
 unfold ptL
 rw [← List.map_take,List.take_range,aoa h]
theorem Fs {f:aL} {j k:Nat} {l:List V}:pq (fun i=>bif Nat.beq i j then l else f i) k=if k=j then(aw l,aW l) else pq f k:=by
 unfold pq
 dsimp only
 by_cases h:k=j
 ·subst h;rw[aby rfl,apl];rfl
 ·rw [aaT h]
  have:Nat.beq k j=false:=by
   cases hb:Nat.beq k j with
   |false=>rfl
   |true=>exact(h (aax hb)).elim
  rw [this];rfl
theorem LA {a b c:P2} (h1:Mb a b) (h2:Mb b c):Mb a c:=by unfold Mb at *;omega
theorem Ky {a b:P2} (h:¬ qc a b):Mb b a:=by unfold qc Mb at *;omega
theorem C1 {a b:P2} (h:Mb a b) (hn:¬ (b.1=a.1/\b.2=a.2)):qc a b:=by unfold qc Mb at *;omega
def swF (f:aL) (i j:Nat):Nat->List V:=fun i'=>bif Nat.beq i' j then FQ (pq f i) else bif Nat.beq i' i then FQ (pq f j) else aa ty2 f i'
theorem wa (f:aL) (i j k:Nat):pq (swF f i j) k=if k=j then pq f i else if k=i then pq f j else pq f k:=by
 unfold swF
 rw [Fs]
 by_cases h:k=j
 ·rw[aby h,aby h];rfl
 ·rw[aaT h,aaT h]
  have:=Fs (f:=aa ty2 f) (j:=i) (k:=k) (l:=FQ (pq f j))
  rw [this];rfl
section
variable {N:Nat} {D:P2->Prop}
def kZ (N:Nat) (D:P2->Prop) (f:aL):Prop:=∀ q,D q↔∃ k,k<N/\pq f k=q
def Srt (i:Nat) (f:aL):Prop:=∀ a b,a<b->b<i->Mb (pq f a) (pq f b)
def J5 (i:Nat) (f:aL):Prop:=∀ a b,a<b->b<i->qc (pq f a) (pq f b)
theorem aff {f:aL} {i j:Nat} (hi:i<N) (hj:j<N) (h:kZ N D f):kZ N D (swF f i j):=fun q=>by
 rw [h q]
 constructor
 ·rintro ⟨k,hk,e⟩
  by_cases h1:k=i
  ·exact⟨j,hj,by rw[wa,aby rfl,← h1];exact e⟩
  ·by_cases h2:k=j
   ·refine⟨i,hi,?_⟩
    rw [wa]
    by_cases h3:i=j
    ·rw[aby h3];rw[h3,← h2];exact e
    ·rw[aaT h3,aby rfl,← h2];exact e
   ·exact⟨k,hk,by rw[wa,aaT h2,aaT h1];exact e⟩
 ·rintro ⟨k,hk,e⟩
  rw [wa]at e
  by_cases h2:k=j
  ·rw[aby h2]at e;exact⟨i,hi,e⟩
  ·rw[aaT h2]at e
   by_cases h1:k=i
   ·rw[aby h1]at e;exact⟨j,hj,e⟩
   ·rw[aaT h1]at e;exact⟨k,hk,e⟩
theorem wO {P0:Nat->(Nat->List V)->Prop} {P1:Nat->Nat->(Nat->List V)->Prop}
 (s0:∀ i f,1<=i->i<N->P1 i i (aa ty2 f)->P0 i f)
 (s0e:∀ f,Srt N f->kZ N D f->P0 N f)
 (s1a:∀ j i f,0<j->j<=i->i<N->kZ N D f->qc (pq f j) (pq f (j-1))->P1 (j-1) i (swF f j (j-1))->P1 j i f)
 (s1b:∀ j i f,j<=i->i<N->kZ N D f->(0<j->¬ qc (pq f j) (pq f (j-1)))->P0 (i+1) (aa ty2 f)->P1 j i f) :
 ∀ m i f,i+m=N->1<=i->Srt i f->kZ N D f->P0 i f
 | 0,i,f,h1,_,h2,h3=>by
   rw [show i=N by omega]at h2 ⊢;exact s0e f h2 h3
 | m + 1, i,f,h1,hi,h2,h3=>by
   refine s0 i f hi (by omega) ?_
   have key:∀ j f,j<=i->(∀ a b,a<b->b<=i->b≠j->Mb (pq f a) (pq f b))->kZ N D f->P1 j i f:=by
    intro j
    induction j with
    | zero =>
      intro f hj hins hm
      refine s1b 0 i f hj (by omega) hm (fun h=>by omega) (wO s0 s0e s1a s1b m (i+1) _ (by omega) (by omega) (fun a b hab hb=>?_) hm)
      exact hins a b hab (by omega) (by omega)
    | succ j ih =>
      intro f hj hins hm
      by_cases hlt:qc (pq f (j+1)) (pq f j)
      ·refine s1a (j+1) i f (by omega) hj (by omega) hm hlt (ih _ (by omega) (fun a b hab hb hbj=>?_) (aff (by omega) (by omega) hm))
       simp only [Nat.add_sub_cancel]at *
       rw [wa,wa]
       by_cases b1:b=j+1
       ·subst b1
        rw [aaT (by omega:¬ j+1=j),aby rfl]
        by_cases a1:a=j
        ·rw[aby a1];exact aiH hlt
        ·rw[aaT a1,aaT (by omega)]
         exact hins a j (by omega) (by omega) (by omega)
       ·rw [aaT hbj,aaT b1]
        by_cases a1:a=j
        ·rw[aby a1];exact hins (j+1) b (by omega) hb (by omega)
        ·rw[aaT a1]
         by_cases a2:a=j+1
         ·rw[aby a2];exact hins j b (by omega) hb (by omega)
         ·rw[aaT a2];exact hins a b hab hb (by omega)
      ·refine s1b (j+1) i f hj (by omega) hm (fun _=>hlt) (wO s0 s0e s1a s1b m (i+1) _ (by omega) (by omega) (fun a b hab hb=>?_) hm)
       rw [qN,qN]
       by_cases b1:b=j+1
       ·subst b1
        have k:=Ky hlt
        by_cases a1:a=j
        ·subst a1;exact k
        ·exact LA (hins a j (by omega) (by omega) (by omega)) k
       ·exact hins a b hab (by omega) b1
   exact key i _ (aaS _) (fun a b hab hb hbi=>h2 a b hab (by omega)) h3
theorem CL {P2':Nat->(Nat->List V)->Prop} {P3:Nat->Nat->Nat->(Nat->List V)->Prop}
 (ce:∀ f,J5 N f->kZ N D f->P2' N f)
 (cn:∀ i f,1<=i->i<N->¬ ((pq f i).1=(pq f (i-1)).1/\(pq f i).2=(pq f (i-1)).2)->P2' (i+1) (aa ty2 f)->P2' i f)
 (cd:∀ i f,1<=i->i<N->((pq f i).1=(pq f (i-1)).1/\(pq f i).2=(pq f (i-1)).2)->P3 1 i i (aa ty2 f)->P2' i f)
 (ds:∀ k off m f,1<=k->off+k<N->1<=m->m<=off+k-1->¬ ((pq f (off+k)).1=(pq f (off+(k-1))).1/\(pq f (off+k)).2=(pq f (off+(k-1))).2) ->
   P3 (k+1) off (m+1) (fun i'=>bif Nat.beq i' m then FQ (pq f (off+k)) else aa ty2 f i')->P3 k off m f)
 (dn:∀ k off m f,1<=k->off+k<N->1<=m->m<=off+k-1->((pq f (off+k)).1=(pq f (off+(k-1))).1/\(pq f (off+k)).2=(pq f (off+(k-1))).2)->P3 (k+1) off m (aa ty2 f)->P3 k off m f)
 (de:∀ off m f,off<N->1<=m->m<N->J5 m f->kZ m D f->P3 (N-off) off m f) :
 ∀ m i f,i+m=N->1<=i->Srt N f->J5 i f->kZ N D f->P2' i f
 | 0,i,f,h1,_,_,h2,h3=>by
   rw [show i=N by omega]at h2 ⊢;exact ce f h2 h3
 | m + 1, i,f,h1,hi,hS,h2,h3=>by
   by_cases he:(pq f i).1=(pq f (i-1)).1/\(pq f i).2=(pq f (i-1)).2
   ·refine cd i f hi (by omega) he ?_
    have key:∀ r k m g,k+r=N-i->1<=k->i<=m->m<=i+k-1->(∀ t,i+k-1<=t->t<N->pq g t=pq f t)->J5 m g->(∀ q,(∃ a,a<m/\pq g a=q)↔∃ a,a<i+k/\pq f a=q)->pq g (m-1)=pq f (i+k-1)->P3 k i m g:=by
     intro r
     induction r with
     | zero =>
       intro k m g hk hk1 him hm hu hss hmem hl
       rw [show k=N-i by omega]at *
       refine de i m g (by omega) (by omega) (by omega) hss fun q=>?_
       rw [h3 q,hmem q,show i+(N-i)=N by omega]
     | succ r ih =>
       intro k m g hk hk1 him hm hu hss hmem hl
       have u1:=hu (i+k) (by omega) (by omega)
       have u2:=hu (i+(k-1)) (by omega) (by omega)
       rw [show i+k-1=i+(k-1) by omega]at hl
       by_cases hd:(pq g (i+k)).1=(pq g (i+(k-1))).1/\(pq g (i+k)).2=(pq g (i+(k-1))).2
       ·refine dn k i m g hk1 (by omega) (by omega) hm hd (ih (k+1) m _ (by omega) (by omega) him (by omega) (fun t ht=>hu t (by omega)) hss (fun q=>?_) ?_)
        ·have:=hmem q
         simp only [qN]
         rw [this]
         constructor
         ·rintro⟨a,ha,e⟩;exact⟨a,by omega,e⟩
         ·rintro ⟨a,ha,e⟩
          by_cases ea:a=i+k
          ·subst ea
           refine ⟨i+(k-1),by omega,?_⟩
           rw [← e,← u1,← u2];exact(Prod.ext hd.1 hd.2).symm
          ·exact⟨a,by omega,e⟩
        ·rw[qN,hl,show i+(k+1)-1=i+k by omega,← u1,← u2];exact(Prod.ext hd.1 hd.2).symm
       ·have hlt:qc (pq g (m-1)) (pq g (i+k)):=by
         refine C1 ?_ ?_
         ·rw[hl,u1];exact hS _ _ (by omega) (by omega)
         ·rw[hl,← u2];exact hd
        have hs:∀ t,pq (fun i'=>bif Nat.beq i' m then FQ (pq g (i+k)) else aa ty2 g i') t=if t=m then pq g (i+k) else pq g t:=fun t=>by rw[Fs];rfl
        refine ds k i m g hk1 (by omega) (by omega) hm hd (ih (k+1) (m+1) _ (by omega) (by omega) (by omega) (by omega) (fun t ht htN=>?_) (fun a b hab hb=>?_) (fun q=>?_) ?_)
        ·rw[hs,aaT (by omega)];exact hu t (by omega) htN
        ·rw [hs,hs]
         by_cases b1:b=m
         ·rw[aaT (by omega),aby b1]
          by_cases a1:a=m-1
          ·rw[a1];exact hlt
          ·exact oV (hss a (m-1) (by omega) (by omega)) hlt
         ·rw[aaT (by omega),aaT b1];exact hss a b hab (by omega)
        ·constructor
         ·rintro ⟨a,ha,e⟩
          rw [hs]at e
          by_cases a1:a=m
          ·rw[aby a1]at e;exact⟨i+k,by omega,by rw[← u1];exact e⟩
          ·rw[aaT a1]at e
           obtain ⟨c,hc,e'⟩:=(hmem q).1 ⟨a,by omega,e⟩
           exact ⟨c,by omega,e'⟩
         ·rintro ⟨a,ha,e⟩
          by_cases a1:a=i+k
          ·exact⟨m,by omega,by rw[hs,aby rfl,u1,← a1];exact e⟩
          ·obtain⟨c,hc,e'⟩:=(hmem q).2 ⟨a,by omega,e⟩
           exact ⟨c,by omega,by rw[hs,aaT (by omega)];exact e'⟩
        ·rw[hs,Nat.add_sub_cancel,aby rfl,show i+(k+1)-1=i+k by omega,u1]
    refine key (N-i-1) 1 i _ (by omega) (aaS _) (aaS _) (by omega) (fun t _ _=>qN f t) h2 (fun q=>?_) ?_
    ·simp only [qN]
     constructor
     ·rintro⟨a,ha,e⟩;exact⟨a,by omega,e⟩
     ·rintro⟨a,ha,e⟩
      by_cases ea:a=i
      ·subst ea;exact⟨a-1,by omega,by rw[← e];exact(Prod.ext he.1 he.2).symm⟩
      ·exact⟨a,by omega,e⟩
    ·rw[qN,show i+1-1=i by omega];exact(Prod.ext he.1 he.2).symm
   ·refine cn i f hi (by omega) he (CL ce cn cd ds dn de m (i+1) _ (by omega) (by omega) hS (fun a b hab hb=>?_) h3)
    rw [qN,qN]
    by_cases b1:b=i
    ·subst b1
     have hlt:qc (pq f (b-1)) (pq f b):=C1 (hS _ _ (by omega) (by omega)) he
     by_cases a1:a=b-1
     ·rw[a1];exact hlt
     ·exact oV (h2 a (b-1) (by omega) (by omega)) hlt
    ·exact h2 a b hab (by omega)
end
theorem BD {N:Nat} {g:Nat->P2} {P:Nat->Nat->(Nat->List V)->Prop} (r1:∀ i j f,i<j->j<N->P (i+1) (j-1) (swF f i j)->P i j f)
 (r2:∀ i j f,¬ i<j->(∀ k,k<N->pq f k=g (N-1-k))->P i j f) :
 ∀ m i j f,j-i<=m->i+j+1=N->(∀ k,k<N->pq f k=if k<i∨j<k then g (N-1-k) else g k)->P i j f
 | m, i, j,f,hm,hN,h=>by
   by_cases hij:i<j
   ·match m,hm with
    |0,hm=>omega
    | m + 1,hm =>
      refine r1 i j f hij (by omega) (BD r1 r2 m (i+1) (j-1) _ (by omega) (by omega) fun k hk=>?_)
      rw [wa]
      by_cases k1:k=j
      ·rw[aby k1,aby (by omega),h i (by omega),aaT (by omega),show N-1-k=i by omega]
      ·rw [aaT k1]
       by_cases k2:k=i
       ·rw[aby k2,aby (by omega),h j (by omega),aaT (by omega),show N-1-k=j by omega]
       ·rw[aaT k2,h k hk]
        by_cases k3:k<i∨j<k
        ·rw[aby k3,aby (by omega)]
        ·rw[aaT k3,aaT (by omega)]
   ·refine r2 i j f hij fun k hk=>?_
    rw [h k hk]
    by_cases k3:k<i∨j<k
    ·rw[aby k3]
    ·rw[aaT k3,show N-1-k=k by omega]
theorem lQ {base c:List P2} {PO:Nat->Nat->(Nat->List V)->Prop} {PI:Nat->Nat->Nat->(Nat->List V)->Prop} {M:Nat} (hM:base.length+c.length<=M)
 (hO:∀ i n fo,i<c.length->n<=M->PI i n n (aa ty2 fo)->PO i n fo)
 (hpop:∀ i n cap fo,i<c.length->base.length+1<n->n<=cap->cap<=M->(∀ k,k<n->pq fo k∈base∨pq fo k∈c)->Md (pq fo (n-2)) (pq fo (n-1)) (jk c i)<=0->PI i (n-1) cap (aa ty2 fo)->PI i n cap fo)
 (happ:∀ i n cap fo,i<c.length->base.length<=n->(∀ k,k<n->pq fo k∈base∨pq fo k∈c)->(base.length+1<n->0<Md (pq fo (n-2)) (pq fo (n-1)) (jk c i))->n<=cap->cap<=M->PO (i+1) (n+1) (bh n (aa ty2 fo) fun _=>FQ (jk c i))->PI i n cap fo)
 (hE:∀ n fo,ptL n fo=base++(cB [] c).reverse->PO c.length n fo) :
 ∀ (l done st:List P2) (n:Nat) (fo:aL),c=done++l->cB st l=cB [] c->ptL n fo=base++st.reverse->st.length<=done.length->(∀ q∈st,q∈c)->PO done.length n fo
 | [],done,st,n,fo,h1,h2,h3,_,_=>by
   rw [apz]at h1
   rw [← h1]
   simp only [cB]at h2
   exact hE n fo (by rw[h3,h2])
 | p :: l, done,st,n,fo,h1,h2,h3,h4,h5=>by
   have hlen:done.length<c.length:=by rw[h1];simp
   have hp:jk c done.length=p:=by
    have:=xe (l:=c) hlen
    rw [h1,abv (aaS _),Nat.sub_self]at this
    simp only [acM,aaB]at this
    rw [h1];exact this.symm
   have hnn:∀ {st:List P2} {n fo},ptL n fo=base++st.reverse->n=base.length+st.length:=fun {st n fo} h=>by
    have:=congrArg List.length h
    rwa [di,aft,ajP]at this
   have hn:=hnn h3
   have hpc:p∈c:=by rw[h1];simp
   have hel:∀ {st:List P2} {n fo},(∀ q∈st,q∈c)->ptL n fo=base++st.reverse->∀ k,k<n->pq fo k∈base∨pq fo k∈c:=fun {st n fo} hs h k hk=>by
    have:pq fo k∈base++st.reverse:=by rw[← h];exact qD.2 ⟨k,hk,rfl⟩
    rcases List.mem_append.1 this with h|h
    ·exact .inl h
    ·exact .inr (hs _ (List.mem_reverse.1 h))
   refine hO done.length n fo hlen (by omega) ?_
   have fin:∀ (st':List P2) (n:Nat) (fo:aL),mi p st'=st'->st'.length<=done.length->(∀ q∈st',q∈c)->mi p st'=mi p st->ptL n fo=base++st'.reverse->PO (done.length+1) (n+1) (bh n (aa ty2 fo) fun _=>FQ (jk c done.length)):=fun st' n fo e0 hl' hs' e hl=>by
    have:=lQ hM hO hpop happ hE l (done++[p]) (p::st') (n+1) (bh n (aa ty2 fo) fun _=>FQ (jk c done.length)) (by rw[h1];simp) (by rw[← h2];simp only[cB];rw[← e,e0]) (by rw[yan,hl,hp];simp) (by simp;omega) (fun q hq=>by
     rcases List.mem_cons.1 hq with rfl|hq
     ·exact hpc
     ·exact hs' q hq)
    rwa [aft,List.length_singleton]at this
   have key:∀ (st':List P2) (n:Nat) (fo:aL),st'.length<=done.length->(∀ q∈st',q∈c)->mi p st'=mi p st->ptL n fo=base++st'.reverse->∀ cap,n<=cap->cap<=M->PI done.length n cap fo:=by
    intro st'
    induction st' with
    | nil =>
      intro n fo hsl hss hpop' hl cap hc hcM
      have hn':=hnn hl
      simp only [ajG]at hn'
      refine happ done.length n cap fo hlen (by omega) (hel hss hl) (fun h=>by omega) hc hcM (fin [] n fo rfl hsl hss hpop' hl)
    | cons b st' ih =>
      intro n fo hsl hss hpop' hl cap hc hcM
      cases st' with
      | nil =>
        have hn':=hnn hl
        simp only [adM,ajG]at hn'
        exact happ done.length n cap fo hlen (by omega) (hel hss hl) (fun h=>by omega) hc hcM (fin [b] n fo rfl hsl hss hpop' hl)
      | cons a l' =>
        have hn':=hnn hl
        simp only [adM]at hn'
        have e1:pq fo (n-1)=b:=by
         have:=wo (f:=fo) (n:=n) (k:=n-1) (by omega)
         rw [hl,abv (by omega),aoZ,aoZ,abv (by simp;omega)]at this
         have e:n-1-base.length-(l'.reverse++[a]).length=0:=by simp;omega
         rw [e]at this
         simp only [acM,aaB]at this
         exact this.symm
        have e2:pq fo (n-2)=a:=by
         have:=wo (f:=fo) (n:=n) (k:=n-2) (by omega)
         rw [hl,abv (by omega),aoZ,aoZ,aaQ (by simp;omega),abv (by simp;omega)]at this
         have e:n-2-base.length-l'.reverse.length=0:=by simp;omega
         rw [e]at this
         simp only [acM,aaB]at this
         exact this.symm
        by_cases hs:Md a b p<=0
        ·refine hpop done.length n cap fo hlen (by omega) hc hcM (hel hss hl) (by rw[e1,e2,hp];exact hs) (ih (n-1) _ (by simp only[adM]at hsl ⊢;omega) (fun q hq=>hss q (adx _ hq)) ?_ ?_ cap (by omega) hcM)
         ·rw[← hpop']
          simp only [mi]
          rw [dqt hs];rfl
         ·rw[aiZ,Dl (n:=n) (by omega),hl]
          rw [aoZ (a:=b),← amO,ajK (by simp;omega),ajO (by simp;omega)]
        ·refine happ done.length n cap fo hlen (by omega) (hel hss hl) (fun _=>by rw[e1,e2,hp];omega) hc hcM (fin (b::a::l') n fo ?_ hsl hss hpop' hl)
         simp only [mi]
         rw [ef hs];rfl
   exact key st n (aa ty2 fo) h4 h5 rfl h3 n (aaS _) (by omega)
def oB (p:P2):Prop:=sm p.1/\sm p.2
theorem anU {a b:P2} (ha:oB a) (hb:oB b):decide (qa a.1 a.2 b.1 b.2<0)=true↔qc a b:=by
 unfold oB sm at ha hb
 unfold qa qc
 rw [abN]
 by_cases h:a.1=b.1
 ·have:(a.1 != b.1)=false:=by simp[h]
  rw [this,cond_false,wrapI (by omega) (by omega)];omega
 ·have:(a.1 != b.1)=true:=by simp[h]
  rw [this,cond_true,wrapI (by omega) (by omega)];omega
theorem XZ {a b p:P2} (ha:oB a) (hb:oB b) (hp:oB p):gJ a.1 a.2 b.1 b.2 p.1 p.2=Md a b p:=by
 unfold gJ;exact(aq1 ha.1 ha.2 hb.1 hb.2 hp.1 hp.2).1
theorem nrT {a b p:P2} {r:Int} (ha:oB a) (hb:oB b) (hp:oB p) (h7:0<=r) (h8:r<=1073741824):ja a.1 a.2 b.1 b.2 p.1 p.2 r=nrp a b p r:=adX ha.1 ha.2 hb.1 hb.2 hp.1 hp.2 h7 h8
theorem eqB (a b c d:Int):(a==b&&(c==d&&true))=decide (a=b/\c=d):=by
 by_cases h1:a=b<;>by_cases h2:c=d<;>simp[h1,h2]
theorem xV {j:Nat} (h:0<j) (hj:j<=1000):wI ((j:Int)-1)=((j-1:Nat):Int):=by rw[wrapI (by omega) (by omega)];omega
theorem wm2 {j:Nat} (h:1<j) (hj:j<=1000):wI ((j:Int)-2)=((j-2:Nat):Int):=by rw[wrapI (by omega) (by omega)];omega
theorem E6 {j:Nat} (hj:j<=1000):wI ((j:Int)+1)=((j+1:Nat):Int):=by rw[wrapI (by omega) (by omega)];omega
theorem gE {S:Type} {Nx:S->V->Prop} {r:V} {C b1 b2 b3 b4 s:Bool} {X Y Z:RT S} (hb:C=true->b1=true/\b2=true/\b3=true/\b4=true) (hX:C=true->s=true->aX Nx X r) (hY:C=true->s=false->aX Nx Y r) (hZ:C=false->aX Nx Z r) :
 aX Nx (.obi (.obi (.obi (.obi (.obj C b1 (.obi (.obj C b2 (.obi (.obi (.obi (.obi (.obj C b3 (.obi (.obj C b4 (.obi (.obi (.br C (.ob C (.ob C (.obc (.obt (.br s X Y))))) Z))))))))))))))))) r :=
 evObi (evObi (evObi (evObi (d5 (fun h=>(hb h).1) (evObi (d5 (fun h=>(hb h).2.1) (evObi (evObi (evObi (evObi (d5 (fun h=>(hb h).2.2.1) (evObi (d5 (fun h=>(hb h).2.2.2) (evObi (evObi (evBr (fun h=>aD h (aD h (au (evObt (evBr (hX h) (hY h)))))) hZ))))))))))))))))
def tpB (H:List P2) (m:P2) (r:Int):Bool:=@decide (TP H m r) (Classical.propDecidable _)
theorem acj {H:List P2} {m:P2} {r:Int} (h:TP H m r):tpB H m r=true:=@dqt _ (Classical.propDecidable _) h
theorem alK {H:List P2} {m:P2} {r:Int} (h:¬ TP H m r):tpB H m r=false:=@ef _ (Classical.propDecidable _) h
theorem lg {n cap:Nat} (h:n<=cap) (hc:cap<=1000):(decide (n<=cap/\(n+1)*16<=140737488355328)&&!Nat.beq 16 0)=true:=by
 rw [aaw];exact⟨dqt ⟨h,by omega⟩,rfl⟩
theorem fZ {n:Nat} {f:aL} {k:Nat} (h:k<n):jk (ptL n f) k=pq f k:=by
 have h1:=xe (l:=ptL n f) (i:=k) (by rw[di];exact h)
 rw [wo h]at h1
 exact (Option.some.inj h1).symm
theorem CI {c:List P2} (h:2<=c.length):js c=(cB [] c).tail.reverse++(cB [] c.reverse).tail.reverse:=by
 match c,h with
 |a::b::l,_=>rfl
theorem J5.cong {m:Nat} {f g:aL} (h:J5 m f) (e:∀ k,k<m->pq g k=pq f k):J5 m g:=fun a b h1 h2=>by rw[e a (by omega),e b h2];exact h a b h1 h2
theorem kZ.cong {m:Nat} {D:P2->Prop} {f g:aL} (h:kZ m D f) (e:∀ k,k<m->pq g k=pq f k):kZ m D g:=fun q=>by
 rw [h q]
 exact ⟨fun ⟨k,hk,h⟩=>⟨k,hk,by rw[e k hk];exact h⟩,fun ⟨k,hk,h⟩=>⟨k,hk,by rw[← e k hk];exact h⟩⟩
theorem zY {f:aL} {l:List V} {m n k:Nat} (h:k<m):pq (fun i=>bif Nat.ble m i&&Nat.ble i.succ n then l else aa ty2 f i) k=pq f k:=by
 unfold pq
 dsimp only
 have:Nat.ble m k=false:=by
  cases hb:Nat.ble m k with
  |false=>rfl
  |true=>have:=aaF hb;omega
 rw [this];rfl
section
variable {m:Nat} {f:aL}
include m f
theorem Ph (h:J5 m f):(ptL m f).Pairwise qc:=by
 unfold ptL
 rw [List.pairwise_map]
 refine List.Pairwise.imp_of_mem ?_ (List.pairwise_lt_range (n:=m))
 intro a b ha hb hab
 exact h a b hab (List.mem_range.1 hb)
theorem JU {g:aL} (h:∀ k,k<m->pq g k=pq f (m-1-k)):ptL m g=(ptL m f).reverse:=by
 apply agE
 intro k
 by_cases hk:k<m
 ·rw[wo hk,List.getElem?_reverse (by rw[di];exact hk),di,wo (by omega),h k hk]
 ·rw[abm (by rw[di];omega),abm (by rw[ajP,di];omega)]
theorem DT {g:aL} (h:∀ k,k<m->pq g k=pq f k):ptL m g=ptL m f:=by
 unfold ptL;exact anf fun k hk=>h k (List.mem_range.1 hk)
end
theorem qC {n:Nat} {f:aL} {base st:List P2} (h:ptL n f=base++st.reverse) (hs:st≠[]):0<n/\ptL (n-1) f=base++st.tail.reverse/\n=base.length+st.length/\0<st.length:=by
 have hl:=congrArg List.length h
 rw [di,aft,ajP]at hl
 match st,hs with
 | s::l,_ =>
   simp only [adM]at hl
   refine ⟨by omega,?_,by simp only[adM];omega,by simp⟩
   rw [Dl (n:=n) (by omega),h,aoZ,← amO,ajK (by simp;omega),ajO (by simp;omega)];rfl
theorem DJ {p q:P2}:∀ {st:List P2},q∈mi p st->q∈st
 |[],h=>h
 |[s],h=>h
 | b::a::l,h=>by
   simp only [mi]at h
   cases hd:decide (Md a b p<=0) with
   |true=>rw[hd]at h;exact adx _ (DJ h)
   |false=>rw[hd]at h;exact h
theorem jQ {q:P2}:∀ {l st:List P2},q∈cB st l->q∈st∨q∈l
 |[],st,h=>.inl h
 | p::l,st,h=>by
   simp only [cB]at h
   rcases jQ h with h|h
   ·rcases List.mem_cons.1 h with rfl|h
    ·exact .inr (by simp)
    ·exact .inl (DJ h)
   ·exact .inr (adx _ h)
theorem lF:∀ {l st:List P2},st≠[]∨l≠[]->cB st l≠[]
 | [],st,h=>by
   rcases h with h|h
   ·exact h
   ·exact(h rfl).elim
 |p::l,st,_=>lF (l:=l) (.inl (by simp))
theorem BI {p:P2}:∀ {st:List P2},(mi p st).length<=st.length
 |[]=>aaS _
 |[_]=>aaS _
 | b::a::l=>by
   simp only [mi]
   cases decide (Md a b p<=0) with
   |true=>have:=BI (p:=p) (st:=a::l);simp only[adM,cond_true]at *;omega
   |false=>exact aaS _
theorem gm:∀ {l st:List P2},(cB st l).length<=st.length+l.length
 |[],st=>aaS _
 | p::l,st=>by
   simp only [cB]
   have:=gm (l:=l) (st:=p::mi p st)
   have:=BI (p:=p) (st:=st)
   simp only [adM]at *;omega
theorem KL {q:P2} {c:List P2} (h:q∈js c):q∈c:=by
 match c,h with
 |[a],h=>exact h
 | a::b::l,h =>
   rcases List.mem_append.1 h with h|h
   ·rcases jQ (aqu (List.mem_reverse.1 h)) with h|h
    ·cases h
    ·exact h
   ·rcases jQ (aqu (List.mem_reverse.1 h)) with h|h
    ·cases h
    ·exact List.mem_reverse.1 h
theorem acT {c:List P2} (h:c.length<3):js c=c:=by
 match c,h with
 |[],_=>rfl
 |[a],_=>rfl
 |[a,b],_=>rfl
theorem HO {p:P2}:∀ {st:List P2},st≠[]->mi p st≠[]
 |[],h=>absurd rfl h
 |[a],_=>by simp[mi]
 | b::a::l,_=>by
   unfold mi
   cases decide (Md a b p<=0) with
   |true=>exact HO (by simp)
   |false=>simp
theorem xv:∀ (l st:List P2),st≠[]->l≠[]->2<=(cB st l).length
 |[],_,_,h=>absurd rfl h
 | [p],st,h,_=>by
   have:=List.length_pos_iff.2 (HO (p:=p) h)
   show 2<=(p::mi p st).length
   simp only [adM];omega
 |p::q::l,st,h,_=>xv (q::l) (p::mi p st) (by simp) (by simp)
theorem K7 {c:List P2} (hs:c.Pairwise qc) (h:c≠[]):0<(js c).length:=by
 match c,h with
 |[a],_=>simp[js]
 | a::b::l,_ =>
   have:2<=(cB [] (a::b::l)).length:=xv (b::l) [a] (by simp) (by simp)
   simp only [js,aft,ajP,aqk];omega
theorem Gc:∀ L:List P2,∃ c:List P2,c.Pairwise qc/\∀ q,q∈L↔q∈c
 |[]=>⟨[],.nil,fun _=>Iff.rfl⟩
 | a :: L=>by
   obtain ⟨c,hc,hm⟩:=Gc L
   by_cases ha:a∈c
   ·exact⟨c,hc,fun q=>⟨fun h=>(List.mem_cons.1 h).elim (fun e=>e▸ha) fun h=>(hm q).1 h,fun h=>adx _ ((hm q).2 h)⟩⟩
   ·have key:∀ c:List P2,c.Pairwise qc->a∉c->∃ d:List P2,d.Pairwise qc/\∀ q,q∈d↔q=a∨q∈c:=by
     intro c
     induction c with
     |nil=>exact fun _ _=>⟨[a],by simp,fun q=>by simp⟩
     | cons b c ih =>
       intro hs hn
       rw [apw]at hs
       simp only [ahG,not_or]at hn
       obtain ⟨d,hd,hq⟩:=ih hs.2 hn.2
       rcases Zt a b with h|h|h
       ·refine⟨a::b::c,?_,fun q=>by simp⟩
        rw [apw,apw]
        exact ⟨fun q hq=>(List.mem_cons.1 hq).elim (fun e=>e▸h) fun hq=>oV h (hs.1 q hq),hs⟩
       ·exact absurd h hn.1
       ·refine⟨b::d,?_,fun q=>by simp only[ahG,hq];exact⟨fun h=>h.elim (fun h=>.inr (.inl h)) fun h=>h.elim .inl fun h=>.inr (.inr h),fun h=>h.elim (fun h=>.inr (.inl h)) fun h=>h.elim .inl fun h=>.inr (.inr h)⟩⟩
        rw [apw]
        exact ⟨fun q hq'=>((hq q).1 hq').elim (fun e=>e▸h) fun h2=>hs.1 q h2,hd⟩
    obtain ⟨d,hd,hq⟩:=key c hc ha
    exact ⟨d,hd,fun q=>by rw[hq,ahG,hm q]⟩
theorem Mi:∀ {c d:List P2},c.Pairwise qc->d.Pairwise qc->(∀ q,q∈c↔q∈d)->c=d
 |[],[],_,_,_=>rfl
 |[],b::d,_,_,h=>absurd ((h b).2 (by simp)) (by simp)
 |a::c,[],_,_,h=>absurd ((h a).1 (by simp)) (by simp)
 | a :: c,b::d,hc,hd,h=>by
   rw [apw]at hc hd
   have hab:a=b:=by
    rcases List.mem_cons.1 ((h a).1 (by simp)) with h1|h1
    ·exact h1
    ·rcases List.mem_cons.1 ((h b).2 (by simp)) with h2|h2
     ·exact h2.symm
     ·exact absurd (oV (hc.1 b h2) (hd.1 a h1)) (Ai a)
   subst hab
   rw [Mi hc.2 hd.2 fun q=>⟨fun hq=>by
    rcases List.mem_cons.1 ((h q).1 (adx _ hq)) with rfl|h1
    ·exact absurd (hc.1 q hq) (Ai q)
    ·exact h1,fun hq=>by
    rcases List.mem_cons.1 ((h q).2 (adx _ hq)) with rfl|h1
    ·exact absurd (hd.1 q hq) (Ai q)
    ·exact h1⟩]
noncomputable def cvB (L:List P2) (m:P2) (r:Int):Bool:=tpB (js (Classical.choose (Gc L))) m r
theorem agx {c L:List P2} (hs:c.Pairwise qc) (hm:∀ q,q∈L↔q∈c) {m:P2} {r:Int}:tpB (js c) m r=cvB L m r:=by
 have k:=Classical.choose_spec (Gc L)
 unfold cvB
 rw [Mi hs k.1 fun q=>(hm q).symm.trans (k.2 q)]
end
end Go.Dx
