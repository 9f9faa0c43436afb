/- Part 5 of a proof. No conditions. -/
import Derived.Test.YthpfocnocgnhjaaGreatDoorLt4
set_option maxRecDepth 100000
set_option linter.unusedVariables false
set_option linter.unusedSimpArgs false
namespace Go.Dx
open Go.IntKind (i64 u64 u8)
open Go.Sx Go.Proofs
variable (n0:Nat) (f0:aL) (x0:Int) (s0:ByteArray) (n1:Nat) (f1:aL) (x1:Int) (n2:Nat) (f2:aL) (x2:Int) (n3:Nat) (f3:aL) (x3:Int) (n4:Nat) (f4:aL) (x4:Int) (n5:Nat) (f5:aL) (x5 x6 x7 x8 x9 x10 x11 x12 x13:Int) (n14:Nat) (f14:aL) (n16:Nat) (f16:aL)
noncomputable section
def MB:aZ:=(145,.inl aen u0)::(118,.inl ahz u0)::(115,.con IM)::(116,.con Im)::QT
theorem am5:aO Tryz.prog eqs its MB:=eT Tryz.func145 bb (eT Tryz.func118 bb (.con Gr (.con FG (G5))))
inductive mV where
 |L0 (ia0:Int)
 |L2 (ic0 ic1:Int)
 |L3 (id0 id1:Int)
def AH:mV->bD×List O×Option Ex
 |.L0 ia0=>([(8,vi ia0),(7,vi (n5:Int)),(0,V.sl n5 (aa [Ty.sl ac] f5)),(1,V.fn 115 [] [V.pl 0 0])],[O.cells [V.str s0,V.sl n1 (aa ac f1),V.sl n3 (aa ac f3),V.sl n5 (aa [Ty.sl ac] f5),vi x7,vi x8] 92],none)
 |.L2 ic0 ic1=>([(8,vi ic0),(7,vi (n5:Int)),(0,V.sl n5 (aa [Ty.sl ac] f5)),(1,V.fn 116 [] [])],[O.cells [V.str s0,V.sl n1 (aa ac f1),V.sl n3 (aa ac f3),V.sl n5 (aa [Ty.sl ac] f5),vi x7,vi x8] 92],none)
 |.L3 id0 id1=>([(8,vi id0),(7,vi (n5:Int)),(0,V.sl n5 (aa [Ty.sl ac] f5)),(1,V.fn 116 [] [])],[O.cells [V.str s0,V.sl n1 (aa ac f1),V.sl n3 (aa ac f3),V.sl n5 (aa [Ty.sl ac] f5),vi x7,vi x8] 92],none)
def ad7:mV->JJ
 |.L0 ia0=>(0,[])
 |.L2 ic0 ic1=>(2,[Cx.i ic1])
 |.L3 id0 id1=>(3,[Cx.i id1])
def R7:T (ck JJ):=aV JJ MB u0 ah6 [V.agg [V.str s0,V.sl n1 (aa ac f1),V.sl n3 (aa ac f3),V.sl n5 (aa [Ty.sl ac] f5),vi x7,vi x8]]
def rL (cx:List Cx):Lp JJ:=fQ (eZ (R7 s0 n1 f1 n3 f3 n5 f5 x7 x8) [true,false,true,false,true,false,true])
def QL (cx:List Cx):Lp JJ:=fQ (eZ (ua MB u0 (0,[]) (rL s0 n1 f1 n3 f3 n5 f5 x7 x8 []) (AH s0 n1 f1 n3 f3 n5 f5 x7 x8 (.L0 (cH cx 0)))) [true,true,false])
def RU (cx:List Cx):Lp JJ:=fQ (eZ (ua MB u0 (0,[]) (rL s0 n1 f1 n3 f3 n5 f5 x7 x8 []) (AH s0 n1 f1 n3 f3 n5 f5 x7 x8 (.L0 (cH cx 0)))) [false,false])
def aed:JJ->Lp JJ
 |(0,cx)=>rL s0 n1 f1 n3 f3 n5 f5 x7 x8 cx
 |(2,cx)=>QL s0 n1 f1 n3 f3 n5 f5 x7 x8 cx
 |(3,cx)=>RU s0 n1 f1 n3 f3 n5 f5 x7 x8 cx
 |(_,cx)=>rL s0 n1 f1 n3 f3 n5 f5 x7 x8 cx
def ame:LD JJ mV:=⟨ad7,aed s0 n1 f1 n3 f3 n5 f5 x7 x8,AH s0 n1 f1 n3 f3 n5 f5 x7 x8⟩
def qk (s0:ByteArray) (n1:Nat) (f1:aL) (n3:Nat) (f3:aL) (n5:Nat) (f5:aL) (x7 x8:Int):mV->RT mV
 |.L0 ia0=>.br (decide (ia0<(n5:Int))) (.ob (dI ia0 n5) (.cb (.br (uQ (aN (aE (f5 ia0.toNat))) n3) (.br (decide (0<=ia0)) (.ret (vi 6)) (.am n5 (.enter [some (some 0)] (mV.L2 0 ia0) []))) (.next [some (some 0)] (mV.L0 (wI (ia0+1))) [])))) (.brf (.am n5 (.enter [some (some 0)] (mV.L3 0 ia0) [])))
 |.L2 ic0 ic1=>.br (decide (ic0<(n5:Int))) (.ob (dI ic0 n5) (.cb (.br (iq (aN (aE (f5 ic0.toNat))) fun i=>al ac (bO (aE (f5 ic0.toNat)) i)) (.ii (.br (!decide (0<=ic0)) (.ob (!decide (0<=ic0)) (.ob (!decide (0<=ic0)) (.ob (!decide (0<=ic0)) (.cb (.br (iq 2 (aa ac (bc [vi x7,vi x8] 0 1))) (.ret (vi 7)) (.ret (vi 0))))))) (.ret (vi 7)))) (.next [some (some 0)] (mV.L2 (wI (ic0+1)) ic1) [])))) (.obt (.obt (.brt (.obt (.obt (.obt (.cb (.br (iq 2 (aa ac (bc [vi x7,vi x8] 0 1))) (.ret (vi 7)) (.ret (vi 0))))))))))
 |.L3 id0 id1=>.br (decide (id0<(n5:Int))) (.ob (dI id0 n5) (.cb (.br (iq (aN (aE (f5 id0.toNat))) fun i=>al ac (bO (aE (f5 id0.toNat)) i)) (.ii (.br (!decide (0<=id0)) (.ob (!decide (0<=id0)) (.ob (!decide (0<=id0)) (.ob (!decide (0<=id0)) (.cb (.br (iq 2 (aa ac (bc [vi x7,vi x8] 0 1))) (.ret (vi 7)) (.ret (vi 0))))))) (.ret (vi 7)))) (.next [some (some 0)] (mV.L3 (wI (id0+1)) id1) [])))) (.obt (.obt (.brt (.obt (.obt (.obt (.cb (.br (iq 2 (aa ac (bc [vi x7,vi x8] 0 1))) (.ret (vi 7)) (.ret (vi 0))))))))))
def Um:RT mV:=dm (s0,f5,x7,x8) (.am n1 (.cb (.ii (.asm ((!!yaa (n1:Int) 2 12)=true->n3<=9223372036854775807) (.br (!!yaa (n1:Int) 2 12) (.ob (!!yaa (n1:Int) 2 12) (.cb (.br (!yaa (n3:Int) 2 12) (.ret (vi 3)) (.cb (.obi (.br (!!dE n1 (aa ac f1) (-5000) 5000) (.ob (!!dE n1 (aa ac f1) (-5000) 5000) (.cb (.br (!dE n3 (aa ac f3) (-5000) 5000) (.ret (vi 7)) (.cb (.obi (.br (!!gU n1 (aa ac f1)) (.ob (!!gU n1 (aa ac f1)) (.cb (.br (!gU n3 (aa ac f3)) (.ret (vi 2)) (.am n5 (.am n1 (.obi (.br (!(n5:Int)!=(n1:Int)) (.ob (!(n5:Int)!=(n1:Int)) (.ob (!(n5:Int)!=(n1:Int)) (.am n5 (.enter [some (some 0)] (mV.L0 0) [])))) (.ret (vi 6))))))))) (.ret (vi 2)))))))) (.ret (vi 7)))))))) (.ret (vi 3)))))))
theorem Yz:eS MB u0 (ame s0 n1 f1 n3 f3 n5 f5 x7 x8) (R7 s0 n1 f1 n3 f3 n5 f5 x7 x8) (Um s0 n1 f1 n3 f3 n5 f5 x7 x8) (qk s0 n1 f1 n3 f3 n5 f5 x7 x8):=⟨bF,fun s=>by cases s<;>exact bF⟩
def sho (i:Nat):Bool:=uQ (aN (aE (f5 i))) n3
def wil (i:Nat):Bool:=iq (aN (aE (f5 i))) fun j=>al ac (bO (aE (f5 i)) j)
def Yl:Bool:=iq 2 (aa ac (bc [vi x7,vi x8] 0 1))
def qT:Int:=bif ls n5 (wil f5) then 7 else bif Yl x7 x8 then 7 else 0
def nq (n1:Nat) (f1:aL) (n3:Nat) (f3:aL) (n5:Nat) (f5:aL) (x7 x8:Int):Int :=
 bif !(yaa (n1:Int) 2 12&&yaa (n3:Int) 2 12) then 3 else bif !(dE n1 f1 (-5000) 5000&&dE n3 f3 (-5000) 5000) then 7 else bif !(gU n1 f1&&gU n3 f3) then 2 else bif(n5:Int)!=(n1:Int) then 6 else bif ls n5 (sho n3 f5) then 6 else qT n5 f5 x7 x8
theorem ev2 {S:Type} {Nx:S->V->Prop} {c d:Bool} {v r:V} {X:RT S} (h1:(c&&d)=false->cz v=cz r) (h2:(c&&d)=true->aX Nx X r):aX Nx (.br (!!c) (.ob (!!c) (.obc (.obt (.br (!d) (.ret v) X)))) (.ret v)) r:=by
 cases c<;>cases d
 ·exact evBr (fun h=>by cases h) (fun _=>evRet (h1 rfl))
 ·exact evBr (fun h=>by cases h) (fun _=>evRet (h1 rfl))
 ·exact evBr (fun h=>aD h (au (evObt (evBr (fun _=>evRet (h1 rfl)) (fun k=>by cases k))))) (fun k=>by cases k)
 ·exact evBr (fun h=>aD h (au (evObt (evBr (fun k=>by cases k) (fun _=>h2 rfl))))) (fun k=>by cases k)
theorem Y6 (hn:n5<=9223372036854775807) (t:Int):Ev (qk s0 n1 f1 n3 f3 n5 f5 x7 x8) (.L3 0 t) (vi (qT n5 f5 x7 x8)):=by
 refine AJ hn (wil f5) (P:=fun x=>Ev (qk s0 n1 f1 n3 f3 n5 f5 x7 x8) (.L3 x t) (vi (qT n5 f5 x7 x8))) (fun i hlt hj next=>Ev.of rfl (kS hlt (gX hlt (au (evObt (evBr (fun hb=>evObi (evObi (cS (by rw[dqt (ark i)];rfl) (evRet ?_)))) (fun hb=>aS (next hb)))))))) (fun hj=>Ev.of rfl (jX (evObt (evObt (fE (evObt (evObt (evObt (au (evObt (evBr (fun hb=>evRet ?_) (fun hb=>evRet ?_))))))))))))
 ·unfold qT;rw[eA i hlt hb];rfl
 ·unfold qT;rw[ep hj,show Yl x7 x8=true from hb];rfl
 ·unfold qT;rw[ep hj,show Yl x7 x8=false from hb];rfl
theorem Vj (hn:n5<=9223372036854775807):Ev (qk s0 n1 f1 n3 f3 n5 f5 x7 x8) (.L0 0) (vi (bif ls n5 (sho n3 f5) then 6 else qT n5 f5 x7 x8)):=by
 refine AJ hn (sho n3 f5) (P:=fun x=>Ev (qk s0 n1 f1 n3 f3 n5 f5 x7 x8) (.L0 x) (vi (bif ls n5 (sho n3 f5) then 6 else qT n5 f5 x7 x8))) (fun i hlt hj next=>Ev.of rfl (kS hlt (gX hlt (au (evObt (evBr (fun hb=>cI (dqt (ark i)) (evRet ?_)) (fun hb=>aS (next hb)))))))) (fun hj=>Ev.of rfl (jX (jR (evAsm fun _=>aM ?_))))
 ·rw[eA i hlt hb];rfl
 ·rw[ep hj];exact Y6 s0 n1 f1 n3 f3 n5 f5 x7 x8 hn _
theorem Oh:aX (Ev (qk s0 n1 f1 n3 f3 n5 f5 x7 x8)) (Um s0 n1 f1 n3 f3 n5 f5 x7 x8) (vi (nq n1 f1 n3 f3 n5 f5 x7 x8)):=by
 unfold nq
 refine evAsm fun _=>au (evObt (evObi (evObi (evAsm fun _=>ev2 (fun h=>by rw[h];rfl) (fun h=>?_)))))
 rw [h]
 refine au (evObt (evObi (ev2 (fun h=>by rw[show(dE n1 f1 (-5000) 5000&&dE n3 f3 (-5000) 5000)=false from h];rfl) (fun h=>?_))))
 rw [show(dE n1 f1 (-5000) 5000&&dE n3 f3 (-5000) 5000)=true from h]
 refine au (evObt (evObi (ev2 (fun h=>by rw[show(gU n1 f1&&gU n3 f3)=false from h];rfl) (fun h=>?_))))
 rw [show(gU n1 f1&&gU n3 f3)=true from h]
 refine evAsm fun _=>evAsm fun _=>evObi (evBr (fun h=>aD h (aD h (bw fun hn=>aM ?_))) (fun h=>evRet ?_))
 ·rw[tnF h];exact Vj s0 n1 f1 n3 f3 n5 f5 x7 x8 hn
 ·rw[Ea h];rfl
theorem adL:aX (Ev (qk s0 n1 f1 n3 f3 n5 f5 x7 x8)) (Um s0 n1 f1 n3 f3 n5 f5 x7 x8) (vi (nq n1 (aa ac f1) n3 (aa ac f3) n5 (aa [.sl ac] f5) x7 x8)):=Oh s0 n1 f1 n3 f3 n5 f5 x7 x8
def Pd:av:=bL [.agg af] (fun _=>True) fun
 |[.agg [.str s0,.sl n1 f1,.sl n3 f3,.sl n5 f5,.int _ x7,.int _ x8]]=>vi (nq n1 f1 n3 f3 n5 f5 x7 x8)
 |_=>.any
theorem Pp:cr Pd 85:=aY am5 fun _ hp=>nd (Yz ..) (adL _ _ _ _ _ _ _ _ _)
def Xi:aZ:=(85,.con Pd)::(115,.con IM)::(116,.con Im)::QT
theorem UO:aO Tryz.prog eqs its Xi:=.con Pp (.con Gr (.con FG (G5)))
def aaH:RT Empty:=dm (s0,f14,n16,f16) (.cb (.obi (.br (yaa x3 1 1000000) (.ob (yaa x3 1 1000000) (.cb (.ii (.br (yaa x4 1 5000000) (.ob (yaa x4 1 5000000) (.ob (yaa x4 1 5000000) (.cb (.obi (.br (yaa x5 0 x4) (.ob (yaa x5 0 x4) (.cb (.obi (.br (yaa x6 0 1000) (.ob (yaa x6 0 1000) (.cb (.obi (.br (fb x7 x8 0 1000) (.ob (fb x7 x8 0 1000) (.cb (.obi (.br (fb x9 x10 0 1000) (.ob (fb x9 x10 0 1000) (.cb (.obi (.br (yaa x11 1 200000) (.ob (yaa x11 1 200000) (.cb (.obi (.br (yaa x12 0 1000) (.ob (yaa x12 0 1000) (.cb (.am n14 (.cb (.br (!yaa x1 0 (wI ((n14:Int)-1))) (.ret (vi 4)) (.cb (.br (!yaa x2 1 3) (.ret (vi 2)) (.br (!yaa x13 0 3600) (.ret (vi 7)) (.ii (.obi (.br (bif x2==1 then decide (0<x13) else false) (.ret (vi 2)) (.ret (vi 0))))))))))))) (.am n14 (.cb (.br (!yaa x1 0 (wI ((n14:Int)-1))) (.ret (vi 4)) (.cb (.br (!yaa x2 1 3) (.ret (vi 2)) (.ret (vi 7))))))))))) (.am n14 (.cb (.br (!yaa x1 0 (wI ((n14:Int)-1))) (.ret (vi 4)) (.cb (.br (!yaa x2 1 3) (.ret (vi 2)) (.ret (vi 7))))))))))) (.am n14 (.cb (.br (!yaa x1 0 (wI ((n14:Int)-1))) (.ret (vi 4)) (.cb (.br (!yaa x2 1 3) (.ret (vi 2)) (.ret (vi 7))))))))))) (.am n14 (.cb (.br (!yaa x1 0 (wI ((n14:Int)-1))) (.ret (vi 4)) (.cb (.br (!yaa x2 1 3) (.ret (vi 2)) (.ret (vi 7))))))))))) (.am n14 (.cb (.br (!yaa x1 0 (wI ((n14:Int)-1))) (.ret (vi 4)) (.cb (.br (!yaa x2 1 3) (.ret (vi 2)) (.ret (vi 7))))))))))) (.am n14 (.cb (.br (!yaa x1 0 (wI ((n14:Int)-1))) (.ret (vi 4)) (.cb (.br (!yaa x2 1 3) (.ret (vi 2)) (.ret (vi 7)))))))))))) (.am n14 (.cb (.br (!yaa x1 0 (wI ((n14:Int)-1))) (.ret (vi 4)) (.cb (.br (!yaa x2 1 3) (.ret (vi 2)) (.ret (vi 7))))))))))) (.am n14 (.cb (.br (!yaa x1 0 (wI ((n14:Int)-1))) (.ret (vi 4)) (.cb (.br (!yaa x2 1 3) (.ret (vi 2)) (.ret (vi 7))))))))))
theorem Vn:cW cX (aV JJ Xi u0 agt [V.agg [V.str s0,vi x1,vi x2,vi x3,vi x4,vi x5,vi x6,vi x7,vi x8,vi x9,vi x10,vi x11,vi x12,vi x13],V.pd [V.sl n14 (aa af f14),V.sl n16 (aa ah f16)]]) (aaH s0 x1 x2 x3 x4 x5 x6 x7 x8 x9 x10 x11 x12 x13 n14 f14 n16 f16):=bF
def ao8:Int:=bif yaa x3 1 1000000 then bif yaa x4 1 5000000 then bif yaa x5 0 x4 then bif yaa x6 0 1000 then bif fb x7 x8 0 1000 then bif fb x9 x10 0 1000 then bif yaa x11 1 200000 then bif yaa x12 0 1000 then bif !yaa x1 0 (wI ((n14:Int)-1)) then 4 else bif !yaa x2 1 3 then 2 else bif !yaa x13 0 3600 then 7 else bif bif x2==1 then decide (0<x13) else false then 2 else 0 else bif !yaa x1 0 (wI ((n14:Int)-1)) then 4 else bif !yaa x2 1 3 then 2 else 7 else bif !yaa x1 0 (wI ((n14:Int)-1)) then 4 else bif !yaa x2 1 3 then 2 else 7 else bif !yaa x1 0 (wI ((n14:Int)-1)) then 4 else bif !yaa x2 1 3 then 2 else 7 else bif !yaa x1 0 (wI ((n14:Int)-1)) then 4 else bif !yaa x2 1 3 then 2 else 7 else bif !yaa x1 0 (wI ((n14:Int)-1)) then 4 else bif !yaa x2 1 3 then 2 else 7 else bif !yaa x1 0 (wI ((n14:Int)-1)) then 4 else bif !yaa x2 1 3 then 2 else 7 else bif !yaa x1 0 (wI ((n14:Int)-1)) then 4 else bif !yaa x2 1 3 then 2 else 7 else bif !yaa x1 0 (wI ((n14:Int)-1)) then 4 else bif !yaa x2 1 3 then 2 else 7
def Lq (a k num q:Bool):Int:=bif !a then 4 else bif !k then 2 else bif !num then 7 else bif q then 2 else 0
def Vi:Bool:=bif x2==1 then decide (0<x13) else false
def atD:Bool:=yaa x3 1 1000000&&(yaa x4 1 5000000&&(yaa x5 0 x4&&(yaa x6 0 1000&&(fb x7 x8 0 1000&&(fb x9 x10 0 1000&&(yaa x11 1 200000&&(yaa x12 0 1000&&(yaa x13 0 3600))))))))
def qE (x1 x2 x3 x4 x5 x6 x7 x8 x9 x10 x11 x12 x13:Int) (n14:Nat):Int:=Lq (yaa x1 0 (wI ((n14:Int)-1))) (yaa x2 1 3) (yaa x3 1 1000000&&(yaa x4 1 5000000&&(yaa x5 0 x4&&(yaa x6 0 1000&&(fb x7 x8 0 1000&&(fb x9 x10 0 1000&&(yaa x11 1 200000&&(yaa x12 0 1000&&(yaa x13 0 3600))))))))) (Vi x2 x13)
section
variable {S:Type} {Nx:S->V->Prop} {r:V} {X Y:RT S} {c:Bool}
section
variable (h1:c=false->aX Nx Y r) (h2:c=true->aX Nx X r)
include h1 h2
theorem qu:aX Nx (.br c (.ob c X) Y) r:=evBr (fun h=>aD h (h2 h)) h1
theorem afG:aX Nx (.br c (.ob c (.ob c X)) Y) r:=evBr (fun h=>aD h (aD h (h2 h))) h1
end
theorem CN {a k q:Bool} {p:Prop}:aX Nx (.asm p (.obc (.obt (.br (!a) (.ret (vi 4)) (.obc (.obt (.br (!k) (.ret (vi 2)) (.ret (vi 7)))))))) ) (vi (Lq a k false q)) :=
 evAsm fun _=>au (evObt (evBr (fun h=>evRet (by rw[tnF h];rfl)) fun h=>au (evObt (evBr (fun h2=>evRet (by rw[Ea h,tnF h2];rfl)) fun h2=>evRet (by rw[Ea h,Ea h2];rfl)))))
end
theorem ajk:aX cL (aaH s0 x1 x2 x3 x4 x5 x6 x7 x8 x9 x10 x11 x12 x13 n14 f14 n16 f16) (vi (qE x1 x2 x3 x4 x5 x6 x7 x8 x9 x10 x11 x12 x13 n14)):=by
 unfold qE
 refine au (evObt ?_)
 repeat refine evObi ?_
 refine qu (fun h=>by rw[h];exact CN) (fun h=>?_)
 rw [h]
 refine au (evObt ?_)
 repeat refine evObi ?_
 refine afG (fun h=>by rw[h];exact CN) (fun h=>?_)
 rw [h]
 refine au (evObt ?_)
 repeat refine evObi ?_
 refine qu (fun h=>by rw[h];exact CN) (fun h=>?_)
 rw [h]
 refine au (evObt ?_)
 repeat refine evObi ?_
 refine qu (fun h=>by rw[h];exact CN) (fun h=>?_)
 rw [h]
 refine au (evObt ?_)
 repeat refine evObi ?_
 refine qu (fun h=>by rw[h];exact CN) (fun h=>?_)
 rw [h]
 refine au (evObt ?_)
 repeat refine evObi ?_
 refine qu (fun h=>by rw[h];exact CN) (fun h=>?_)
 rw [h]
 refine au (evObt ?_)
 repeat refine evObi ?_
 refine qu (fun h=>by rw[h];exact CN) (fun h=>?_)
 rw [h]
 refine au (evObt ?_)
 repeat refine evObi ?_
 refine qu (fun h=>by rw[h];exact CN) (fun h=>?_)
 rw [h]
 refine au (evObt ?_)
 exact evAsm fun _=>au (evObt (evBr (fun h=>evRet (by rw[tnF h];rfl)) fun h=>au (evObt (evBr (fun h2=>evRet (by rw[Ea h,tnF h2];rfl)) fun h2=>evBr (fun h3=>evRet (by rw[Ea h,Ea h2,tnF h3];rfl)) fun h3=>evObi (evObi (evObi (evBr (fun h4=>evRet (by rw[Ea h,Ea h2,Ea h3,show Vi x2 x13=true from h4];rfl)) fun h4=>evRet (by rw[Ea h,Ea h2,Ea h3,show Vi x2 x13=false from h4];rfl))))))))
def JE:av:=bL [.agg ah,.pd [.sl af,.sl ah]] (fun _=>True) fun
 |[.agg [.str s0,.int _ x1,.int _ x2,.int _ x3,.int _ x4,.int _ x5,.int _ x6,.int _ x7,.int _ x8,.int _ x9,.int _ x10,.int _ x11,.int _ x12,.int _ x13],.pd [.sl n14 f14,.sl n16 f16]]=>vi (qE x1 x2 x3 x4 x5 x6 x7 x8 x9 x10 x11 x12 x13 n14)
 |_=>.any
theorem Ej:cr JE 88:=aY UO fun _ hp=>c9 (Vn ..) (ajk _ _ _ _ _ _ _ _ _ _ _ _ _ _ _ _ _ _)
def E7:aZ:=(119,.inl ahX u0)::(146,.inl aeA u0)::(120,.inl aiN u0)::(112,.inl aiW u0)::(144,.inl agO u0)::(114,.inl aiL u0)::(88,.con JE)::Xi
theorem ac4:aO Tryz.prog eqs its E7:=eT Tryz.func119 bb (eT Tryz.func146 bb (eT Tryz.func120 bb (eT Tryz.func112 bb (eT Tryz.func144 bb (eT Tryz.func114 bb (.con Ej (UO)))))))
inductive nN where
 |L0 (ia0:Int)
 |L2 (ic0 ic1:Int) (nc2:Nat) (sc3:ByteArray) (nc4:Nat) (fc5:aL) (nc6:Nat) (fc7:aL) (nc8:Nat) (fc9:aL) (ic10 ic11 ic12:Int)
def Hy:nN->bD×List O×Option Ex
 |.L0 ia0=>([(14,vi ia0),(13,vi (n0:Int)),(12,V.sl n0 (aa af f0)),(4,V.pl 0 0),(0,V.sl n0 (aa af f0)),(2,V.fn 85 [] [])],[O.cells [V.fn 84 [] []] 155],none)
 |.L2 ic0 ic1 nc2 sc3 nc4 fc5 nc6 fc7 nc8 fc9 ic10 ic11 ic12=>([(8,vi ic0),(7,vi ic1),(0,V.sl nc2 fun i=>aa af f0 (0+i)),(1,V.fn 112 [] [V.pl 0 0,V.pl 1 0])],[O.cells [V.fn 84 [] []] 155,O.cells [V.str sc3,V.sl nc4 (aa ac fc5),V.sl nc6 (aa ac fc7),V.sl nc8 (aa [Ty.sl ac] fc9),vi ic10,vi ic11] 92],none)
def aeo:nN->JJ
 |.L0 ia0=>(0,[])
 |.L2 ic0 ic1 nc2 sc3 nc4 fc5 nc6 fc7 nc8 fc9 ic10 ic11 ic12=>(2,[Cx.i ic12])
def Pn:T (ck JJ):=aV JJ E7 u0 ain [V.sl n0 (aa af f0),V.fn 84 [] [],V.fn 85 [] []]
def u6 (cx:List Cx):Lp JJ:=fQ (eZ (Pn n0 f0) [])
def OF (cx:List Cx):Lp JJ:=fQ (eZ (ua E7 u0 (0,[]) (u6 n0 f0 []) (Hy n0 f0 (.L0 (cH cx 0)))) [true,false])
def agj:JJ->Lp JJ
 |(0,cx)=>u6 n0 f0 cx
 |(2,cx)=>OF n0 f0 cx
 |(_,cx)=>u6 n0 f0 cx
def anY:LD JJ nN:=⟨aeo,agj n0 f0,Hy n0 f0⟩
def qm:nN->RT nN
 |.L0 ia0=>.br (decide (ia0<(n0:Int))) (.ob (dI ia0 n0) (.cb (.cb (.obp ((sv (aE (f0 ia0.toNat))).size<=(9223372036854775807:Nat)) (.obt (.br (!jm (sv (aE (f0 ia0.toNat)))) (.brt (.ret (V.tup [vi ia0,vi 6]))) (.ob (decide (0<=ia0/\ia0<=(n0:Int))) (.asm (true=true->ia0.toNat-0<=9223372036854775807) (.enter [some (some 0),some (some 1)] (nN.L2 0 ((↑(ia0.toNat-0):Int)) (ia0.toNat-0) (sv (aE (f0 ia0.toNat))) (aN (aE (ae (f0 ia0.toNat)))) (fun i=>al ac (bO (aE (ae (f0 ia0.toNat))) i)) (aN (aE (ae (ae (f0 ia0.toNat))))) (fun i=>al ac (bO (aE (ae (ae (f0 ia0.toNat)))) i)) (aN (aE (ae (ae (ae (f0 ia0.toNat)))))) (fun i=>al [Ty.sl ac] (bO (aE (ae (ae (ae (f0 ia0.toNat))))) i)) (dA (f0 ia0.toNat)) (bE (f0 ia0.toNat)) ia0) []))))))))) (.ret (V.tup [vi 0,vi 0]))
 |.L2 ic0 ic1 nc2 sc3 nc4 fc5 nc6 fc7 nc8 fc9 ic10 ic11 ic12=>.br (decide (ic0<ic1)) (.ob (dI ic0 nc2) (.cb (.cb (.br ((sv (aE (f0 (0+ic0.toNat)))).toList==sc3.toList) (.br (decide (0<=ic0)) (.brt (.ret (V.tup [vi ic12,vi 5]))) (.br (nq (aN (aE (ae (f0 ic12.toNat)))) (fun i=>al ac (bO (aE (ae (f0 ic12.toNat))) i)) (aN (aE (ae (ae (f0 ic12.toNat))))) (fun i=>al ac (bO (aE (ae (ae (f0 ic12.toNat)))) i)) (aN (aE (ae (ae (ae (f0 ic12.toNat)))))) (fun i=>al [Ty.sl ac] (bO (aE (ae (ae (ae (f0 ic12.toNat))))) i)) (dA (f0 ic12.toNat)) (bE (f0 ic12.toNat))!=0) (.ret (V.tup [vi ic12,vi (nq (aN (aE (ae (f0 ic12.toNat)))) (fun i=>al ac (bO (aE (ae (f0 ic12.toNat))) i)) (aN (aE (ae (ae (f0 ic12.toNat))))) (fun i=>al ac (bO (aE (ae (ae (f0 ic12.toNat)))) i)) (aN (aE (ae (ae (ae (f0 ic12.toNat)))))) (fun i=>al [Ty.sl ac] (bO (aE (ae (ae (ae (f0 ic12.toNat))))) i)) (dA (f0 ic12.toNat)) (bE (f0 ic12.toNat)))])) (.next [some (some 0)] (nN.L0 (wI (ic12+1))) []))) (.next [some (some 0),some (some 1)] (nN.L2 (wI (ic0+1)) ic1 nc2 (sc3) nc4 fc5 nc6 fc7 nc8 fc9 ic10 ic11 ic12) []))))) (.brf (.br (nq (aN (aE (ae (f0 ic12.toNat)))) (fun i=>al ac (bO (aE (ae (f0 ic12.toNat))) i)) (aN (aE (ae (ae (f0 ic12.toNat))))) (fun i=>al ac (bO (aE (ae (ae (f0 ic12.toNat)))) i)) (aN (aE (ae (ae (ae (f0 ic12.toNat)))))) (fun i=>al [Ty.sl ac] (bO (aE (ae (ae (ae (f0 ic12.toNat))))) i)) (dA (f0 ic12.toNat)) (bE (f0 ic12.toNat))!=0) (.ret (V.tup [vi ic12,vi (nq (aN (aE (ae (f0 ic12.toNat)))) (fun i=>al ac (bO (aE (ae (f0 ic12.toNat))) i)) (aN (aE (ae (ae (f0 ic12.toNat))))) (fun i=>al ac (bO (aE (ae (ae (f0 ic12.toNat)))) i)) (aN (aE (ae (ae (ae (f0 ic12.toNat)))))) (fun i=>al [Ty.sl ac] (bO (aE (ae (ae (ae (f0 ic12.toNat))))) i)) (dA (f0 ic12.toNat)) (bE (f0 ic12.toNat)))])) (.next [some (some 0)] (nN.L0 (wI (ic12+1))) [])))
def Oa:RT nN:=dm f0 (.am n0 (.enter [some (some 0)] (nN.L0 0) []))
theorem aao:eS E7 u0 (anY n0 f0) (Pn n0 f0) (Oa n0 f0) (qm n0 f0):=⟨bF,fun s=>by cases s<;>exact bF⟩
def Bl (a:Nat):Int:=nq (aN (aE (ae (f0 a)))) (fun i=>al ac (bO (aE (ae (f0 a))) i)) (aN (aE (ae (ae (f0 a))))) (fun i=>al ac (bO (aE (ae (ae (f0 a)))) i)) (aN (aE (ae (ae (ae (f0 a)))))) (fun i=>al [Ty.sl ac] (bO (aE (ae (ae (ae (f0 a))))) i)) (dA (f0 a)) (bE (f0 a))
def Ba (i j:Nat):Bool:=(sv (aE (f0 (0+j)))).toList==(sv (aE (f0 i))).toList
def jr (i:Nat):Int:=bif !jm (sv (aE (f0 i))) then 6 else bif ls i (Ba f0 i) then 5 else Bl f0 i
def ff:Int:=fk n0 (jr f0)
def dY:Int:=dz n0 (jr f0)
theorem akO (hn:n0<=9223372036854775807) (a:Nat) (hi:a<n0) (hj:∀ j,j<a->(jr f0 j != 0)=false) (h1:jm (sv (aE (f0 a)))=true) (hx:(jr f0 a != 0)=false->Ev (qm n0 f0) (.L0 (wI ((a:Int)+1))) (.tup [vi (ff n0 f0),vi (dY n0 f0)])):Ev (qm n0 f0) (.L2 0 ((↑(a-0):Int)) (a-0) (sv (aE (f0 a))) (aN (aE (ae (f0 a)))) (fun i=>al ac (bO (aE (ae (f0 a))) i)) (aN (aE (ae (ae (f0 a))))) (fun i=>al ac (bO (aE (ae (ae (f0 a)))) i)) (aN (aE (ae (ae (ae (f0 a)))))) (fun i=>al [Ty.sl ac] (bO (aE (ae (ae (ae (f0 a))))) i)) (dA (f0 a)) (bE (f0 a)) ((a:Int))) (.tup [vi (ff n0 f0),vi (dY n0 f0)]):=by
 refine AJ (n:=a) (by omega) (Ba f0 a) (P:=fun x=>Ev (qm n0 f0) (.L2 x ((↑(a-0):Int)) (a-0) (sv (aE (f0 a))) (aN (aE (ae (f0 a)))) (fun i=>al ac (bO (aE (ae (f0 a))) i)) (aN (aE (ae (ae (f0 a))))) (fun i=>al ac (bO (aE (ae (ae (f0 a)))) i)) (aN (aE (ae (ae (ae (f0 a)))))) (fun i=>al [Ty.sl ac] (bO (aE (ae (ae (ae (f0 a))))) i)) (dA (f0 a)) (bE (f0 a)) ((a:Int))) (.tup [vi (ff n0 f0),vi (dY n0 f0)])) (fun j hlt hq next=>Ev.of rfl (kS hlt (gX hlt (au (evObt (au (evObt (evBr (fun hb=>cI (dqt (ark j)) (fE (evRet ?_))) (fun hb=>aS (next hb)))))))))) (fun hq=>Ev.of rfl (jX (jR (evBr (fun hb=>evRet ?_) (fun hb=>aS (hx ?_))))))
 ·have hc:jr f0 a=5:=by unfold jr;rw[h1,eA j hlt hb];rfl
  unfold ff dY;rw[(cG hi (by rw[hc];rfl) hj).1,(cG hi (by rw[hc];rfl) hj).2,hc]
 ·have hc:jr f0 a=Bl f0 a:=by unfold jr;rw[h1,ep hq];rfl
  unfold ff dY;rw[(cG hi (by rw[hc];exact hb) hj).1,(cG hi (by rw[hc];exact hb) hj).2,hc];rfl
 ·have hc:jr f0 a=Bl f0 a:=by unfold jr;rw[h1,ep hq];rfl
  rw [hc];exact hb
theorem Tq (hp:ap n0 f0):aX (Ev (qm n0 f0)) (Oa n0 f0) (.tup [vi (ff n0 f0),vi (dY n0 f0)]):=by
 refine bw fun hn=>aM (AJ hn (fun i=>jr f0 i != 0) (P:=fun x=>Ev (qm n0 f0) (.L0 x) (.tup [vi (ff n0 f0),vi (dY n0 f0)])) (fun i hlt hj next=>Ev.of rfl (kS hlt (gX hlt (au (evObt (au (evObt (evObp (hp i hlt) (evObt (evBr (fun hb=>fE (evRet ?_)) (fun hb=>aD (dqt (by omega)) (evAsm fun _=>aM (akO n0 f0 hn i hlt hj (Ea hb) next))))))))))))) (fun hj=>Ev.of rfl (jX (evRet ?_))))
 ·have hc:jr f0 i=6:=by unfold jr;rw[show(!jm (sv (aE (f0 i))))=true from hb];rfl
  unfold ff dY;rw[(cG hlt (by rw[hc];rfl) hj).1,(cG hlt (by rw[hc];rfl) hj).2,hc]
 ·unfold ff dY;rw[(gk hj).1,(gk hj).2]
theorem afw (hp:ap n0 (aa af f0)):aX (Ev (qm n0 f0)) (Oa n0 f0) (.tup [vi (ff n0 (aa af f0)),vi (dY n0 (aa af f0))]):=Tq n0 f0 hp
def yaN:av:=bL [.sl af,.fn 84 [] [],.fn 85 [] []] (fun
 |[.sl n0 f0,.fn _ [] [],.fn _ [] []]=>ap n0 f0
 |_=>False) fun
 |[.sl n0 f0,.fn _ [] [],.fn _ [] []]=>.tup [vi (ff n0 f0),vi (dY n0 f0)]
 |_=>.any
theorem R4:cr yaN 83:=aY ac4 fun _ hp=>nd (aao ..) (afw _ _ hp)
inductive nI where
 |L0 (ia0:Int)
 |L2 (ic0 ic1:Int) (nc2:Nat) (sc3:ByteArray) (ic4 ic5 ic6 ic7 ic8 ic9 ic10 ic11 ic12 ic13 ic14 ic15 ic16 ic17:Int)
def IL:nI->bD×List O×Option Ex
 |.L0 ia0=>([(14,vi ia0),(13,vi (n0:Int)),(12,V.sl n0 (aa ah f0)),(4,V.pl 0 0),(0,V.sl n0 (aa ah f0)),(2,V.fn 88 [] [V.pd [V.sl n2 (aa af f2),V.sl n4 (aa ah f4)]])],[O.cells [V.fn 87 [] []] 158],none)
 |.L2 ic0 ic1 nc2 sc3 ic4 ic5 ic6 ic7 ic8 ic9 ic10 ic11 ic12 ic13 ic14 ic15 ic16 ic17=>([(8,vi ic0),(7,vi ic1),(0,V.sl nc2 fun i=>aa ah f0 (0+i)),(1,V.fn 119 [] [V.pl 0 0,V.pl 1 0])],[O.cells [V.fn 87 [] []] 158,O.cells [V.str sc3,vi ic4,vi ic5,vi ic6,vi ic7,vi ic8,vi ic9,vi ic10,vi ic11,vi ic12,vi ic13,vi ic14,vi ic15,vi ic16] 117],none)
def ajs:nI->JJ
 |.L0 ia0=>(0,[])
 |.L2 ic0 ic1 nc2 sc3 ic4 ic5 ic6 ic7 ic8 ic9 ic10 ic11 ic12 ic13 ic14 ic15 ic16 ic17=>(2,[Cx.i ic17])
def SE:T (ck JJ):=aV JJ E7 u0 ahV [V.sl n0 (aa ah f0),V.fn 87 [] [],V.fn 88 [] [V.pd [V.sl n2 (aa af f2),V.sl n4 (aa ah f4)]]]
def wG (cx:List Cx):Lp JJ:=fQ (eZ (SE n0 f0 n2 f2 n4 f4) [])
def Qz (cx:List Cx):Lp JJ:=fQ (eZ (ua E7 u0 (0,[]) (wG n0 f0 n2 f2 n4 f4 []) (IL n0 f0 n2 f2 n4 f4 (.L0 (cH cx 0)))) [true,false])
def ad1:JJ->Lp JJ
 |(0,cx)=>wG n0 f0 n2 f2 n4 f4 cx
 |(2,cx)=>Qz n0 f0 n2 f2 n4 f4 cx
 |(_,cx)=>wG n0 f0 n2 f2 n4 f4 cx
def alr:LD JJ nI:=⟨ajs,ad1 n0 f0 n2 f2 n4 f4,IL n0 f0 n2 f2 n4 f4⟩
def qf (n0:Nat) (f0:aL) (n2:Nat) (f2:aL) (n4:Nat) (f4:aL):nI->RT nI
 |.L0 ia0=>.br (decide (ia0<(n0:Int))) (.ob (dI ia0 n0) (.cb (.cb (.obp ((sv (aE (f0 ia0.toNat))).size<=(9223372036854775807:Nat)) (.obt (.br (!jm (sv (aE (f0 ia0.toNat)))) (.brt (.ret (V.tup [vi ia0,vi 6]))) (.ob (decide (0<=ia0/\ia0<=(n0:Int))) (.asm (true=true->ia0.toNat-0<=9223372036854775807) (.enter [some (some 0),some (some 1)] (nI.L2 0 ((↑(ia0.toNat-0):Int)) (ia0.toNat-0) (sv (aE (f0 ia0.toNat))) (aW (f0 ia0.toNat)) (b7 (f0 ia0.toNat)) (bV (f0 ia0.toNat)) (dA (f0 ia0.toNat)) (bE (f0 ia0.toNat)) (bE (ae (f0 ia0.toNat))) (bE (ae (ae (f0 ia0.toNat)))) (bE (ae (ae (ae (f0 ia0.toNat))))) (bE (ae (ae (ae (ae (f0 ia0.toNat)))))) (bE (ae (ae (ae (ae (ae (f0 ia0.toNat))))))) (bE (ae (ae (ae (ae (ae (ae (f0 ia0.toNat)))))))) (bE (ae (ae (ae (ae (ae (ae (ae (f0 ia0.toNat))))))))) (bE (ae (ae (ae (ae (ae (ae (ae (ae (f0 ia0.toNat)))))))))) ia0) []))))))))) (.ret (V.tup [vi 0,vi 0]))
 |.L2 ic0 ic1 nc2 sc3 ic4 ic5 ic6 ic7 ic8 ic9 ic10 ic11 ic12 ic13 ic14 ic15 ic16 ic17=>.br (decide (ic0<ic1)) (.ob (dI ic0 nc2) (.cb (.cb (.br ((sv (aE (f0 (0+ic0.toNat)))).toList==sc3.toList) (.br (decide (0<=ic0)) (.brt (.ret (V.tup [vi ic17,vi 5]))) (.br (qE (aW (f0 ic17.toNat)) (b7 (f0 ic17.toNat)) (bV (f0 ic17.toNat)) (dA (f0 ic17.toNat)) (bE (f0 ic17.toNat)) (bE (ae (f0 ic17.toNat))) (bE (ae (ae (f0 ic17.toNat)))) (bE (ae (ae (ae (f0 ic17.toNat))))) (bE (ae (ae (ae (ae (f0 ic17.toNat)))))) (bE (ae (ae (ae (ae (ae (f0 ic17.toNat))))))) (bE (ae (ae (ae (ae (ae (ae (f0 ic17.toNat)))))))) (bE (ae (ae (ae (ae (ae (ae (ae (f0 ic17.toNat))))))))) (bE (ae (ae (ae (ae (ae (ae (ae (ae (f0 ic17.toNat)))))))))) n2 != 0) (.ret (V.tup [vi ic17,vi (qE (aW (f0 ic17.toNat)) (b7 (f0 ic17.toNat)) (bV (f0 ic17.toNat)) (dA (f0 ic17.toNat)) (bE (f0 ic17.toNat)) (bE (ae (f0 ic17.toNat))) (bE (ae (ae (f0 ic17.toNat)))) (bE (ae (ae (ae (f0 ic17.toNat))))) (bE (ae (ae (ae (ae (f0 ic17.toNat)))))) (bE (ae (ae (ae (ae (ae (f0 ic17.toNat))))))) (bE (ae (ae (ae (ae (ae (ae (f0 ic17.toNat)))))))) (bE (ae (ae (ae (ae (ae (ae (ae (f0 ic17.toNat))))))))) (bE (ae (ae (ae (ae (ae (ae (ae (ae (f0 ic17.toNat)))))))))) n2)])) (.next [some (some 0)] (nI.L0 (wI (ic17+1))) []))) (.next [some (some 0),some (some 1)] (nI.L2 (wI (ic0+1)) ic1 nc2 (sc3) ic4 ic5 ic6 ic7 ic8 ic9 ic10 ic11 ic12 ic13 ic14 ic15 ic16 ic17) []))))) (.brf (.br (qE (aW (f0 ic17.toNat)) (b7 (f0 ic17.toNat)) (bV (f0 ic17.toNat)) (dA (f0 ic17.toNat)) (bE (f0 ic17.toNat)) (bE (ae (f0 ic17.toNat))) (bE (ae (ae (f0 ic17.toNat)))) (bE (ae (ae (ae (f0 ic17.toNat))))) (bE (ae (ae (ae (ae (f0 ic17.toNat)))))) (bE (ae (ae (ae (ae (ae (f0 ic17.toNat))))))) (bE (ae (ae (ae (ae (ae (ae (f0 ic17.toNat)))))))) (bE (ae (ae (ae (ae (ae (ae (ae (f0 ic17.toNat))))))))) (bE (ae (ae (ae (ae (ae (ae (ae (ae (f0 ic17.toNat)))))))))) n2 != 0) (.ret (V.tup [vi ic17,vi (qE (aW (f0 ic17.toNat)) (b7 (f0 ic17.toNat)) (bV (f0 ic17.toNat)) (dA (f0 ic17.toNat)) (bE (f0 ic17.toNat)) (bE (ae (f0 ic17.toNat))) (bE (ae (ae (f0 ic17.toNat)))) (bE (ae (ae (ae (f0 ic17.toNat))))) (bE (ae (ae (ae (ae (f0 ic17.toNat)))))) (bE (ae (ae (ae (ae (ae (f0 ic17.toNat))))))) (bE (ae (ae (ae (ae (ae (ae (f0 ic17.toNat)))))))) (bE (ae (ae (ae (ae (ae (ae (ae (f0 ic17.toNat))))))))) (bE (ae (ae (ae (ae (ae (ae (ae (ae (f0 ic17.toNat)))))))))) n2)])) (.next [some (some 0)] (nI.L0 (wI (ic17+1))) [])))
def Qr:RT nI:=dm (f0,n2,f2,n4,f4) (.am n0 (.enter [some (some 0)] (nI.L0 0) []))
theorem YD:eS E7 u0 (alr n0 f0 n2 f2 n4 f4) (SE n0 f0 n2 f2 n4 f4) (Qr n0 f0 n2 f2 n4 f4) (qf n0 f0 n2 f2 n4 f4):=⟨bF,fun s=>by cases s<;>exact bF⟩
def A4 (n2 a:Nat):Int:=qE (aW (f0 a)) (b7 (f0 a)) (bV (f0 a)) (dA (f0 a)) (bE (f0 a)) (bE (ae (f0 a))) (bE (ae (ae (f0 a)))) (bE (ae (ae (ae (f0 a))))) (bE (ae (ae (ae (ae (f0 a)))))) (bE (ae (ae (ae (ae (ae (f0 a))))))) (bE (ae (ae (ae (ae (ae (ae (f0 a)))))))) (bE (ae (ae (ae (ae (ae (ae (ae (f0 a))))))))) (bE (ae (ae (ae (ae (ae (ae (ae (ae (f0 a)))))))))) n2
def yao (i j:Nat):Bool:=(sv (aE (f0 (0+j)))).toList==(sv (aE (f0 i))).toList
def jp (n2 i:Nat):Int:=bif !jm (sv (aE (f0 i))) then 6 else bif ls i (yao f0 i) then 5 else A4 f0 n2 i
def e9:Int:=fk n0 (jp f0 n2)
def dS:Int:=dz n0 (jp f0 n2)
theorem am0 (hn:n0<=9223372036854775807) (a:Nat) (hi:a<n0) (hj:∀ j,j<a->(jp f0 n2 j != 0)=false) (h1:jm (sv (aE (f0 a)))=true) (hx:(jp f0 n2 a != 0)=false->Ev (qf n0 f0 n2 f2 n4 f4) (.L0 (wI ((a:Int)+1))) (.tup [vi (e9 n0 f0 n2),vi (dS n0 f0 n2)])):Ev (qf n0 f0 n2 f2 n4 f4) (.L2 0 ((↑(a-0):Int)) (a-0) (sv (aE (f0 a))) (aW (f0 a)) (b7 (f0 a)) (bV (f0 a)) (dA (f0 a)) (bE (f0 a)) (bE (ae (f0 a))) (bE (ae (ae (f0 a)))) (bE (ae (ae (ae (f0 a))))) (bE (ae (ae (ae (ae (f0 a)))))) (bE (ae (ae (ae (ae (ae (f0 a))))))) (bE (ae (ae (ae (ae (ae (ae (f0 a)))))))) (bE (ae (ae (ae (ae (ae (ae (ae (f0 a))))))))) (bE (ae (ae (ae (ae (ae (ae (ae (ae (f0 a)))))))))) ((a:Int))) (.tup [vi (e9 n0 f0 n2),vi (dS n0 f0 n2)]):=by
 refine AJ (n:=a) (by omega) (yao f0 a) (P:=fun x=>Ev (qf n0 f0 n2 f2 n4 f4) (.L2 x ((↑(a-0):Int)) (a-0) (sv (aE (f0 a))) (aW (f0 a)) (b7 (f0 a)) (bV (f0 a)) (dA (f0 a)) (bE (f0 a)) (bE (ae (f0 a))) (bE (ae (ae (f0 a)))) (bE (ae (ae (ae (f0 a))))) (bE (ae (ae (ae (ae (f0 a)))))) (bE (ae (ae (ae (ae (ae (f0 a))))))) (bE (ae (ae (ae (ae (ae (ae (f0 a)))))))) (bE (ae (ae (ae (ae (ae (ae (ae (f0 a))))))))) (bE (ae (ae (ae (ae (ae (ae (ae (ae (f0 a)))))))))) ((a:Int))) (.tup [vi (e9 n0 f0 n2),vi (dS n0 f0 n2)])) (fun j hlt hq next=>Ev.of rfl (kS hlt (gX hlt (au (evObt (au (evObt (evBr (fun hb=>cI (dqt (ark j)) (fE (evRet ?_))) (fun hb=>aS (next hb)))))))))) (fun hq=>Ev.of rfl (jX (jR (evBr (fun hb=>evRet ?_) (fun hb=>aS (hx ?_))))))
 ·have hc:jp f0 n2 a=5:=by unfold jp;rw[h1,eA j hlt hb];rfl
  unfold e9 dS;rw[(cG hi (by rw[hc];rfl) hj).1,(cG hi (by rw[hc];rfl) hj).2,hc]
 ·have hc:jp f0 n2 a=A4 f0 n2 a:=by unfold jp;rw[h1,ep hq];rfl
  unfold e9 dS;rw[(cG hi (by rw[hc];exact hb) hj).1,(cG hi (by rw[hc];exact hb) hj).2,hc];rfl
 ·have hc:jp f0 n2 a=A4 f0 n2 a:=by unfold jp;rw[h1,ep hq];rfl
  rw [hc];exact hb
theorem Sg (hp:ap n0 f0):aX (Ev (qf n0 f0 n2 f2 n4 f4)) (Qr n0 f0 n2 f2 n4 f4) (.tup [vi (e9 n0 f0 n2),vi (dS n0 f0 n2)]):=by
 refine bw fun hn=>aM (AJ hn (fun i=>jp f0 n2 i != 0) (P:=fun x=>Ev (qf n0 f0 n2 f2 n4 f4) (.L0 x) (.tup [vi (e9 n0 f0 n2),vi (dS n0 f0 n2)])) (fun i hlt hj next=>Ev.of rfl (kS hlt (gX hlt (au (evObt (au (evObt (evObp (hp i hlt) (evObt (evBr (fun hb=>fE (evRet ?_)) (fun hb=>aD (dqt (by omega)) (evAsm fun _=>aM (am0 n0 f0 n2 f2 n4 f4 hn i hlt hj (Ea hb) next))))))))))))) (fun hj=>Ev.of rfl (jX (evRet ?_))))
 ·have hc:jp f0 n2 i=6:=by unfold jp;rw[show(!jm (sv (aE (f0 i))))=true from hb];rfl
  unfold e9 dS;rw[(cG hlt (by rw[hc];rfl) hj).1,(cG hlt (by rw[hc];rfl) hj).2,hc]
 ·unfold e9 dS;rw[(gk hj).1,(gk hj).2]
theorem afl (hp:ap n0 (aa ah f0)):aX (Ev (qf n0 f0 n2 f2 n4 f4)) (Qr n0 f0 n2 f2 n4 f4) (.tup [vi (e9 n0 (aa ah f0) n2),vi (dS n0 (aa ah f0) n2)]):=Sg n0 f0 n2 f2 n4 f4 hp
def Rp:av:=bL [.sl ah,.fn 87 [] [],.fn 88 [] [.pd [.sl af,.sl ah]]] (fun
 |[.sl n0 f0,.fn _ [] [],.fn _ [] [.pd [.sl n2 f2,.sl n4 f4]]]=>ap n0 f0
 |_=>False) fun
 |[.sl n0 f0,.fn _ [] [],.fn _ [] [.pd [.sl n2 f2,.sl n4 f4]]]=>.tup [vi (e9 n0 f0 n2),vi (dS n0 f0 n2)]
 |_=>.any
theorem UL:cr Rp 86:=aY ac4 fun _ hp=>nd (YD ..) (afl _ _ _ _ _ _ hp)
def Ol:aZ:=(83,.con yaN)::(86,.con Rp)::(88,.con JE)::Xi
theorem N3:aO Tryz.prog eqs its Ol:=.con R4 (.con UL (.con Ej (UO)))
def abr:RT Empty:=.am n0 (.ii (.asm ((!decide (10<(n0:Int)))=true->n2<=9223372036854775807) (.ii (.br (bif decide (10<(n0:Int)) then true else decide (20<(n2:Int))) (.ret (V.tup [vi 0,vi 0,vi 3])) (.obp (ap n0 f0) (.obt (.br (dY n0 (aa af f0)!=0) (.ret (V.tup [vi 1,vi (ff n0 (aa af f0)),vi (dY n0 (aa af f0))])) (.obp (ap n2 f2) (.obt (.br (dS n2 (aa ah f2) n0 != 0) (.ret (V.tup [vi 2,vi (e9 n2 (aa ah f2) n0),vi (dS n2 (aa ah f2) n0)])) (.ret (V.tup [vi 0,vi 0,vi 0]))))))))))))
theorem W2:cW cX (aV JJ Ol u0 ajj [V.agg [V.sl n0 (aa af f0),V.sl n2 (aa ah f2)]]) (abr n0 f0 n2 f2):=bF
def mw:Int:=bif bif decide (10<(n0:Int)) then true else decide (20<(n2:Int)) then 0 else bif dY n0 (aa af f0)!=0 then 1 else bif dS n2 (aa ah f2) n0 != 0 then 2 else 0
def ml:Int:=bif bif decide (10<(n0:Int)) then true else decide (20<(n2:Int)) then 0 else bif dY n0 (aa af f0)!=0 then ff n0 (aa af f0) else bif dS n2 (aa ah f2) n0 != 0 then e9 n2 (aa ah f2) n0 else 0
def bj:Int:=bif bif decide (10<(n0:Int)) then true else decide (20<(n2:Int)) then 3 else bif dY n0 (aa af f0)!=0 then dY n0 (aa af f0) else bif dS n2 (aa ah f2) n0 != 0 then dS n2 (aa ah f2) n0 else 0
def yW:V:=.tup [vi (mw n0 f0 n2 f2),vi (ml n0 f0 n2 f2),vi (bj n0 f0 n2 f2)]
theorem age (hp:ap n0 f0/\ap n2 f2):aX cL (abr n0 f0 n2 f2) (yW n0 f0 n2 f2):=evAsm (fun a0=>evObi (evObi (evAsm (fun a0=>evObi (evObi (evBr (fun h0=>evRet (by unfold yW mw ml bj;try rw[h0];rfl)) (fun h0=>evObp (by first|assumption|(first|exact hp.1|exact hp.2)) (evObt (evBr (fun h1=>evRet (by unfold yW mw ml bj;try rw[h0];try rw[h1];rfl)) (fun h1=>evObp (by first|assumption|(first|exact hp.1|exact hp.2)) (evObt (evBr (fun h2=>evRet (by unfold yW mw ml bj;try rw[h0];try rw[h1];try rw[h2];rfl)) (fun h2=>evRet (by unfold yW mw ml bj;try rw[h0];try rw[h1];try rw[h2];rfl))))))))))))))
def Qh:av:=bL [.agg [.sl af,.sl ah]] (fun
 |[.agg [.sl n0 f0,.sl n2 f2]]=>ap n0 f0/\ap n2 f2
 |_=>False) fun
 |[.agg [.sl n0 f0,.sl n2 f2]]=>yW n0 f0 n2 f2
 |_=>.any
theorem Gy:cr Qh 66:=aY N3 fun _ hp=>c9 (W2 ..) (age _ _ _ _ hp)
def Dk (n3:Nat) (f5:aL) (i:Nat):Bool:=(aN (aE (f5 i)):Int)!=(n3:Int)
def alP (i j:Nat):Bool:=bf (aw (bO (aE (f5 i)) j)) 0 10000000
def v7 (i:Nat):Bool:=en n3 (alP f5 i)
def s7:Bool:=bif bf x7 0 10000000 then bf x8 0 10000000 else false
def or2 (a b:Bool):Bool:=bif !a then true else !b
def Pe (n1:Nat) (f1:aL) (n3:Nat) (f3:aL) (n5:Nat) (f5:aL) (x7 x8:Int):Int :=
 bif or2 (bf (n1:Int) 2 12) (bf (n3:Int) 2 12) then 3 else bif or2 (Ja n1 f1) (Ja n3 f3) then 7 else bif or2 (gU n1 f1) (gU n3 f3) then 2 else bif(n5:Int)!=(n1:Int) then 6 else bif ls n5 (Dk n3 f5) then 6 else bif !(s7 x7 x8&&en n5 (v7 n3 f5)) then 7 else 0
def R5 (a j:Nat):Bool:=(sv (aE (f0 j))).toList==(sv (aE (f0 a))).toList
def nB (a:Nat):Int:=bif !HY (sv (aE (f0 a))) then 6 else bif ls a (R5 f0 a) then 5 else Pe (aN (aE (ae (f0 a)))) (fun i=>al ac (bO (aE (ae (f0 a))) i)) (aN (aE (ae (ae (f0 a))))) (fun i=>al ac (bO (aE (ae (ae (f0 a)))) i)) (aN (aE (ae (ae (ae (f0 a)))))) (bO (aE (ae (ae (ae (f0 a)))))) (dA (f0 a)) (bE (f0 a))
def adk:Bool:=bif x2==1 then x13 != 0 else false
def M4 (a j:Nat):Bool:=(sv (aE (f2 j))).toList==(sv (aE (f2 a))).toList
def aht (n0:Nat) (f2:aL) (a:Nat):Int:=Lq (bf (aW (f2 a)) 0 (wI ((n0:Int)-1))) (bf (b7 (f2 a)) 1 3) (bf (bV (f2 a)) 1 1000000&&(bf (dA (f2 a)) 1 5000000&&(bf (bE (f2 a)) 0 (dA (f2 a))&&(bf (bE (ae (f2 a))) 0 1000&&(uR (bE (ae (ae (f2 a)))) (bE (ae (ae (ae (f2 a))))) 0 1000&&(uR (bE (ae (ae (ae (ae (f2 a)))))) (bE (ae (ae (ae (ae (ae (f2 a))))))) 0 1000&&(bf (bE (ae (ae (ae (ae (ae (ae (f2 a)))))))) 1 200000&&(bf (bE (ae (ae (ae (ae (ae (ae (ae (f2 a))))))))) 0 1000&&(bf (bE (ae (ae (ae (ae (ae (ae (ae (ae (f2 a)))))))))) 0 3600))))))))) (adk (b7 (f2 a)) (bE (ae (ae (ae (ae (ae (ae (ae (ae (f2 a)))))))))))
def u4 (a:Nat):Int:=bif !HY (sv (aE (f2 a))) then 6 else bif ls a (M4 f2 a) then 5 else aht n0 f2 a
def zL:Int×Int×Int:=BF n2 (u4 n0 (aa ah f2)) 2 (0,0,0)
def Ks (n0:Nat) (f0:aL) (n2:Nat) (f2:aL):Int×Int×Int:=bif(bif decide (10<(n0:Int)) then true else decide (20<(n2:Int))) then(0,0,3) else BF n0 (nB (aa af f0)) 1 (zL n0 n2 f2)
def dZ:Int:=(Ks n0 f0 n2 f2).2.2
theorem wS {n:Nat} {p q:Nat->Bool} (h:∀ i,i<n->p i=q i):en n p=en n q:=by
 cases hq:en n q with
 |true=>exact ga fun i hi=>by rw[h i hi];exact cq hq i hi
 | false =>
   cases hp:en n p with
   |false=>rfl
   |true=>rw[ga fun i hi=>by rw[← h i hi];exact cq hp i hi]at hq;cases hq
theorem oX (n:Nat) (f:aL) (lo hi:Int):dE n f lo hi=en n fun i=>bf (aw (f i)) lo hi:=by
 show (!(decide (0<=xJ n fun ii=>qW (aw (f ii)) lo hi)))=_
 rw [kB]
 unfold ls
 rw [akg]
 exact wS fun i _=>by
  show (!(!yaa (aw (f i)) lo hi))=yaa (aw (f i)) lo hi
  rw [akg]
theorem FK (a b:Bool):or2 a b=!(a&&b):=by cases a<;>cases b<;>rfl
theorem tC (s:ByteArray) (i:Nat):uG s i=true↔¬ (97<=(s.data.toList.getD i 0).toNat/\(s.data.toList.getD i 0).toNat<=122)/\¬ (48<=(s.data.toList.getD i 0).toNat/\(s.data.toList.getD i 0).toNat<=57)/\(s.data.toList.getD i 0).toNat≠45:=by
 have key:∀ (p1 p2 p4 p5 p6:Bool),(!bif bif bif p1 then p2 else false then true else bif p4 then p5 else false then true else p6)=true↔¬ (p1=true/\p2=true)/\¬ (p4=true/\p5=true)/\¬ (p6=true):=by decide
 unfold uG
 rw [key]
 simp only [abN,ajU]
 omega
theorem yf (s:ByteArray):HK s=false↔(1<=s.size/\s.size<=24)/\97<=(s.data.toList.getD 0 0).toNat/\(s.data.toList.getD 0 0).toNat<=122:=by
 have key:∀ (p1 p2 p4 p5:Bool),(bif bif bif p1 then true else p2 then true else p4 then true else p5)=false↔¬ (p1=true)/\¬ (p2=true)/\¬ (p4=true)/\¬ (p5=true):=by decide
 unfold HK
 rw [key]
 simp only [abN]
 omega
theorem Kl (s:ByteArray):HY s=jm s:=by
 rw [apC]
 unfold HY jm
 simp only [aaw,abN,sD,aia]
 constructor
 ·intro h
  cases hc:HK s with
  |true=>rw[hc]at h;cases h
  | false =>
    rw [hc,cond_false]at h
    have h1:=(yf s).1 hc
    refine ⟨fun i hi=>?_,by omega,by omega⟩
    have h2:=cq h i hi
    cases hb:zR ((s.data.toList.getD i 0).toNat:Int) (i:Int) with
    |false=>rfl
    | true =>
      obtain ⟨g1,g2⟩:=(og _ i).1 hb
      rcases g2 with e|⟨g3,g4⟩
      ·subst e;exact(g1 h1.2).elim
      ·rw[(tC s i).2 ⟨g1,g3,g4⟩]at h2;cases h2
 ·rintro ⟨h1,h2,h3⟩
  have h0:=h1 0 h2
  have hl:97<=(s.data.toList.getD 0 0).toNat/\(s.data.toList.getD 0 0).toNat<=122:=by
   apply Classical.byContradiction
   intro hn
   rw [(og _ 0).2 ⟨hn,.inl rfl⟩]at h0;cases h0
  rw [(yf s).2 ⟨⟨by omega,h3⟩,hl⟩,cond_false]
  refine ga fun i hi=>?_
  cases hb:uG s i with
  |false=>rfl
  | true =>
    obtain ⟨g1,g2,g3⟩:=(tC s i).1 hb
    have:=h1 i hi
    rw [(og _ i).2 ⟨g1,.inr ⟨g2,g3⟩⟩]at this;cases this
theorem Mt:nq n1 f1 n3 f3 n5 f5 x7 x8=Pe n1 f1 n3 f3 n5 f5 x7 x8:=by
 have e1:∀ n f,dE n f (-5000) 5000=Ja n f:=fun n f=>oX n f _ _
 unfold nq Pe
 rw [FK,FK,FK,e1,e1]
 have e2:(ls n5 (sho n3 f5))=ls n5 (Dk n3 f5):=rfl
 rw [e2]
 cases he:ls n5 (Dk n3 f5) with
 |true=>rfl
 | false =>
   have hrow:∀ i,i<n5->aN (aE (f5 i))=n3:=fun i hi=>by
    cases hb:Dk n3 f5 i with
    |true=>rw[eA i hi hb]at he;cases he
    |false=>unfold Dk at hb;simp at hb;omega
   have e3:ls n5 (wil f5)=!en n5 (v7 n3 f5):=by
    unfold ls
    rw [wS (q:=v7 n3 f5) fun i hi=>by
     show (!(!dE (aN (aE (f5 i))) (aa ac fun j=>al ac (bO (aE (f5 i)) j)) 0 10000000))=_
     rw [akg,oX,hrow i hi];rfl]
   have e4:Yl x7 x8=!s7 x7 x8:=by
    show (!dE 2 _ 0 10000000)=_
    rw [oX]
    show (!((true&&bf x7 0 10000000)&&bf x8 0 10000000))=_
    unfold s7
    cases bf x7 0 10000000<;>cases bf x8 0 10000000<;>rfl
   unfold qT
   rw [e3,e4]
   show (bif _ then _ else bif _ then _ else bif _ then _ else bif _ then _ else _)=(bif _ then _ else bif _ then _ else bif _ then _ else bif _ then _ else _)
   cases s7 x7 x8<;>cases en n5 (v7 n3 f5)<;>rfl
theorem ahx (f:aL) (a:Nat):jr f a=nB f a:=by
 unfold jr nB
 rw [Kl,show Ba f a=R5 f a from funext fun j=>by unfold Ba R5;rw[aeb]]
 unfold Bl
 rw [Mt]
 rfl
theorem yr:fb x7 x8 0 1000=uR x7 x8 0 1000:=by
 unfold fb uR bf
 by_cases h1:(0:Int)<=x7<;>by_cases h2:x7<=x8<;>by_cases h3:x8<=1000<;>by_cases h4:x7<=1000<;>by_cases h5:(0:Int)<=x8<;>simp only[h1,h2,h3,h4,h5,decide_true,decide_false,cond_true,cond_false]<;>omega
theorem agF {a k num q q':Bool} (h:num=true->q=q'):Lq a k num q=Lq a k num q':=by
 cases num with
 |false=>rfl
 |true=>rw[h rfl]
theorem ah3 (f:aL) (n a:Nat):jp f n a=u4 n f a:=by
 unfold jp u4
 rw [Kl,show yao f a=M4 f a from funext fun j=>by unfold yao M4;rw[aeb]]
 unfold A4 qE aht
 rw [yr,yr]
 congr 2
 refine agF fun h=>?_
 simp only [aaw]at h
 have h13:=h.2.2.2.2.2.2.2.2
 unfold Vi adk
 unfold yaa at h13
 generalize bE (ae (ae (ae (ae (ae (ae (ae (ae (f a)))))))))=x at h13 ⊢
 have hx:0<=x:=by
  by_cases h0:(0:Int)<=x
  ·exact h0
  ·rw[ef h0]at h13;cases h13
 congr 1
 by_cases e:x=0
 ·subst e;rfl
 ·rw[dqt (by omega)];simp[e]
theorem lI:(mw n0 f0 n2 f2,ml n0 f0 n2 f2,bj n0 f0 n2 f2)=Ks n0 f0 n2 f2:=by
 have e1:∀ f,jr f=nB f:=fun f=>funext fun a=>ahx f a
 have e2:∀ f n,jp f n=u4 n f:=fun f n=>funext fun a=>ah3 f n a
 unfold mw ml bj Ks zL BF ff dY e9 dS
 rw [e1,e2]
 cases (bif decide (10<(n0:Int)) then true else decide (20<(n2:Int))) with
 |true=>rfl
 | false =>
   simp only [cond_false]
   generalize dz n0 _=x
   generalize fk n0 _=y
   generalize dz n2 _=z
   generalize fk n2 _=u
   cases x != 0<;>cases z != 0<;>rfl
def lG:aZ:=(66,.con Qh)::Ol
theorem kX:aO Tryz.prog eqs its lG:=.con Gy (N3)
def ybk:RT Empty:=.ret (vi (wI (wI (x2*x0)+wI (x3*x1))))
theorem WZ:cW cX (aV JJ lG u0 Rt [V.agg [vi x0,vi x1],vi x2,vi x3]) (ybk x0 x1 x2 x3):=bF
def aQ:Int:=wI (wI (x2*x0)+wI (x3*x1))
def R6:V:=vi (aQ x0 x1 x2 x3)
theorem ahk:aX cL (ybk x0 x1 x2 x3) (R6 x0 x1 x2 x3):=evRet (by unfold R6 aQ;rfl)
def PX:av:=bL [.agg aJ,tI,tI] (fun _=>True) fun
 |[.agg [.int _ x0,.int _ x1],.int _ x2,.int _ x3]=>R6 x0 x1 x2 x3
 |_=>.any
theorem Oi:cr PX 48:=aY kX fun _ hp=>c9 (WZ ..) (ahk _ _ _ _)
def abC:RT Empty:=.ret (vi (wI (wI (x2*x1)-wI (x3*x0))))
theorem WQ:cW cX (aV JJ lG u0 My [V.agg [vi x0,vi x1],vi x2,vi x3]) (abC x0 x1 x2 x3):=bF
def aP:Int:=wI (wI (x2*x1)-wI (x3*x0))
def MS:V:=vi (aP x0 x1 x2 x3)
theorem ahA:aX cL (abC x0 x1 x2 x3) (MS x0 x1 x2 x3):=evRet (by unfold MS aP;rfl)
def MH:av:=bL [.agg aJ,tI,tI] (fun _=>True) fun
 |[.agg [.int _ x0,.int _ x1],.int _ x2,.int _ x3]=>MS x0 x1 x2 x3
 |_=>.any
theorem Qq:cr MH 49:=aY kX fun _ hp=>c9 (WQ ..) (ahA _ _ _ _)
def ade:RT Empty:=.ret (vi (wI (wI (x0*x0)+wI (x1*x1))))
theorem ZV:cW cX (aV JJ lG u0 SS [V.agg [vi x0,vi x1]]) (ade x0 x1):=bF
def bB:Int:=wI (wI (x0*x0)+wI (x1*x1))
def Q2:V:=vi (bB x0 x1)
theorem ahI:aX cL (ade x0 x1) (Q2 x0 x1):=evRet (by unfold Q2 bB;rfl)
def Ri:av:=bL [.agg aJ] (fun _=>True) fun
 |[.agg [.int _ x0,.int _ x1]]=>Q2 x0 x1
 |_=>.any
theorem R1:cr Ri 50:=aY kX fun _ hp=>c9 (ZV ..) (ahI _ _)
def abL:RT Empty:=.ret (vi (min (max x0 (-200000)) 200000))
theorem Vo:cW cX (aV JJ lG u0 ME [vi x0]) (abL x0):=bF
def bW:Int:=min (max x0 (-200000)) 200000
def PD:V:=vi (bW x0)
theorem aey:aX cL (abL x0) (PD x0):=evRet (by unfold PD bW;rfl)
def UD:av:=bL ac (fun _=>True) fun
 |[.int _ x0]=>PD x0
 |_=>.any
theorem yaX:cr UD 76:=aY kX fun _ hp=>c9 (Vo ..) (aey _)
def oT:Int:=max (-200000) (min x0 200000)
def abq:RT Empty:=.cb (.br (dT 0 x0 x1) (.ret (V.tup [vi 0,vi (max (wI (x0*x0)) (wI (x1*x1)))])) (.ret (V.tup [vi (min (wI (x0*x0)) (wI (x1*x1))),vi (max (wI (x0*x0)) (wI (x1*x1)))])))
theorem ZF:cW cX (aV JJ lG u0 SH [vi x0,vi x1]) (abq x0 x1):=bF
def mb:Int:=bif dT 0 x0 x1 then 0 else min (wI (x0*x0)) (wI (x1*x1))
def mD:Int:=max (wI (x0*x0)) (wI (x1*x1))
def J4:V:=.tup [vi (mb x0 x1),vi (mD x0 x1)]
theorem adU:aX cL (abq x0 x1) (J4 x0 x1):=au (evObt (evBr (fun h0=>evRet (by unfold J4 mb mD;try rw[h0];rfl)) (fun h0=>evRet (by unfold J4 mb mD;try rw[h0];rfl))))
def SP:av:=bL aJ (fun _=>True) fun
 |[.int _ x0,.int _ x1]=>J4 x0 x1
 |_=>.any
theorem Ti:cr SP 60:=aY kX fun _ hp=>c9 (ZF ..) (adU _ _)
def ip:Int:=bif bif decide (x0<=0) then decide (0<=x1) else false then 0 else min (wI (x0*x0)) (wI (x1*x1))
def mp:Int:=max (wI (x0*x0)) (wI (x1*x1))
def fh:Bool:=bP x0 (-100000) 100000
def ac7:RT Empty:=.cb (.ret (V.bool !dT x0 (-100000) 100000))
theorem YZ:cW cX (aV JJ lG u0 Qb [vi x0]) (ac7 x0):=bF
def jv:Bool:=!dT x0 (-100000) 100000
def Tw:V:=.bool (jv x0)
theorem aie:aX cL (ac7 x0) (Tw x0):=au (evObt (evRet (by unfold Tw jv;rfl)))
def PV:av:=bL ac (fun _=>True) fun
 |[.int _ x0]=>Tw x0
 |_=>.any
theorem SO:cr PV 47:=aY kX fun _ hp=>c9 (YZ ..) (aie _)
def yaf:Bool:=bif bP x0 (-1000) 1000 then bif bP x1 (-1000) 1000 then bif x0 != 0 then true else x1 != 0 else false else false
def aaW:RT Empty:=.cb (.obi (.br (dT x0 (-1000) 1000) (.ob (dT x0 (-1000) 1000) (.cb (.ii (.obi (.ret (V.bool (bif dT x1 (-1000) 1000 then !(x0==0&&(x1==0&&true)) else false))))))) (.ret (V.kb false))))
theorem VV:cW cX (aV JJ lG u0 RX [V.agg [vi x0,vi x1]]) (aaW x0 x1):=bF
def l7:Bool:=bif dT x0 (-1000) 1000 then bif dT x1 (-1000) 1000 then !(x0==0&&(x1==0&&true)) else false else false
def HP:V:=.bool (l7 x0 x1)
theorem afy:aX cL (aaW x0 x1) (HP x0 x1):=au (evObt (evObi (evBr (fun h0=>aD (by first|assumption|(fail)) (au (evObt (evObi (evObi (evObi (evRet (by unfold HP l7;try rw[h0];rfl)))))))) (fun h0=>evRet (by unfold HP l7;try rw[h0];rfl)))))
def Si:av:=bL [.agg aJ] (fun _=>True) fun
 |[.agg [.int _ x0,.int _ x1]]=>HP x0 x1
 |_=>.any
theorem SF:cr Si 19:=aY kX fun _ hp=>c9 (VV ..) (afy _ _)
inductive tv where
 |L0 (ia0 ia1:Int)
def Ys:tv->bD×List O×Option Ex
 |.L0 ia0 ia1=>([(4,vi ia0),(3,vi ia1),(0,V.sl n0 (aa ac f0))],[],none)
def agk:tv->JJ
 |.L0 ia0 ia1=>(0,[])
def SJ:T (ck JJ):=aV JJ lG u0 aeE [V.sl n0 (aa ac f0)]
def Ct (cx:List Cx):Lp JJ:=fQ (eZ (SJ n0 f0) [false])
def agp:JJ->Lp JJ
 |(0,cx)=>Ct n0 f0 cx
 |(_,cx)=>Ct n0 f0 cx
def aoU:LD JJ tv:=⟨agk,agp n0 f0,Ys n0 f0⟩
def Bz:tv->RT tv
 |.L0 ia0 ia1=>.am n0 (.br (decide (ia0<(n0:Int))) (.ob (dI ia0 n0) (.next [] (tv.L0 (wI (ia0+1)) (max ia1 (aw (f0 ia0.toNat)))) [])) (.ret (vi ia1)))
def QB:RT tv:=.am n0 (.br (decide ((n0:Int)<1)) (.fail) (.ob (decide ((0:Int)<=0/\0<(n0:Int))) (.enter [] (tv.L0 1 (aw (f0 0))) [])))
theorem U7:eS lG u0 (aoU n0 f0) (SJ n0 f0) (QB n0 f0) (Bz n0 f0):=⟨bF,fun s=>by cases s<;>exact bF⟩
def B8 (p:Nat->Int) (z:Int):Nat->Int
 |0=>z
 |k+1=>max (B8 p z k) (p k)
def eU:Int:=B8 (fun i=>aw (f0 i)) (aw (f0 0)) n0
theorem Tr (hp:1<=n0):aX (Ev (Bz n0 f0)) (QB n0 f0) (vi (eU n0 f0)):=by
 refine bw fun hn=>cS (ef (by omega)) (aD (dqt (by omega)) (aM ?_))
 have key:=dO (n:=n0) (P:=fun i=>1<=i->Ev (Bz n0 f0) (.L0 i (B8 (fun i=>aw (f0 i)) (aw (f0 0)) i)) (vi (eU n0 f0))) fun i hi ih h1=>by
  refine Ev.of rfl (evAsm fun _=>evBr (fun h=>?_) (fun h=>evRet ?_))
  ·have hlt:i<n0:=by have:=abg h;omega
   refine gX hlt (aS ?_)
   rw [tB hlt hn]
   exact ih hlt (by omega)
  ·have:i=n0:=by have:=abu h;omega
   subst this;rfl
 have:=key 1 hp (aaS _)
 rwa [show B8 (fun i=>aw (f0 i)) (aw (f0 0)) 1=aw (f0 0) from Int.max_self _]at this
theorem agd (hp:1<=n0):aX (Ev (Bz n0 f0)) (QB n0 f0) (vi (eU n0 (aa ac f0))):=Tr n0 f0 hp
def Qc:av:=bL [.sl ac] (fun
 |[.sl n0 f0]=>1<=n0
 |_=>False) fun
 |[.sl n0 f0]=>vi (eU n0 f0)
 |_=>.any
theorem EY:cr Qc 75:=aY kX fun _ hp=>nd (U7 ..) (agd _ _ hp)
def grL (l:Nat->Nat) (v:Nat->Nat->Int) (z:Int):Nat->Int
 |0=>z
 |k+1=>B8 (v k) (grL l v z k) (l k)
abbrev grR (z:Int) (k:Nat):Int:=grL (fun i=>aN (aE (f5 i))) (fun i j=>aw (bO (aE (f5 i)) j)) z k
def IU:Int:=grR f5 x7 n5
inductive qU where
 |L0 (ia0 ia1:Int)
def Yt:qU->bD×List O×Option Ex
 |.L0 ia0 ia1=>([(4,vi ia0),(3,vi ia1),(0,vi x0)],[],none)
def aiO:qU->JJ
 |.L0 ia0 ia1=>(0,[])
def PS:T (ck JJ):=aV JJ lG u0 Mq [vi x0]
def Dq (cx:List Cx):Lp JJ:=fQ (eZ (PS x0) [])
def ahi:JJ->Lp JJ
 |(0,cx)=>Dq x0 cx
 |(_,cx)=>Dq x0 cx
def aoC:LD JJ qU:=⟨aiO,ahi x0,Yt x0⟩
def AV:qU->RT qU
 |.L0 ia0 ia1=>.br (decide (0<ia0)) (.br (decide (wI (wI (ia1+ia0)*wI (ia1+ia0))<=x0)) (.obt (.next [] (qU.L0 (wI (ia0.tdiv 2)) (wI (ia1+ia0))) [])) (.obt (.next [] (qU.L0 (wI (ia0.tdiv 2)) ia1) []))) (.ret (vi ia1))
def abe:RT qU:=dm x0 (.enter [] (qU.L0 1073741824 0) [])
theorem ZG:eS lG u0 (aoC x0) (PS x0) (abe x0) (AV x0):=⟨bF,fun s=>by cases s<;>exact bF⟩
def eD:Nat->Nat
 |0=>0
 |n+1=>bif Nat.ble ((eD n+1)*(eD n+1)) (n+1) then eD n+1 else eD n
theorem lU:∀ n,eD n*eD n<=n/\n<(eD n+1)*(eD n+1)
 |0=>⟨aaS _,by decide⟩
 | n + 1=>by
   obtain ⟨h1,h2⟩:=lU n
   unfold eD
   cases hb:Nat.ble ((eD n+1)*(eD n+1)) (n+1) with
   | true =>
     have:=aaF hb
     refine ⟨this,?_⟩
     have e:(eD n+1+1)*(eD n+1+1)=(eD n+1)*(eD n+1)+2*(eD n+1)+1:=by grind
     show n+1<(eD n+1+1)*(eD n+1+1)
     omega
   | false =>
     have h3:¬ (eD n+1)*(eD n+1)<=n+1:=fun h=>by rw[adr h]at hb;cases hb
     exact ⟨by show eD n*eD n<=n+1;omega,by show n+1<(eD n+1)*(eD n+1);omega⟩
theorem Xp {n r:Nat} (h1:r*r<=n) (h2:n<(r+1)*(r+1)):eD n=r:=by
 obtain ⟨g1,g2⟩:=lU n
 have a:¬ eD n<r:=fun h=>by have:=akl (show eD n+1<=r from h) (show eD n+1<=r from h);omega
 have c:¬ r<eD n:=fun h=>by have:=akl (show r+1<=eD n from h) (show r+1<=eD n from h);omega
 omega
def isq (x:Int):Int:=(eD x.toNat:Int)
def ko:Nat:=(min x0 4611686018427387903).toNat
def dq:Int:=(eD (ko x0):Int)
theorem abj {x:Int} {m:Nat} (h1:1<=m) (hm:m<=2147483647):decide (wI (wI (m:Int)*wI (m:Int))<=x)=decide (m*m<=ko x):=by
 have b:m*m<=2147483647*2147483647:=akl hm hm
 have b1:1<=m*m:=akl h1 h1
 rw [wrapI (x:=(m:Int)) (by omega) (by omega),show(m:Int)*(m:Int)=((m*m:Nat):Int) from(Int.natCast_mul m m).symm]
 generalize m*m=q at *
 rw [wrapI (by omega) (by omega)]
 unfold ko
 exact decide_eq_decide.2 (by omega)
theorem ald:∀ k:Nat,k<=30->∀ r:Nat,r*r<=ko x0->ko x0<(r+2 ^ (k+1))*(r+2 ^ (k+1))->r+2 ^ (k+1)<=2147483648->Ev (AV x0) (.L0 ((2 ^ k:Nat):Int) (r:Int)) (vi (dq x0)):=by
 intro k
 induction k with
 | zero =>
   intro _ r h1 h2 h3
   have h3':r+2<=2147483648:=h3
   have h2':ko x0<(r+2)*(r+2):=h2
   have fin:∀ q:Nat,q*q<=ko x0->ko x0<(q+1)*(q+1)->Ev (AV x0) (.L0 (wI (((1:Nat):Int).tdiv 2)) (q:Int)) (vi (dq x0)):=fun q g1 g2 =>
    Ev.of rfl (cS rfl (evRet (by unfold dq;rw[Xp g1 g2])))
   have hs:=abj (x:=x0) (m:=r+1) (by omega) (by omega)
   have e1:(r:Int)+((1:Nat):Int)=((r+1:Nat):Int):=by omega
   refine Ev.of rfl (cI (by decide) (evBr (fun h=>evObt (aS ?_)) (fun h=>evObt (aS ?_))))
   ·have h':decide ((r+1)*(r+1)<=ko x0)=true:=by rw[← hs,← e1];exact h
    have:=fin (r+1) (abg h') h2'
    rw [show wI ((r:Int)+((2 ^ 0:Nat):Int))=((r+1:Nat):Int) from by rw[wrapI (by omega) (by omega)];rfl]
    exact this
   ·have h':decide ((r+1)*(r+1)<=ko x0)=false:=by rw[← hs,← e1];exact h
    exact fin r h1 (Nat.lt_of_not_le (abu h'))
 | succ k ih =>
   intro hk r h1 h2 h3
   have p1:2 ^ (k+1+1)=2*2 ^ (k+1):=by rw[Nat.pow_succ];omega
   have p0:1<=2 ^ (k+1):=Nat.one_le_two_pow
   have p2:2 ^ (k+1)=2*2 ^ k:=by rw[Nat.pow_succ];omega
   have hs:=abj (x:=x0) (m:=r+2 ^ (k+1)) (by omega) (by omega)
   have e1:(r:Int)+((2 ^ (k+1):Nat):Int)=((r+2 ^ (k+1):Nat):Int):=by omega
   have e2:wI (((2 ^ (k+1):Nat):Int).tdiv 2)=((2 ^ k:Nat):Int):=by
    rw [p2,show((2*2 ^ k:Nat):Int).tdiv 2=((2 ^ k:Nat):Int) by rw[ajd (by omega)];omega]
    exact wrapI (by omega) (by omega)
   have e3:wI ((r:Int)+((2 ^ (k+1):Nat):Int))=((r+2 ^ (k+1):Nat):Int):=by rw[wrapI (by omega) (by omega)];exact e1
   refine Ev.of rfl (cI (dqt (by omega)) (evBr (fun h=>evObt (aS ?_)) (fun h=>evObt (aS ?_))))
   ·have h':decide ((r+2 ^ (k+1))*(r+2 ^ (k+1))<=ko x0)=true:=by rw[← hs,← e1];exact h
    rw [e2,e3]
    exact ih (by omega) (r+2 ^ (k+1)) (abg h') (by rw[show r+2 ^ (k+1)+2 ^ (k+1)=r+2 ^ (k+1+1) by omega];exact h2) (by omega)
   ·have h':decide ((r+2 ^ (k+1))*(r+2 ^ (k+1))<=ko x0)=false:=by rw[← hs,← e1];exact h
    rw [e2]
    exact ih (by omega) r h1 (Nat.lt_of_not_le (abu h')) (by omega)
theorem afB:aX (Ev (AV x0)) (abe x0) (vi (dq x0)):=aM (ald x0 30 (aaS _) 0 (acK _) (by unfold ko;show _<4611686018427387904;omega) (by decide))
def SU:av:=bL ac (fun _=>True) fun
 |[.int _ x0]=>vi (dq x0)
 |_=>.any
theorem UC:cr SU 41:=aY kX fun _ hp=>nd (ZG ..) (afB _)
def q5:Nat:=(min x0 3999999999999999999).toNat
def fl:Int:=(eD (q5 x0):Int)
def yaj:aZ:=(48,.con PX)::(49,.con MH)::(50,.con Ri)::(76,.con UD)::(60,.con SP)::(47,.con PV)::(19,.con Si)::(75,.con Qc)::(41,.con SU)::lG
theorem xf:aO Tryz.prog eqs its yaj:=.con Oi (.con Qq (.con R1 (.con yaX (.con Ti (.con SO (.con SF (.con EY (.con UC (kX)))))))))
def abK:RT Empty:=.cb (.br (decide (wI (dq x0*dq x0)<x0)) (.ret (vi (wI (dq x0+1)))) (.ret (vi (dq x0))))
theorem Xh:cW cX (aV JJ yaj u0 Qa [vi x0]) (abK x0):=bF
def cK:Int:=bif decide (wI (dq x0*dq x0)<x0) then wI (dq x0+1) else dq x0
def JB:V:=vi (cK x0)
theorem adE:aX cL (abK x0) (JB x0):=au (evObt (evBr (fun h0=>evRet (by unfold JB cK;try rw[h0];rfl)) (fun h0=>evRet (by unfold JB cK;try rw[h0];rfl))))
def S7:av:=bL ac (fun _=>True) fun
 |[.int _ x0]=>JB x0
 |_=>.any
theorem Pl:cr S7 39:=aY xf fun _ hp=>c9 (Xh ..) (adE _)
def e7:Int:=bif decide (wI (fl x0*fl x0)<x0) then wI (fl x0+1) else fl x0
inductive tN where
 |L0 (ia0:Int)
def aaf:tN->bD×List O×Option Ex
 |.L0 ia0=>([(8,vi ia0),(7,vi (n0:Int)),(6,V.sl n0 (aa ac f0)),(4,vi 0),(0,V.sl n0 (aa ac f0)),(1,V.fn 47 [] [])],[],none)
def afp:tN->JJ
 |.L0 ia0=>(0,[])
def RZ:T (ck JJ):=aV JJ yaj u0 yaJ [V.sl n0 (aa ac f0),V.fn 47 [] []]
def B5 (cx:List Cx):Lp JJ:=fQ (eZ (RZ n0 f0) [])
def ajE:JJ->Lp JJ
 |(0,cx)=>B5 n0 f0 cx
 |(_,cx)=>B5 n0 f0 cx
def aoE:LD JJ tN:=⟨afp,ajE n0 f0,aaf n0 f0⟩
def Ei:tN->RT tN
 |.L0 ia0=>.br (decide (ia0<(n0:Int))) (.ob (dI ia0 n0) (.cb (.br (jv (aw (f0 ia0.toNat))) (.ret (vi ia0)) (.next [] (tN.L0 (wI (ia0+1))) [])))) (.ret (vi (-1)))
def Tl:RT tN:=dm f0 (.am n0 (.enter [] (tN.L0 0) []))
theorem Zc:eS yaj u0 (aoE n0 f0) (RZ n0 f0) (Tl n0 f0) (Ei n0 f0):=⟨bF,fun s=>by cases s<;>exact bF⟩
def CX:Int  :=xJ n0 fun ii=>jv (aw (f0 ii))
theorem O0:aX (Ev (Ei n0 f0)) (Tl n0 f0) (vi (CX n0 f0)):=bw fun hn=>aM (nX hn fun i=>rfl)
theorem aeR:aX (Ev (Ei n0 f0)) (Tl n0 f0) (vi (CX n0 (aa ac f0))):=O0 n0 f0
def Sc:av:=bL [.sl ac,.fn 47 [] []] (fun _=>True) fun
 |[.sl n0 f0,.fn _ [] []]=>vi (CX n0 f0)
 |_=>.any
theorem PW:cr Sc 77:=aY xf fun _ hp=>nd (Zc ..) (aeR _ _)
inductive tD where
 |L0 (ia0 ia1:Int)
def ZC:tD->bD×List O×Option Ex
 |.L0 ia0 ia1=>([(4,vi ia0),(3,vi ia1),(0,V.sl n0 (aa ac f0))],[],none)
def ad3:tD->JJ
 |.L0 ia0 ia1=>(0,[])
def M2:T (ck JJ):=aV JJ yaj u0 ago [V.sl n0 (aa ac f0)]
def yaz (cx:List Cx):Lp JJ:=fQ (eZ (M2 n0 f0) [false])
def ad9:JJ->Lp JJ
 |(0,cx)=>yaz n0 f0 cx
 |(_,cx)=>yaz n0 f0 cx
def anN:LD JJ tD:=⟨ad3,ad9 n0 f0,ZC n0 f0⟩
def Bi:tD->RT tD
 |.L0 ia0 ia1=>.am n0 (.br (decide (ia0<(n0:Int))) (.ob (dI ia0 n0) (.next [] (tD.L0 (wI (ia0+1)) (min ia1 (aw (f0 ia0.toNat)))) [])) (.ret (vi ia1)))
def TI:RT tD:=.am n0 (.br (decide ((n0:Int)<1)) (.fail) (.ob (decide ((0:Int)<=0/\0<(n0:Int))) (.enter [] (tD.L0 1 (aw (f0 0))) [])))
theorem YW:eS yaj u0 (anN n0 f0) (M2 n0 f0) (TI n0 f0) (Bi n0 f0):=⟨bF,fun s=>by cases s<;>exact bF⟩
def mnZ (p:Nat->Int) (z:Int):Nat->Int
 |0=>z
 |k+1=>min (mnZ p z k) (p k)
def fO:Int:=mnZ (fun i=>aw (f0 i)) (aw (f0 0)) n0
theorem M7 (hp:1<=n0):aX (Ev (Bi n0 f0)) (TI n0 f0) (vi (fO n0 f0)):=by
 refine bw fun hn=>cS (ef (by omega)) (aD (dqt (by omega)) (aM ?_))
 have key:=dO (n:=n0) (P:=fun i=>1<=i->Ev (Bi n0 f0) (.L0 i (mnZ (fun i=>aw (f0 i)) (aw (f0 0)) i)) (vi (fO n0 f0))) fun i hi ih h1=>by
  refine Ev.of rfl (evAsm fun _=>evBr (fun h=>?_) (fun h=>evRet ?_))
  ·have hlt:i<n0:=by have:=abg h;omega
   refine gX hlt (aS ?_)
   rw [tB hlt hn]
   exact ih hlt (by omega)
  ·have:i=n0:=by have:=abu h;omega
   subst this;rfl
 have:=key 1 hp (aaS _)
 rwa [show mnZ (fun i=>aw (f0 i)) (aw (f0 0)) 1=aw (f0 0) from Int.min_self _]at this
theorem aix (hp:1<=n0):aX (Ev (Bi n0 f0)) (TI n0 f0) (vi (fO n0 (aa ac f0))):=M7 n0 f0 hp
def OA:av:=bL [.sl ac] (fun
 |[.sl n0 f0]=>1<=n0
 |_=>False) fun
 |[.sl n0 f0]=>vi (fO n0 f0)
 |_=>.any
theorem Fy:cr OA 74:=aY xf fun _ hp=>nd (YW ..) (aix _ _ hp)
inductive tP where
 |L0 (ia0 ia1:Int)
def XF (s0:ByteArray) (n1:Nat) (f1:aL) (n3:Nat) (f3:aL) (n5:Nat) (f5:aL) (x7 x8:Int):tP->bD×List O×Option Ex
 |.L0 ia0 ia1=>([(11,vi ia0),(10,vi (n5:Int)),(9,V.sl n5 (aa [Ty.sl ac] f5)),(3,vi ia1)],[],none)
def ajJ:tP->JJ
 |.L0 ia0 ia1=>(0,[])
def OB:T (ck JJ):=aV JJ yaj u0 agA [V.agg [V.str s0,V.sl n1 (aa ac f1),V.sl n3 (aa ac f3),V.sl n5 (aa [Ty.sl ac] f5),vi x7,vi x8]]
def D2 (cx:List Cx):Lp JJ:=fQ (eZ (OB s0 n1 f1 n3 f3 n5 f5 x7 x8) [])
def agH:JJ->Lp JJ
 |(0,cx)=>D2 s0 n1 f1 n3 f3 n5 f5 x7 x8 cx
 |(_,cx)=>D2 s0 n1 f1 n3 f3 n5 f5 x7 x8 cx
def ak5:LD JJ tP:=⟨ajJ,agH s0 n1 f1 n3 f3 n5 f5 x7 x8,XF s0 n1 f1 n3 f3 n5 f5 x7 x8⟩
def A7 (s0:ByteArray) (n1:Nat) (f1:aL) (n3:Nat) (f3:aL) (n5:Nat) (f5:aL) (x7 x8:Int):tP->RT tP
 |.L0 ia0 ia1=>.br (decide (ia0<(n5:Int))) (.ob (dI ia0 n5) (.obp ((1:Nat)<=aN (aE (f5 ia0.toNat))) (.obt (.next [] (tP.L0 (wI (ia0+1)) (max ia1 (eU (aN (aE (f5 ia0.toNat))) fun i=>al ac (bO (aE (f5 ia0.toNat)) i)))) [])))) (.ret (vi ia1))
def Sb:RT tP:=dm (s0,n1,f1,n3,f3,f5,x8) (.am n5 (.enter [] (tP.L0 0 x7) []))
theorem YU:eS yaj u0 (ak5 s0 n1 f1 n3 f3 n5 f5 x7 x8) (OB s0 n1 f1 n3 f3 n5 f5 x7 x8) (Sb s0 n1 f1 n3 f3 n5 f5 x7 x8) (A7 s0 n1 f1 n3 f3 n5 f5 x7 x8):=⟨bF,fun s=>by cases s<;>exact bF⟩
def Cf (i:Nat):Int:=eU (aN (aE (f5 i))) fun j=>al ac (bO (aE (f5 i)) j)
def pj:Int:=B8 (fun i=>Cf f5 i) x7 n5
theorem Pv (hp:∀ i,i<n5->1<=aN (aE (f5 i))):aX (Ev (A7 s0 n1 f1 n3 f3 n5 f5 x7 x8)) (Sb s0 n1 f1 n3 f3 n5 f5 x7 x8) (vi (pj n5 f5 x7)):=by
 refine bw fun hn=>aM (anM hn (P:=fun x=>Ev (A7 s0 n1 f1 n3 f3 n5 f5 x7 x8) (.L0 x (B8 (fun i=>Cf f5 i) x7 x.toNat)) (vi (pj n5 f5 x7))) (fun i hlt nx=>?_) (Ev.of rfl (jX (evRet rfl))))
 rw [show(wI ((i:Int)+1)).toNat=i+1 by rw[tB hlt hn];rfl]at nx
 exact Ev.of rfl (kS hlt (gX hlt (evObp (hp i hlt) (evObt (aS nx)))))
theorem ai7 (hp:∀ i,i<n5->1<=aN (aE ((aa [.sl ac] f5) i))):aX (Ev (A7 s0 n1 f1 n3 f3 n5 f5 x7 x8)) (Sb s0 n1 f1 n3 f3 n5 f5 x7 x8) (vi (pj n5 (aa [.sl ac] f5) x7)):=Pv s0 n1 f1 n3 f3 n5 f5 x7 x8 hp
def TN:av:=bL [.agg af] (fun
 |[.agg [.str s0,.sl n1 f1,.sl n3 f3,.sl n5 f5,.int _ x7,.int _ x8]]=>∀ i,i<n5->1<=aN (aE (f5 i))
 |_=>False) fun
 |[.agg [.str s0,.sl n1 f1,.sl n3 f3,.sl n5 f5,.int _ x7,.int _ x8]]=>vi (pj n5 f5 x7)
 |_=>.any
theorem QP:cr TN 61:=aY xf fun _ hp=>nd (YU ..) (ai7 _ _ _ _ _ _ _ _ _ hp)
def QD:aZ:=(39,.con S7)::(77,.con Sc)::(74,.con OA)::(61,.con TN)::yaj
theorem P4:aO Tryz.prog eqs its QD:=.con Pl (.con PW (.con Fy (.con QP (xf))))
def uu5:kk:=fun _=>5
def aog:RT Empty:=.cb (.ret (V.bool (decide (0<=CX n0 (aa ac f0)))))
theorem agQ:cW cX (aV JJ QD u0 Z1 [V.sl n0 (aa ac f0),V.fn 47 [] []]) (aog n0 f0):=bF
def Ac:Bool:=decide (0<=CX n0 (aa ac f0))
def afS:V:=.bool (Ac n0 f0)
theorem anP:aX cL (aog n0 f0) (afS n0 f0):=au (evObt (evRet (by unfold afS Ac;rfl)))
def ahe:av:=bL [.sl ac,.fn 47 [] []] (fun _=>True) fun
 |[.sl n0 f0,.fn _ [] []]=>afS n0 f0
 |_=>.any
theorem ab0:cr ahe 46:=aY P4 fun _ hp=>c9 (agQ ..) (anP _ _)
def PH:aZ:=(46,.con ahe)::QD
theorem SD:aO Tryz.prog eqs its PH:=.con ab0 (P4)
def aa5:RT Empty:=.cb (.ret (V.bool !Ac n0 (aa ac f0)))
theorem U8:cW cX (aV JJ PH u0 Mr [V.sl n0 (aa ac f0)]) (aa5 n0 f0):=bF
def mE:Bool:=!Ac n0 (aa ac f0)
def Pr:V:=.bool (mE n0 f0)
theorem aeP:aX cL (aa5 n0 f0) (Pr n0 f0):=au (evObt (evRet (by unfold Pr mE;rfl)))
def PP:av:=bL [.sl ac] (fun _=>True) fun
 |[.sl n0 f0]=>Pr n0 f0
 |_=>.any
theorem N2:cr PP 22:=aY SD fun _ hp=>c9 (U8 ..) (aeP _ _)
def qlo (m x:Int):Int:=bif decide (m<0) then oT (dv (wI (1000*m)) (fl (wI (1000000*x)))) else oT (dv (wI (1000*m)) (e7 (wI (1000000*x))))
def qhi (m x:Int):Int:=bif decide (m<0) then oT (eh (wI (1000*m)) (e7 (wI (1000000*x)))) else oT (eh (wI (1000*m)) (fl (wI (1000000*x))))
def lst (i:Nat):Int:=aw (f0 i)
def Ih:Int:=qlo (mnZ (lst f0) (lst f0 0) n0) x2
def IF:Int:=qhi (B8 (lst f0) (lst f0 0) n0) x2
def Rts (x:Int):Prop:=(e7 (wI (1000000*x))=0->False)/\(fl (wI (1000000*x))=0->False)
def Ip:aZ:=(22,.con PP)::PH
theorem Fg:aO Tryz.prog eqs its Ip:=.con N2 (SD)
def MC:RT Empty:=.brt (.obt (.obt (.obt (.cb (.obt (.brt (.obt (.obt (.obt (.cb (.obt (.brt (.obt (.obt (.obt (.cb (.obt (.brt (.obt (.obt (.obt (.cb (.obt (.brf (.obp ((1:Nat)<=(4:Nat)) (.obt (.obp ((1:Nat)<=(4:Nat)) (.obt (.br (decide (fO 4 (aa ac (bc [vi (wI (1000*aP x0 x1 x2 x3)),vi (wI (1000*aP x0 x1 x4 x5)),vi (wI (1000*aP x0 x1 x6 x7)),vi (wI (1000*aP x0 x1 x8 x9))] 0 1))<0)) (.br (decide (eU 4 (aa ac (bc [vi (wI (1000*aP x0 x1 x2 x3)),vi (wI (1000*aP x0 x1 x4 x5)),vi (wI (1000*aP x0 x1 x6 x7)),vi (wI (1000*aP x0 x1 x8 x9))] 0 1))<0)) (.obp (nz x11) (.obt (.cb (.obp (nz x10) (.obt (.cb (.ret (V.tup [vi (bW (b9 (fO 4 (aa ac (bc [vi (wI (1000*aP x0 x1 x2 x3)),vi (wI (1000*aP x0 x1 x4 x5)),vi (wI (1000*aP x0 x1 x6 x7)),vi (wI (1000*aP x0 x1 x8 x9))] 0 1))) x11)),vi (bW (b5 (eU 4 (aa ac (bc [vi (wI (1000*aP x0 x1 x2 x3)),vi (wI (1000*aP x0 x1 x4 x5)),vi (wI (1000*aP x0 x1 x6 x7)),vi (wI (1000*aP x0 x1 x8 x9))] 0 1))) x10))])))))))) (.obp (nz x11) (.obt (.cb (.obp (nz x11) (.obt (.cb (.ret (V.tup [vi (bW (b9 (fO 4 (aa ac (bc [vi (wI (1000*aP x0 x1 x2 x3)),vi (wI (1000*aP x0 x1 x4 x5)),vi (wI (1000*aP x0 x1 x6 x7)),vi (wI (1000*aP x0 x1 x8 x9))] 0 1))) x11)),vi (bW (b5 (eU 4 (aa ac (bc [vi (wI (1000*aP x0 x1 x2 x3)),vi (wI (1000*aP x0 x1 x4 x5)),vi (wI (1000*aP x0 x1 x6 x7)),vi (wI (1000*aP x0 x1 x8 x9))] 0 1))) x11))]))))))))) (.br (decide (eU 4 (aa ac (bc [vi (wI (1000*aP x0 x1 x2 x3)),vi (wI (1000*aP x0 x1 x4 x5)),vi (wI (1000*aP x0 x1 x6 x7)),vi (wI (1000*aP x0 x1 x8 x9))] 0 1))<0)) (.obp (nz x10) (.obt (.cb (.obp (nz x10) (.obt (.cb (.ret (V.tup [vi (bW (b9 (fO 4 (aa ac (bc [vi (wI (1000*aP x0 x1 x2 x3)),vi (wI (1000*aP x0 x1 x4 x5)),vi (wI (1000*aP x0 x1 x6 x7)),vi (wI (1000*aP x0 x1 x8 x9))] 0 1))) x10)),vi (bW (b5 (eU 4 (aa ac (bc [vi (wI (1000*aP x0 x1 x2 x3)),vi (wI (1000*aP x0 x1 x4 x5)),vi (wI (1000*aP x0 x1 x6 x7)),vi (wI (1000*aP x0 x1 x8 x9))] 0 1))) x10))])))))))) (.obp (nz x10) (.obt (.cb (.obp (nz x11) (.obt (.cb (.ret (V.tup [vi (bW (b9 (fO 4 (aa ac (bc [vi (wI (1000*aP x0 x1 x2 x3)),vi (wI (1000*aP x0 x1 x4 x5)),vi (wI (1000*aP x0 x1 x6 x7)),vi (wI (1000*aP x0 x1 x8 x9))] 0 1))) x10)),vi (bW (b5 (eU 4 (aa ac (bc [vi (wI (1000*aP x0 x1 x2 x3)),vi (wI (1000*aP x0 x1 x4 x5)),vi (wI (1000*aP x0 x1 x6 x7)),vi (wI (1000*aP x0 x1 x8 x9))] 0 1))) x11))]))))))))))))))))))))))))))))))))))))))
theorem yaO:cW cX (aV JJ Ip uu5 Fz [V.fn 49 [V.agg [vi x0,vi x1]] [],V.pd [vi x2,vi x3,vi x4,vi x5,vi x6,vi x7,vi x8,vi x9],V.pd [vi x10],V.pd [vi x11]]) (MC x0 x1 x2 x3 x4 x5 x6 x7 x8 x9 x10 x11):=bF
def iz:Int:=bif decide (fO 4 (aa ac (bc [vi (wI (1000*aP x0 x1 x2 x3)),vi (wI (1000*aP x0 x1 x4 x5)),vi (wI (1000*aP x0 x1 x6 x7)),vi (wI (1000*aP x0 x1 x8 x9))] 0 1))<0) then bW (b9 (fO 4 (aa ac (bc [vi (wI (1000*aP x0 x1 x2 x3)),vi (wI (1000*aP x0 x1 x4 x5)),vi (wI (1000*aP x0 x1 x6 x7)),vi (wI (1000*aP x0 x1 x8 x9))] 0 1))) x11) else bW (b9 (fO 4 (aa ac (bc [vi (wI (1000*aP x0 x1 x2 x3)),vi (wI (1000*aP x0 x1 x4 x5)),vi (wI (1000*aP x0 x1 x6 x7)),vi (wI (1000*aP x0 x1 x8 x9))] 0 1))) x10)
def iF:Int:=bif decide (eU 4 (aa ac (bc [vi (wI (1000*aP x0 x1 x2 x3)),vi (wI (1000*aP x0 x1 x4 x5)),vi (wI (1000*aP x0 x1 x6 x7)),vi (wI (1000*aP x0 x1 x8 x9))] 0 1))<0) then bW (b5 (eU 4 (aa ac (bc [vi (wI (1000*aP x0 x1 x2 x3)),vi (wI (1000*aP x0 x1 x4 x5)),vi (wI (1000*aP x0 x1 x6 x7)),vi (wI (1000*aP x0 x1 x8 x9))] 0 1))) x10) else bW (b5 (eU 4 (aa ac (bc [vi (wI (1000*aP x0 x1 x2 x3)),vi (wI (1000*aP x0 x1 x4 x5)),vi (wI (1000*aP x0 x1 x6 x7)),vi (wI (1000*aP x0 x1 x8 x9))] 0 1))) x11)
def se:V:=.tup [vi (iz x0 x1 x2 x3 x4 x5 x6 x7 x8 x9 x10 x11),vi (iF x0 x1 x2 x3 x4 x5 x6 x7 x8 x9 x10 x11)]
theorem V8 (hp:(x10=0->False)/\(x11=0->False)):aX cL (MC x0 x1 x2 x3 x4 x5 x6 x7 x8 x9 x10 x11) (se x0 x1 x2 x3 x4 x5 x6 x7 x8 x9 x10 x11):=fE (evObt (evObt (evObt (au (evObt (evObt (fE (evObt (evObt (evObt (au (evObt (evObt (fE (evObt (evObt (evObt (au (evObt (evObt (fE (evObt (evObt (evObt (au (evObt (evObt (jR (evObp (by first|assumption|((first|exact hp.1|exact hp.2|decide))) (evObt (evObp (by first|assumption|((first|exact hp.1|exact hp.2|decide))) (evObt (evBr (fun h0=>evBr (fun h1=>evObp (by first|assumption|((first|exact hp.1|exact hp.2|decide))) (evObt (au (evObt (evObp (by first|assumption|((first|exact hp.1|exact hp.2|decide))) (evObt (au (evObt (evRet (by unfold se iz iF;try rw[h0];try rw[h1];rfl)))))))))) (fun h1=>evObp (by first|assumption|((first|exact hp.1|exact hp.2|decide))) (evObt (au (evObt (evObp (by first|assumption|((first|exact hp.1|exact hp.2|decide))) (evObt (au (evObt (evRet (by unfold se iz iF;try rw[h0];try rw[h1];rfl))))))))))) (fun h0=>evBr (fun h1=>evObp (by first|assumption|((first|exact hp.1|exact hp.2|decide))) (evObt (au (evObt (evObp (by first|assumption|((first|exact hp.1|exact hp.2|decide))) (evObt (au (evObt (evRet (by unfold se iz iF;try rw[h0];try rw[h1];rfl)))))))))) (fun h1=>evObp (by first|assumption|((first|exact hp.1|exact hp.2|decide))) (evObt (au (evObt (evObp (by first|assumption|((first|exact hp.1|exact hp.2|decide))) (evObt (au (evObt (evRet (by unfold se iz iF;try rw[h0];try rw[h1];rfl))))))))))))))))))))))))))))))))))))))))))))
def Oo:av:=bL [.fn 49 [.agg aJ] [],.pd [tI,tI,tI,tI,tI,tI,tI,tI],.pd ac,.pd ac] (fun
 |[.fn _ [.agg [.int _ x0,.int _ x1]] [],.pd [.int _ x2,.int _ x3,.int _ x4,.int _ x5,.int _ x6,.int _ x7,.int _ x8,.int _ x9],.pd [.int _ x10],.pd [.int _ x11]]=>(x10=0->False)/\(x11=0->False)
 |_=>False) fun
 |[.fn _ [.agg [.int _ x0,.int _ x1]] [],.pd [.int _ x2,.int _ x3,.int _ x4,.int _ x5,.int _ x6,.int _ x7,.int _ x8,.int _ x9],.pd [.int _ x10],.pd [.int _ x11]]=>se x0 x1 x2 x3 x4 x5 x6 x7 x8 x9 x10 x11
 |_=>.any
theorem U0:cr Oo 73:=aY Fg fun _ hp=>c9 (yaO ..) (V8 _ _ _ _ _ _ _ _ _ _ _ _ hp)
def Oz:RT Empty:=.brt (.obt (.obt (.obt (.cb (.obt (.brt (.obt (.obt (.obt (.cb (.obt (.brt (.obt (.obt (.obt (.cb (.obt (.brt (.obt (.obt (.obt (.cb (.obt (.brf (.obp ((1:Nat)<=(4:Nat)) (.obt (.obp ((1:Nat)<=(4:Nat)) (.obt (.br (decide (fO 4 (aa ac (bc [vi (wI (1000*aQ x0 x1 x2 x3)),vi (wI (1000*aQ x0 x1 x4 x5)),vi (wI (1000*aQ x0 x1 x6 x7)),vi (wI (1000*aQ x0 x1 x8 x9))] 0 1))<0)) (.br (decide (eU 4 (aa ac (bc [vi (wI (1000*aQ x0 x1 x2 x3)),vi (wI (1000*aQ x0 x1 x4 x5)),vi (wI (1000*aQ x0 x1 x6 x7)),vi (wI (1000*aQ x0 x1 x8 x9))] 0 1))<0)) (.obp (nz x11) (.obt (.cb (.obp (nz x10) (.obt (.cb (.ret (V.tup [vi (bW (b9 (fO 4 (aa ac (bc [vi (wI (1000*aQ x0 x1 x2 x3)),vi (wI (1000*aQ x0 x1 x4 x5)),vi (wI (1000*aQ x0 x1 x6 x7)),vi (wI (1000*aQ x0 x1 x8 x9))] 0 1))) x11)),vi (bW (b5 (eU 4 (aa ac (bc [vi (wI (1000*aQ x0 x1 x2 x3)),vi (wI (1000*aQ x0 x1 x4 x5)),vi (wI (1000*aQ x0 x1 x6 x7)),vi (wI (1000*aQ x0 x1 x8 x9))] 0 1))) x10))])))))))) (.obp (nz x11) (.obt (.cb (.obp (nz x11) (.obt (.cb (.ret (V.tup [vi (bW (b9 (fO 4 (aa ac (bc [vi (wI (1000*aQ x0 x1 x2 x3)),vi (wI (1000*aQ x0 x1 x4 x5)),vi (wI (1000*aQ x0 x1 x6 x7)),vi (wI (1000*aQ x0 x1 x8 x9))] 0 1))) x11)),vi (bW (b5 (eU 4 (aa ac (bc [vi (wI (1000*aQ x0 x1 x2 x3)),vi (wI (1000*aQ x0 x1 x4 x5)),vi (wI (1000*aQ x0 x1 x6 x7)),vi (wI (1000*aQ x0 x1 x8 x9))] 0 1))) x11))]))))))))) (.br (decide (eU 4 (aa ac (bc [vi (wI (1000*aQ x0 x1 x2 x3)),vi (wI (1000*aQ x0 x1 x4 x5)),vi (wI (1000*aQ x0 x1 x6 x7)),vi (wI (1000*aQ x0 x1 x8 x9))] 0 1))<0)) (.obp (nz x10) (.obt (.cb (.obp (nz x10) (.obt (.cb (.ret (V.tup [vi (bW (b9 (fO 4 (aa ac (bc [vi (wI (1000*aQ x0 x1 x2 x3)),vi (wI (1000*aQ x0 x1 x4 x5)),vi (wI (1000*aQ x0 x1 x6 x7)),vi (wI (1000*aQ x0 x1 x8 x9))] 0 1))) x10)),vi (bW (b5 (eU 4 (aa ac (bc [vi (wI (1000*aQ x0 x1 x2 x3)),vi (wI (1000*aQ x0 x1 x4 x5)),vi (wI (1000*aQ x0 x1 x6 x7)),vi (wI (1000*aQ x0 x1 x8 x9))] 0 1))) x10))])))))))) (.obp (nz x10) (.obt (.cb (.obp (nz x11) (.obt (.cb (.ret (V.tup [vi (bW (b9 (fO 4 (aa ac (bc [vi (wI (1000*aQ x0 x1 x2 x3)),vi (wI (1000*aQ x0 x1 x4 x5)),vi (wI (1000*aQ x0 x1 x6 x7)),vi (wI (1000*aQ x0 x1 x8 x9))] 0 1))) x10)),vi (bW (b5 (eU 4 (aa ac (bc [vi (wI (1000*aQ x0 x1 x2 x3)),vi (wI (1000*aQ x0 x1 x4 x5)),vi (wI (1000*aQ x0 x1 x6 x7)),vi (wI (1000*aQ x0 x1 x8 x9))] 0 1))) x11))]))))))))))))))))))))))))))))))))))))))
theorem Rw:cW cX (aV JJ Ip uu5 Fz [V.fn 48 [V.agg [vi x0,vi x1]] [],V.pd [vi x2,vi x3,vi x4,vi x5,vi x6,vi x7,vi x8,vi x9],V.pd [vi x10],V.pd [vi x11]]) (Oz x0 x1 x2 x3 x4 x5 x6 x7 x8 x9 x10 x11):=bF
def iE:Int:=bif decide (fO 4 (aa ac (bc [vi (wI (1000*aQ x0 x1 x2 x3)),vi (wI (1000*aQ x0 x1 x4 x5)),vi (wI (1000*aQ x0 x1 x6 x7)),vi (wI (1000*aQ x0 x1 x8 x9))] 0 1))<0) then bW (b9 (fO 4 (aa ac (bc [vi (wI (1000*aQ x0 x1 x2 x3)),vi (wI (1000*aQ x0 x1 x4 x5)),vi (wI (1000*aQ x0 x1 x6 x7)),vi (wI (1000*aQ x0 x1 x8 x9))] 0 1))) x11) else bW (b9 (fO 4 (aa ac (bc [vi (wI (1000*aQ x0 x1 x2 x3)),vi (wI (1000*aQ x0 x1 x4 x5)),vi (wI (1000*aQ x0 x1 x6 x7)),vi (wI (1000*aQ x0 x1 x8 x9))] 0 1))) x10)
def iM:Int:=bif decide (eU 4 (aa ac (bc [vi (wI (1000*aQ x0 x1 x2 x3)),vi (wI (1000*aQ x0 x1 x4 x5)),vi (wI (1000*aQ x0 x1 x6 x7)),vi (wI (1000*aQ x0 x1 x8 x9))] 0 1))<0) then bW (b5 (eU 4 (aa ac (bc [vi (wI (1000*aQ x0 x1 x2 x3)),vi (wI (1000*aQ x0 x1 x4 x5)),vi (wI (1000*aQ x0 x1 x6 x7)),vi (wI (1000*aQ x0 x1 x8 x9))] 0 1))) x10) else bW (b5 (eU 4 (aa ac (bc [vi (wI (1000*aQ x0 x1 x2 x3)),vi (wI (1000*aQ x0 x1 x4 x5)),vi (wI (1000*aQ x0 x1 x6 x7)),vi (wI (1000*aQ x0 x1 x8 x9))] 0 1))) x11)
def so:V:=.tup [vi (iE x0 x1 x2 x3 x4 x5 x6 x7 x8 x9 x10 x11),vi (iM x0 x1 x2 x3 x4 x5 x6 x7 x8 x9 x10 x11)]
theorem U9 (hp:(x10=0->False)/\(x11=0->False)):aX cL (Oz x0 x1 x2 x3 x4 x5 x6 x7 x8 x9 x10 x11) (so x0 x1 x2 x3 x4 x5 x6 x7 x8 x9 x10 x11):=fE (evObt (evObt (evObt (au (evObt (evObt (fE (evObt (evObt (evObt (au (evObt (evObt (fE (evObt (evObt (evObt (au (evObt (evObt (fE (evObt (evObt (evObt (au (evObt (evObt (jR (evObp (by first|assumption|((first|exact hp.1|exact hp.2|decide))) (evObt (evObp (by first|assumption|((first|exact hp.1|exact hp.2|decide))) (evObt (evBr (fun h0=>evBr (fun h1=>evObp (by first|assumption|((first|exact hp.1|exact hp.2|decide))) (evObt (au (evObt (evObp (by first|assumption|((first|exact hp.1|exact hp.2|decide))) (evObt (au (evObt (evRet (by unfold so iE iM;try rw[h0];try rw[h1];rfl)))))))))) (fun h1=>evObp (by first|assumption|((first|exact hp.1|exact hp.2|decide))) (evObt (au (evObt (evObp (by first|assumption|((first|exact hp.1|exact hp.2|decide))) (evObt (au (evObt (evRet (by unfold so iE iM;try rw[h0];try rw[h1];rfl))))))))))) (fun h0=>evBr (fun h1=>evObp (by first|assumption|((first|exact hp.1|exact hp.2|decide))) (evObt (au (evObt (evObp (by first|assumption|((first|exact hp.1|exact hp.2|decide))) (evObt (au (evObt (evRet (by unfold so iE iM;try rw[h0];try rw[h1];rfl)))))))))) (fun h1=>evObp (by first|assumption|((first|exact hp.1|exact hp.2|decide))) (evObt (au (evObt (evObp (by first|assumption|((first|exact hp.1|exact hp.2|decide))) (evObt (au (evObt (evRet (by unfold so iE iM;try rw[h0];try rw[h1];rfl))))))))))))))))))))))))))))))))))))))))))))
def QO:av:=bL [.fn 48 [.agg aJ] [],.pd [tI,tI,tI,tI,tI,tI,tI,tI],.pd ac,.pd ac] (fun
 |[.fn _ [.agg [.int _ x0,.int _ x1]] [],.pd [.int _ x2,.int _ x3,.int _ x4,.int _ x5,.int _ x6,.int _ x7,.int _ x8,.int _ x9],.pd [.int _ x10],.pd [.int _ x11]]=>(x10=0->False)/\(x11=0->False)
 |_=>False) fun
 |[.fn _ [.agg [.int _ x0,.int _ x1]] [],.pd [.int _ x2,.int _ x3,.int _ x4,.int _ x5,.int _ x6,.int _ x7,.int _ x8,.int _ x9],.pd [.int _ x10],.pd [.int _ x11]]=>so x0 x1 x2 x3 x4 x5 x6 x7 x8 x9 x10 x11
 |_=>.any
theorem Wi:cr QO 73:=aY Fg fun _ hp=>c9 (Rw ..) (U9 _ _ _ _ _ _ _ _ _ _ _ _ hp)
def orC (p:List V->Bool) (A B:av):av:=fun ds=>cond (p ds) (A ds) (B ds)
theorem Gv {P:Program} {f:FuncId} (p:List V->Bool) (A B:av) (hA:(vP A).Ok P f) (hB:(vP B).Ok P f):(vP (orC p A B)).Ok P f:=by
 have key:∀ {w0 args lh K},vP (orC p A B) w0 args lh K->vP A w0 args lh K∨vP B w0 args lh K:=by
  intro w0 args lh K ⟨ds,d,pr,r,h1,h2,h3⟩
  unfold orC at h2
  cases hc:p ds with
  |true=>rw[hc]at h2;exact .inl ⟨ds,d,pr,r,h1,h2,h3⟩
  |false=>rw[hc]at h2;exact .inr ⟨ds,d,pr,r,h1,h2,h3⟩
 exact ⟨fun B m lh w args vs K hrel hargs hsp=>(key hsp).elim (fun h=>hA.1 B m lh w args vs K hrel hargs h) (fun h=>hB.1 B m lh w args vs K hrel hargs h),
  fun _ _ _ _ _ hk ⟨ds,d,p,r,h1,h2,h3,h4,h5⟩=>⟨ds,d,p,r,h1,h2,h3,h4,hk _ _ h5⟩,fun _ _ _ _ ⟨_,_,_,_,_,_,_,_,h⟩=>h⟩
def ait:List V->Bool
 |.fn n _ _::_=>Nat.beq n (match (.fn 49 [] []:V) with|.fn k _ _=>k|_=>0)
 |_=>false
def S9:av:=orC ait Oo QO
theorem Mu:(vP S9).Ok Tryz.prog 73:=Gv _ _ _ U0 Wi
end
end Go.Dx
namespace Go.Dx
open Go.IntKind (i64 u64 u8)
open Go.Sx
variable (n0:Nat) (f0:aL) (x0 x1:Int) (n2:Nat) (f2:aL) (x2 x3:Int) (n4:Nat) (f4:aL) (n6:Nat) (f6:aL)
noncomputable section
theorem rh (a l h:Int):gx a l h=!bq a l h:=by
 unfold gx bq
 by_cases h1:a<l
 ·rw[dqt h1,ef (show ¬ l<=a by omega)];rfl
 ·rw[ef h1,dqt (show l<=a by omega)]
  by_cases h2:h<a
  ·rw[dqt h2,cond_false,cond_true];exact ef (by omega)
  ·rw[ef h2,cond_false,cond_true];exact dqt (by omega)
theorem yy {n:Nat} {p q:Nat->Bool} (h:∀ i,i<n->p i=q i):ls n p=ls n q:=by
 cases hq:ls n q with
 | true =>
   obtain ⟨i,hi,hp⟩:=WT.1 hq
   exact eA i hi (by rw[h i hi];exact hp)
 | false =>
   refine ep fun i hi=>?_
   rw [h i hi]
   cases hp:q i with
   |false=>rfl
   |true=>rw[eA i hi hp]at hq;cases hq
theorem iG (n:Nat) (f:aL):je n f=!LE n f:=by
 unfold je Cz KV
 rw [kB]
 unfold ls LE
 congr 1
 congr 1
 funext i
 rw [rh];rfl
theorem WN (s:ByteArray):∀ (k i:Nat) (r:List UInt8),s.size-i=k->(ByteArray.toList.loop s i r).length=r.length+k:=by
 intro k
 induction k with
 | zero =>
   intro i r h
   rw [ByteArray.toList.loop]
   have:¬ i<s.size:=by omega
   simp [this]
 | succ k ih =>
   intro i r h
   rw [ByteArray.toList.loop]
   have:i<s.size:=by omega
   simp only [this,amW]
   rw [ih (i+1) _ (by omega)]
   simp;omega
theorem Kw (s:ByteArray):(s.toList==(⟨#[]⟩:ByteArray).toList)=decide (s.size=0):=by
 have e:(⟨#[]⟩:ByteArray).toList=[]:=by decide +kernel
 rw [e]
 have hl:s.toList.length=s.size:=by
  unfold ByteArray.toList;rw[WN s s.size 0 [] (by omega)];simp
 by_cases h:s.size=0
 ·rw[dqt h]
  have:s.toList=[]:=List.eq_nil_of_length_eq_zero (by omega)
  rw [this];rfl
 ·rw[ef h]
  cases hs:s.toList with
  |nil=>rw[hs]at hl;simp at hl;omega
  |cons a l=>rfl
theorem kV {α:Type} {p:α->Bool}:∀ {l:List α},l.dropWhile p=[]↔∀ x∈l,p x=true
 |[]=>by simp
 | a::l=>by
   rw [List.dropWhile_cons]
   cases h:p a with
   |true=>simp only[amW];rw[kV];simp[h]
   |false=>simp[h]
theorem QH (l cs:List UInt8):Lib.trimS l cs=[]↔∀ b∈l,cs.contains b=true:=by
 unfold Lib.trimS Lib.trimLeftS Lib.trimRightS
 rw [kV]
 constructor
 ·intro h
  have h1:l.reverse.dropWhile (cs.contains ·)=[]:=by
   cases hd:l.reverse.dropWhile (cs.contains ·) with
   |nil=>rfl
   | cons a r =>
     have ha:cs.contains a=true:=h a (by rw[hd];simp)
     have hh:=List.head_dropWhile_not (cs.contains ·) (l:=l.reverse) (by rw[hd];simp)
     simp only [hd,List.head_cons]at hh
     rw [ha]at hh;cases hh
  rw [kV]at h1
  exact fun b hb=>h1 b (by simpa using hb)
 ·intro h b hb
  have:b∈l.reverse:=by
   have:=List.mem_reverse.1 hb
   exact (List.dropWhile_sublist _).subset this
  exact h b (by simpa using this)
def nmB (b:Nat):Bool:=(decide (97<=b)&&decide (b<=122))||((decide (48<=b)&&decide (b<=57))||decide (b=45))
theorem zu (b:UInt8):([97,98,99,100,101,102,103,104,105,106,107,108,109,110,111,112,113,114,115,116,117,118,119,120,121,122,48,49,50,51,52,53,54,55,56,57,45]:List UInt8).contains b=nmB b.toNat:=by
 have key:∀ n:Fin 256,([97,98,99,100,101,102,103,104,105,106,107,108,109,110,111,112,113,114,115,116,117,118,119,120,121,122,48,49,50,51,52,53,54,55,56,57,45]:List UInt8).contains (UInt8.ofNat n.val)=nmB n.val:=by decide +kernel
 have:=key ⟨b.toNat,b.toNat_lt⟩
 simpa using this
theorem JN {l:List UInt8} {i:Nat} (h:i<l.length):l.getD i 0=l[i]:=by simp[List.getD,h]
theorem AP (s:ByteArray) (i:Nat):(!Vt s i)=(nmB (s.data.toList.getD i 0).toNat&&(decide (0<i)||(decide (97<=(s.data.toList.getD i 0).toNat)&&decide ((s.data.toList.getD i 0).toNat<=122)))):=by
 unfold Vt nmB
 generalize (s.data.toList.getD i 0).toNat=b
 rw [apC]
 simp only [apk,aia,aaw,ajQ,abN]
 split<;>split<;>(try split)<;>simp_all<;>omega
theorem J9 (s:ByteArray):nk s=Uf s:=by
 unfold nk Uf
 rw [Kw]
 have hsz:s.size=s.data.toList.length:=by rw[anm];rfl
 by_cases h0:s.size=0
 ·rw[dqt h0,h0];rfl
 rw [ef h0]
 have e0:decide (0<(s.size:Int))=true:=dqt (by omega)
 rw [e0]
 by_cases h24:(s.size:Int)<=24
 case neg=>rw[ef h24];simp
 rw [dqt h24]
 simp only [ape,cond_true,Bool.and_true]
 rw [Kw]
 rw [apC]
 have ht:(yb s (ByteArray.mk (Array.mk [97,98,99,100,101,102,103,104,105,106,107,108,109,110,111,112,113,114,115,116,117,118,119,120,121,122,48,49,50,51,52,53,54,55,56,57,45]))).size=0↔∀ b∈s.data.toList,nmB b.toNat=true:=by
  rw [show(yb s (ByteArray.mk (Array.mk [97,98,99,100,101,102,103,104,105,106,107,108,109,110,111,112,113,114,115,116,117,118,119,120,121,122,48,49,50,51,52,53,54,55,56,57,45]))).size=(Lib.trimS s.data.toList [97,98,99,100,101,102,103,104,105,106,107,108,109,110,111,112,113,114,115,116,117,118,119,120,121,122,48,49,50,51,52,53,54,55,56,57,45]).length from by simp[yb,ByteArray.size]]
  rw [List.length_eq_zero_iff,QH]
  constructor
  ·intro h b hb;rw[← zu];exact h b hb
  ·intro h b hb;rw[zu];exact h b hb
 have hb:en s.size (fun i=>!Vt s i)=true↔(∀ b∈s.data.toList,nmB b.toNat=true)/\97<=(s.data.toList.getD 0 0).toNat/\(s.data.toList.getD 0 0).toNat<=122:=by
  rw [sD]
  constructor
  ·intro h
   refine ⟨fun b hb=>?_,?_⟩
   ·obtain⟨i,hi,rfl⟩:=List.getElem_of_mem hb
    have:=h i (by omega)
    rw [AP,aaw]at this
    rw [JN hi]at this
    exact this.1
   ·have:=h 0 (by omega)
    rw [AP]at this
    simp only [aaw,ajQ,abN]at this
    rcases this.2 with h1|h1
    ·omega
    ·exact h1
  ·rintro⟨h1,h2,h3⟩ i hi
   rw [AP]
   have hi':i<s.data.toList.length:=by omega
   rw [h1 _ (by rw[JN hi'];exact List.getElem_mem hi')]
   by_cases hz:i=0
   ·subst hz;rw[dqt h2,dqt h3];rfl
   ·simp;omega
 rw [hb,← ht]
 cases hd:decide ((yb s (ByteArray.mk (Array.mk [97,98,99,100,101,102,103,104,105,106,107,108,109,110,111,112,113,114,115,116,117,118,119,120,121,122,48,49,50,51,52,53,54,55,56,57,45]))).size=0) with
 | false =>
   have:=abu hd
   simp [this]
 | true =>
   have:=abg hd
   simp only [cond_true,this,agn]
   rw [show s.data.1.getD 0 0=s.data.toList.getD 0 0 from rfl]
   generalize (s.data.toList.getD 0 0).toNat=b
   by_cases g:97<=b
   ·rw[dqt (show(97:Int)<=(b:Int) by omega)]
    simp only [cond_true,abN];omega
   ·rw[ef (show ¬ (97:Int)<=(b:Int) by omega)]
    simp;omega
theorem ZU (x y:Int):sw x y=!tY x y:=by unfold sw tY;exact iG _ _
section
variable (n:Nat) (f:aL)
include n f
theorem aeT (s:ByteArray):tj n f s=ls n fun k=>(sv (aE (f k))).toList==s.toList:=by
 unfold tj Ly;rw[kB];rfl
theorem ZK (s:ByteArray):rZ n f s=ls n fun k=>(sv (aE (f k))).toList==s.toList:=by
 unfold rZ Lb;rw[kB];rfl
theorem aiw:kh n f=ls n fun i=>!tY (aw (f i)) (aW (f i)):=by
 unfold kh KD;rw[kB];exact yy fun i _=>ZU _ _
end
theorem Kq (i:Nat):c62 n0 (aa aB f0) i=cR n0 f0 i:=by
 unfold c62 cR F63 F70 ab1
 rw [J9,aeT,aiw]
 simp only [acm,Nat.sub_zero,aeb,rh,akg]
 rfl
theorem Jh (i:Nat):c64 n2 (aa aG f2) i=cT f2 i:=by
 show nY (aw (f2 i)) (aW (f2 i)) (b7 (f2 i)) (bV (f2 i)) (dA (f2 i))=_
 unfold cT nY G7
 rw [iG]
 show (bif !!tY _ _ then _ else _)=_
 generalize tY _ _=p
 generalize b7 (f2 i)=a
 generalize bV (f2 i)=z
 generalize dA (f2 i)=w
 cases p
 ·rfl
 ·simp only [apb,ape,cond_true]
  rw [rh]
  cases ha:bq a 1 20000
  ·simp only [ape,apb,cond_true,cond_false]
   by_cases hw:1<=w/\w<=1000
   ·have e:bq w 1 1000=false:=by unfold bq;rw[ef (by omega),cond_false];exact ef (by omega)
    rw [e,wrapI (by omega) (by omega)]
    unfold bq
    by_cases hz:z<0
    ·rw[dqt hz];rfl
    ·rw[ef hz]
     by_cases hz2:w<=z
     ·rw[dqt (show w-1<z by omega),dqt hz2];rfl
     ·rw[ef (show ¬ w-1<z by omega),ef hz2,ef (show ¬ 1000<w by omega)];rfl
   ·have e:bq w 1 1000=true:=by
     unfold bq
     by_cases h1:w<1
     ·rw[dqt h1];rfl
     ·rw[ef h1,cond_false];exact dqt (by omega)
    rw [e]
    have:(bif bif decide (z<0) then true else decide (w<=z) then true else decide (1000<w))=true:=by
     by_cases hz:z<0
     ·rw[dqt hz];rfl
     ·rw[ef hz,cond_false]
      by_cases h2:w<=z
      ·rw[dqt h2];rfl
      ·rw[ef h2,cond_false];exact dqt (by omega)
    rw [this]
    cases !bq z 0 (wI (w-1))<;>rfl
  ·rfl
theorem adO:kW x0 x1 x2 x3=bif bif bif bif bif decide (x0<0) then true else decide (x1<=x0) then true else decide (1000<x1) then true else decide (x2<0) then true else decide (x3<=x2) then true else decide (1000<x3):=by
 have key:∀ a b:Int,((bif !bq b 1 1000 then bq a 0 (wI (b-1)) else true)=true)↔(a<0∨b<=a∨1000<b):=by
  intro a b
  unfold bq
  by_cases h1:b<1
  ·rw[dqt h1];simp;omega
  ·rw [ef h1]
   by_cases h2:1000<b
   ·rw[dqt h2];simp;omega
   ·rw[ef h2,wrapI (by omega) (by omega)]
    simp only [cond_false,ape,cond_true,apk]
    split<;>simp_all<;>omega
 have e1:=key x0 x1
 have e2:=key x2 x3
 have:kW x0 x1 x2 x3=(bif !(bif !bq x1 1 1000 then bq x0 0 (wI (x1-1)) else true) then(bif !bq x3 1 1000 then bq x2 0 (wI (x3-1)) else true) else true):=by
  unfold kW
  cases bq x1 1 1000<;>cases bq x0 0 (wI (x1-1))<;>rfl
 rw [this]
 generalize (bif !bq x1 1 1000 then bq x0 0 (wI (x1-1)) else true)=p at e1 ⊢
 generalize (bif !bq x3 1 1000 then bq x2 0 (wI (x3-1)) else true)=q at e2 ⊢
 rw [apC]
 simp only [apk]
 cases p<;>cases q<;>simp_all<;>omega
theorem Cy (i:Nat):c66 n4 (aa aH f4) i=cF f4 i:=by
 show oe (aw (f4 i)) (aW (f4 i)) (b7 (f4 i)) (bV (f4 i)) (aN (aE (ae (ae (ae (ae (f4 i))))))) (fun j=>al gP (bO (aE (ae (ae (ae (ae (f4 i)))))) j))=_
 unfold cF oe F72
 rw [iG]
 have:∀ n (f:aL),rX n f=ls n fun j=>z6 (f j):=by
  intro n f
  unfold rX LO;rw[kB]
  exact yy fun j _=>by rw[adO];rfl
 rw [this]
 rfl
theorem aqW (p q r t:Bool) (B:Int):(bif p then bif !q then bif !r then bif t then 7 else B else 7 else 7 else 7)=(bif bif bif bif !p then true else q then true else r then true else t then 7 else B):=by
 cases p<;>cases q<;>cases r<;>cases t<;>rfl
theorem Pq (i:Nat):c68 n6 (aa aA f6) i=cC n6 f6 i:=by
 unfold c68 cC lz F73
 rw [J9,ZK,iG]
 simp only [acm,Nat.sub_zero,aeb]
 unfold SY
 simp only [rh,akg]
 rw [aqW]
 rfl
theorem eF {n:Nat} {c d:Nat->Int} (h:∀ i,c i=d i):fk n c=fk n d/\dz n c=dz n d:=by
 have:c=d:=funext h
 rw [this];exact⟨rfl,rfl⟩
theorem TR :
 (lM n0 f0 n2 f2 n4 f4 n6 f6,lJ n0 f0 n2 f2 n4 f4 n6 f6,iB n0 f0 n2 f2 n4 f4 n6 f6)=F24 n0 f0 n2 f2 n4 f4 n6 f6:=by
 unfold lM lJ iB F24 Z2 z1 z2 z3 BF zk pM yd pG yN pp zr pw
 rw [(eF (Kq n0 f0)).1,(eF (Kq n0 f0)).2,(eF (Jh n2 f2)).1,(eF (Jh n2 f2)).2,(eF (Cy n4 f4)).1,(eF (Cy n4 f4)).2,(eF (Pq n6 f6)).1,(eF (Pq n6 f6)).2]
 cases (bif bif bif decide (8<(n0:Int)) then true else decide (12<(n2:Int)) then true else decide (8<(n4:Int)) then true else decide (24<(n6:Int)))
 ·simp only [cond_false]
  cases h1:dz n0 (cR n0 f0)!=0
  ·simp only [cond_false]
   cases h2:dz n2 (cT f2)!=0
   ·simp only [cond_false]
    cases h3:dz n4 (cF f4)!=0
    ·simp only[cond_false]
     cases h4:dz n6 (cC n6 f6)!=0
     ·rfl
     ·rfl
    ·rfl
   ·rfl
  ·rfl
 ·rfl
theorem ags (ts:List Ty) (f:aL):aa ts (aa ts f)=aa ts f:=by
 funext i;exact dP ts _
theorem Dj {n:Nat} {c:Nat->Int} (h:dz n c=0):∀ i,i<n->c i=0:=by
 unfold dz at h
 rcases Rm (n:=n) (p:=fun i=>c i != 0) with ⟨_,h2⟩|⟨j,h1,h2,h3,_⟩
 ·intro i hi
  have:=h2 i hi
  simpa using this
 ·rw[h2]at h
  have:((j:Int)==-1)=false:=by rw[aqI];omega
  rw [this,cond_false,acm]at h
  rw [h]at h3;cases h3
section
variable {n0:Nat} {f0:aL} {n2:Nat} {f2:aL} {n4:Nat} {f4:aL} {n6:Nat} {f6:aL} {i j m l:Int}
structure acW (n0:Nat) (f0:aL) (n2:Nat) (f2:aL) (n4:Nat) (f4:aL) (n6:Nat) (f6:aL):Prop where
 l0:n0<=8
 l2:n2<=12
 l4:n4<=8
 l6:n6<=24
 rd:∀ i,i<n0->cR n0 f0 i=0
 tr:∀ i,i<n2->cT f2 i=0
 fr:∀ i,i<n4->cF f4 i=0
 cl:∀ i,i<n6->cC n6 f6 i=0
theorem jV {n:Nat} {c:Nat->Int} {k:Int} {z:Int×Int×Int} (h:(BF n c k z).2.2=0):(∀ i,i<n->c i=0)/\z.2.2=0:=by
 unfold BF at h
 cases hb:dz n c != 0 with
 |true=>rw[hb]at h;simp only[cond_true]at h;rw[h]at hb;cases hb
 | false =>
   rw [hb]at h
   exact ⟨Dj (by simpa using hb),h⟩
theorem tX (h:fv n0 f0 n2 f2 n4 f4 n6 f6=0):acW n0 f0 n2 f2 n4 f4 n6 f6:=by
 unfold fv F24 at h
 cases hl:Z2 n0 f0 n2 f2 n4 f4 n6 f6 with
 |true=>rw[hl]at h;cases h
 | false =>
   rw [hl,cond_false]at h
   obtain ⟨h1,h⟩:=jV h
   unfold z1 at h
   obtain ⟨h2,h⟩:=jV h
   unfold z2 at h
   obtain ⟨h3,h⟩:=jV h
   unfold z3 at h
   obtain ⟨h4,_⟩:=jV h
   unfold Z2 at hl
   simp only [apk,Bool.ite_eq_false_distrib]at hl
   have:n0<=8/\n2<=12/\n4<=8/\n6<=24:=by
    refine ⟨?_,?_,?_,?_⟩<;>(apply Classical.byContradiction;intro hn)<;>simp_all<;>omega
   exact ⟨this.1,this.2.1,this.2.2.1,this.2.2.2,h1,h2,h3,h4⟩
def oc (i m:Int):Bool:=bif decide (i<0) then true else decide (m<=i)
def ix1 (e i m:Int):Int:=bif e==0 then(bif oc i m then 4 else 0) else e
def ix2 (e i m j l:Int):Int:=bif e==0 then(bif bif oc i m then true else oc j l then 4 else 0) else e
theorem AR:iB n0 f0 n2 f2 n4 f4 n6 f6=fv n0 f0 n2 f2 n4 f4 n6 f6:=congrArg (fun t=>t.2.2) (TR n0 f0 n2 f2 n4 f4 n6 f6)
theorem Am {i:Int} {m:Nat} (hm:m<=9223372036854775807):bq i 0 (wI ((m:Int)-1))=oc i m:=by
 unfold bq oc
 rw [wrapI (by omega) (by omega)]
 by_cases h:i<0
 ·rw[dqt h];rfl
 ·rw[ef h,cond_false,cond_false]
  by_cases g:(m:Int)<=i
  ·rw[dqt g];exact dqt (by omega)
  ·rw[ef g];exact ef (by omega)
theorem agi {i:Int} {m:Nat} (hm:fv n0 (aa aB f0) n2 (aa aG f2) n4 (aa aH f4) n6 (aa aA f6)=0->m<=9223372036854775807) :
 jd n0 (aa aB f0) n2 (aa aG f2) n4 (aa aH f4) n6 (aa aA f6) 2 (aa ac (bc [vi i,vi m] 0 1))=ix1 (fv n0 (aa aB f0) n2 (aa aG f2) n4 (aa aH f4) n6 (aa aA f6)) i m:=by
 unfold jd F5 ix1
 simp only [ags,AR]
 cases he:fv n0 (aa aB f0) n2 (aa aG f2) n4 (aa aH f4) n6 (aa aA f6)==0 with
 |false=>rfl
 | true =>
   rw [cond_true,cond_true]
   have:=hm (ajV he)
   rw [← Am this]
   show (bif !(true&&!bq i 0 (wI ((m:Int)-1))) then _ else _)=_
   rw [Bool.true_and,akg]
theorem aq4 {i j:Int} {m l:Nat} (hm:fv n0 (aa aB f0) n2 (aa aG f2) n4 (aa aH f4) n6 (aa aA f6)=0->m<=9223372036854775807/\l<=9223372036854775807) :
 jd n0 (aa aB f0) n2 (aa aG f2) n4 (aa aH f4) n6 (aa aA f6) 4 (aa ac (bc [vi i,vi m,vi j,vi l] 0 1))=ix2 (fv n0 (aa aB f0) n2 (aa aG f2) n4 (aa aH f4) n6 (aa aA f6)) i m j l:=by
 unfold jd F5 ix2
 simp only [ags,AR]
 cases he:fv n0 (aa aB f0) n2 (aa aG f2) n4 (aa aH f4) n6 (aa aA f6)==0 with
 |false=>rfl
 | true =>
   rw [cond_true,cond_true]
   have:=hm (ajV he)
   rw [← Am this.1,← Am this.2]
   show (bif !((true&&!bq i 0 (wI ((m:Int)-1)))&&!bq j 0 (wI ((l:Int)-1))) then _ else _)=_
   cases bq i 0 (wI ((m:Int)-1))<;>cases bq j 0 (wI ((l:Int)-1))<;>rfl
theorem Ul {i m:Int}:eo n0 (aa aB f0) n2 (aa aG f2) n4 (aa aH f4) n6 (aa aA f6) i m=ix1 (fv n0 (aa aB f0) n2 (aa aG f2) n4 (aa aH f4) n6 (aa aA f6)) i m:=by
 unfold eo yz ix1 oc
 simp only [ags]
 generalize fv n0 (aa aB f0) n2 (aa aG f2) n4 (aa aH f4) n6 (aa aA f6)=e
 by_cases he:e=0
 ·subst he
  cases (bif decide (i<0) then true else decide (m<=i))<;>rfl
 ·rw[show(e==0)=false from by simpa using he];rfl
theorem Cj (x8 x9:Int):yY n0 f0 n2 f2 n4 f4 n6 f6 x8 x9=O1 n0 f0 n2 f2 n4 f4 n6 f6 x8 x9/\CR n0 f0 n2 f2 n4 f4 n6 f6 x8 x9=aaO n0 f0 n2 f2 n4 f4 n6 f6 x8 x9:=by
 have hc:=aq4 (n0:=n0) (f0:=f0) (n2:=n2) (f2:=f2) (n4:=n4) (f4:=f4) (n6:=n6) (f6:=f6) (i:=x9) (j:=x8) (m:=n4) (l:=n6) (fun h=>⟨by have:=(tX h).l4;omega,by have:=(tX h).l6;omega⟩)
 have hd:=Ul (n0:=n0) (f0:=f0) (n2:=n2) (f2:=f2) (n4:=n4) (f4:=f4) (n6:=n6) (f6:=f6) (i:=x9) (m:=n4)
 unfold yY O1 CR aaO
 rw [show(gJ (aw (f4 x9.toNat)) (aW (f4 x9.toNat)) (b7 (f4 x9.toNat)) (bV (f4 x9.toNat)) (aW (f6 x8.toNat)) (b7 (f6 x8.toNat)))=kp (wI (b7 (f4 x9.toNat)-aw (f4 x9.toNat))) (wI (bV (f4 x9.toNat)-aW (f4 x9.toNat))) (wI (aW (f6 x8.toNat)-aw (f4 x9.toNat))) (wI (b7 (f6 x8.toNat)-aW (f4 x9.toNat))) from rfl]
 rw [show jd n0 (aa aB f0) n2 (aa aG f2) n4 (aa aH f4) n6 (aa aA f6) 4 (aa ac (bc [vi x9,vi n4,vi x8,vi n6] 0 1))=_ from hc]
 rw [show eo n0 (aa aB f0) n2 (aa aG f2) n4 (aa aH f4) n6 (aa aA f6) x9 (n4:Int)=_ from hd]
 show (bif _ then false else decide (0<_))=(bif bif _ then oc x8 n6 else false then false else _)/\_=(bif bif _ then oc x8 n6 else false then _ else _)
 unfold ix1 ix2
 generalize decide (0<kp _ _ _ _)=v
 generalize fv _ _ _ _ _ _ _ _=e
 generalize oc x8 _=b
 generalize oc x9 _=a
 by_cases he:e=0
 ·subst he;cases a<;>cases b<;>cases v<;>exact⟨rfl,rfl⟩
 ·rw[show(e==0)=false from by simpa using he]
  have:(e != 0)=true:=by simpa using he
  have h2:(e==0)=false:=by simpa using he
  simp only [cond_false,this,h2,cond_true,aqA]
end
end
end Go.Dx
namespace Go.Dx
open Go.IntKind (i64 u64 u8)
open Go.Sx Go.Proofs
variable (n0:Nat) (f0:aL) (x0:Int) (s0:ByteArray) (x1:Int) (n2:Nat) (f2:aL) (x2 x3 x4:Int) (n5:Nat) (f5:aL) (x5 x6:Int) (n7:Nat) (f7:aL) (x7 x8:Int) (n9:Nat) (f9:aL) (x9:Int) (n11:Nat) (f11:aL) (n13:Nat) (f13:aL) (n15:Nat) (f15:aL)
noncomputable section
structure Bh (n0:Nat) (f0:aL) (n2:Nat) (f2:aL):Prop where
 l0:n0<=10
 l2:n2<=20
 tb:∀ i,i<n0->nB (aa af f0) i=0
 lm:∀ i,i<n2->u4 n0 (aa ah f2) i=0
theorem AI {n0:Nat} {f0:aL} {n2:Nat} {f2:aL} (h:dZ n0 f0 n2 f2=0):Bh n0 f0 n2 f2:=by
 unfold dZ Ks at h
 cases hl:(bif decide (10<(n0:Int)) then true else decide (20<(n2:Int))) with
 |true=>rw[hl]at h;cases h
 | false =>
   rw [hl]at h
   obtain ⟨h1,h2⟩:=jV h
   obtain ⟨h3,_⟩:=jV h2
   have a:(decide (10<(n0:Int)))=false:=by cases hh:decide (10<(n0:Int)) with|false=>rfl|true=>rw[hh]at hl;cases hl
   rw [a]at hl
   have b:=abu hl
   have a:=abu a
   exact ⟨by omega,by omega,h1,h3⟩
theorem tR {x a b:Int} (h:bf x a b=true):a<=x/\x<=b:=by
 unfold bf at h
 cases h1:decide (a<=x) with
 |false=>rw[h1]at h;cases h
 |true=>rw[h1]at h;exact⟨abg h1,abg h⟩
theorem Nr {a b:Bool} (h:or2 a b=false):a=true/\b=true:=by
 unfold or2 at h
 cases a<;>cases b<;>first|exact⟨rfl,rfl⟩|cases h
def KQ (x:List V):Nat:=aN (aE (ae (ae (ae x))))
def BE (x:List V):Nat->List V:=bO (aE (ae (ae (ae x))))
structure uk (x:List V):Prop where
 u:2<=aN (aE (ae x))/\aN (aE (ae x))<=12
 v:2<=aN (aE (ae (ae x)))/\aN (aE (ae (ae x)))<=12
 n:KQ x=aN (aE (ae x))
 row:∀ i,i<KQ x->aN (aE (BE x i))=aN (aE (ae (ae x)))
 side:0<=dA x/\dA x<=10000000
 sky:0<=bE x/\bE x<=10000000
 val:∀ i,i<KQ x->∀ j,j<aN (aE (BE x i))->0<=aw (bO (aE (BE x i)) j)/\aw (bO (aE (BE x i)) j)<=10000000
theorem j8 {b:Bool} {k z:Int} (h:(bif b then k else z)=0) (hk:k≠0):b=false/\z=0:=by
 cases b with
 |true=>exact absurd h hk
 |false=>exact⟨rfl,h⟩
theorem notf {b:Bool} (h:(!b)=false):b=true:=by cases b<;>first|rfl|cases h
theorem BP {a b:Bool} (h:(a&&b)=true):a=true/\b=true:=by cases a<;>cases b<;>first|exact⟨rfl,rfl⟩|cases h
theorem aqY {n:Nat} {p:Nat->Bool} (h:ls n p=false):∀ i,i<n->p i=false:=fun i hi=>by
 cases hp:p i with
 |false=>rfl
 |true=>rw[eA i hi hp]at h;cases h
theorem NL {f0:aL} {a:Nat} (h:nB (aa af f0) a=0):uk (f0 a):=by
 unfold nB at h
 obtain ⟨_,h⟩:=j8 h (by decide)
 obtain ⟨_,h⟩:=j8 h (by decide)
 unfold Pe at h
 obtain ⟨h1,h⟩:=j8 h (by decide)
 obtain ⟨_,h⟩:=j8 h (by decide)
 obtain ⟨_,h⟩:=j8 h (by decide)
 obtain ⟨h2,h⟩:=j8 h (by decide)
 obtain ⟨h3,h⟩:=j8 h (by decide)
 obtain ⟨h4,_⟩:=j8 h (by decide)
 obtain ⟨u,v⟩:=Nr h1
 have u:=tR u
 have v:=tR v
 have g:s7 (dA (f0 a)) (bE (f0 a))=true:=(BP (notf h4)).1
 have w:en (KQ (f0 a)) (v7 (aN (aE (ae (ae (f0 a))))) (aa [.sl ac] (BE (f0 a))))=true:=(BP (notf h4)).2
 have row:∀ i,i<KQ (f0 a)->aN (aE (BE (f0 a) i))=aN (aE (ae (ae (f0 a)))):=fun i hi=>by
  have:=aqY h3 i hi
  have:((aN (aE (BE (f0 a) i)):Int)!=(aN (aE (ae (ae (f0 a)))):Int))=false:=this
  have:=ajV (by simpa using this:((aN (aE (BE (f0 a) i)):Int)==(aN (aE (ae (ae (f0 a)))):Int))=true)
  omega
 unfold s7 at g
 have g1:bf (dA (f0 a)) 0 10000000=true:=by
  cases hh:bf (dA (f0 a)) 0 10000000 with
  |true=>rfl
  |false=>rw[hh]at g;cases g
 rw [g1]at g
 exact ⟨⟨by have:=u.1;exact Int.ofNat_le.1 this,by have:=u.2;exact Int.ofNat_le.1 this⟩,⟨by have:=v.1;exact Int.ofNat_le.1 this,by have:=v.2;exact Int.ofNat_le.1 this⟩,
  by have:((KQ (f0 a):Int)!=(aN (aE (ae (f0 a))):Int))=false:=h2
     have:=ajV (by simpa using this:((KQ (f0 a):Int)==(aN (aE (ae (f0 a))):Int))=true)
     omega,
  row,tR g1,tR g,fun i hi j hj=>by
   rw [row i hi]at hj
   exact tR (cq (cq w i hi) j hj)⟩
structure ahy (n0:Nat) (x:List V):Prop where
 t:0<=aW x/\aW x<n0
 kind:1<=b7 x/\b7 x<=3
 lum:1<=bV x/\bV x<=1000000
theorem aiq {n0:Nat} {f2:aL} {a:Nat} (hn:n0<=10) (h:u4 n0 (aa ah f2) a=0):ahy n0 (f2 a):=by
 unfold u4 at h
 obtain ⟨_,h⟩:=j8 h (by decide)
 obtain ⟨_,h⟩:=j8 h (by decide)
 unfold aht Lq at h
 obtain ⟨h1,h⟩:=j8 h (by decide)
 obtain ⟨h2,h⟩:=j8 h (by decide)
 obtain ⟨h3,h⟩:=j8 h (by decide)
 have h1:=tR (notf h1:bf (aW (f2 a)) 0 (wI ((n0:Int)-1))=true)
 have h2:=tR (notf h2:bf (b7 (f2 a)) 1 3=true)
 have h3:=tR ((BP (notf h3)).1:bf (bV (f2 a)) 1 1000000=true)
 rw [wrapI (by omega) (by omega)]at h1
 exact ⟨⟨h1.1,by omega⟩,h2,h3⟩
def Hd (dx dy:Int):Prop:=(-1000<=dx/\dx<=1000)/\(-1000<=dy/\dy<=1000)/\(dx≠0∨dy≠0)
def Bd (x:Int):Prop:=-1000000000<=x/\x<=1000000000
theorem Vg {a b:Int} (ha:Bd a) (hb:-1000<=b/\b<=1000):-1000000000000<=a*b/\a*b<=1000000000000:=by
 unfold Bd at ha
 have h:=akl (show a.natAbs<=1000000000 by omega) (show b.natAbs<=1000 by omega)
 rw [← Int.natAbs_mul]at h
 omega
theorem sqB {a:Int} (ha:-1000<=a/\a<=1000):0<=a*a/\a*a<=1000000/\(a≠0->1<=a*a):=by
 have h:=akl (show a.natAbs<=1000 by omega) (show a.natAbs<=1000 by omega)
 rw [← Int.natAbs_mul_self' a]
 refine ⟨by omega,by omega,fun h0=>?_⟩
 have:1<=a.natAbs*a.natAbs:=akl (show 1<=a.natAbs by omega) (show 1<=a.natAbs by omega)
 omega
theorem hdS {dx dy:Int} (h:Hd dx dy):1<=bB dx dy/\bB dx dy<=2000000:=by
 obtain ⟨a,b,c⟩:=h
 have h1:=sqB a
 have h2:=sqB b
 unfold bB
 rw [wrapI (x:=dx*dx) (by omega) (by omega),wrapI (x:=dy*dy) (by omega) (by omega),wrapI (by omega) (by omega)]
 rcases c with c|c
 ·have:=h1.2.2 c;omega
 ·have:=h2.2.2 c;omega
theorem uK (x:Int):bW x=oT x:=by unfold bW oT;omega
theorem WC {n:Nat}:eD n<=n:=by
 have h:=(lU n).1
 cases hr:eD n with
 |zero=>omega
 | succ k =>
   rw [hr]at h
   have:=akl (show 1<=k+1 by omega) (aaS (k+1))
   omega
theorem SZ {n:Nat} (h:1<=n):1<=eD n:=by
 have h2:=(lU n).2
 cases hr:eD n with
 |zero=>rw[hr]at h2;omega
 |succ k=>omega
theorem oU {x:Int} (h:x<=3999999999999999999):dq x=fl x:=by
 unfold dq fl ko q5
 rw [show min x 4611686018427387903=x by omega,show min x 3999999999999999999=x by omega]
theorem BM {x:Int} (h:x<=3999999999999999999):cK x=e7 x:=by
 unfold cK e7
 rw [oU h]
theorem v8 {x:Int} (h1:1<=x):1<=fl x/\fl x<=3999999999999999999:=by
 unfold fl
 have a:=SZ (n:=q5 x) (by unfold q5;omega)
 have b:=WC (n:=q5 x)
 have:q5 x<=3999999999999999999:=by unfold q5;omega
 omega
theorem OP {x:Int} (h1:1<=x):1<=e7 x:=by
 have:=v8 h1
 unfold e7
 cases decide (wI (fl x*fl x)<x) with
 |true=>show 1<=wI (fl x+1);rw[wrapI (by omega) (by omega)];omega
 |false=>exact this.1
theorem rts {s:Int} (h:1<=s/\s<=2000000):Rts s:=by
 unfold Rts
 rw [wrapI (x:=1000000*s) (by omega) (by omega)]
 exact ⟨fun h0=>by have:=OP (x:=1000000*s) (by omega);omega,fun h0=>by have:=(v8 (x:=1000000*s) (by omega)).1;omega⟩
def Jp (x:Int):Prop:=-2000000000000<=x/\x<=2000000000000
theorem pO {a:Int} (h:Jp a):wI (1000*a)=1000*a:=by unfold Jp at h;exact wrapI (by omega) (by omega)
section
variable {a b c d s:Int} (ha:Jp a) (hb:Jp b) (hc:Jp c) (hd:Jp d) (hs:1<=s/\s<=2000000)
include a b c d s ha hb hc hd hs
theorem OS :
 (bif decide (min (min (min (min (wI (1000*a)) (wI (1000*a))) (wI (1000*b))) (wI (1000*c))) (wI (1000*d))<0)
   then bW (b9 (min (min (min (min (wI (1000*a)) (wI (1000*a))) (wI (1000*b))) (wI (1000*c))) (wI (1000*d))) (dq (wI (1000000*s))))
   else bW (b9 (min (min (min (min (wI (1000*a)) (wI (1000*a))) (wI (1000*b))) (wI (1000*c))) (wI (1000*d))) (cK (wI (1000000*s)))))=qlo (min (min (min (min a a) c) b) d) s:=by
 have hm:Jp (min (min (min (min a a) c) b) d):=by unfold Jp at *;omega
 rw [pO ha,pO hb,pO hc,pO hd]
 unfold qlo
 rw [pO hm,uK,uK,oU (by rw[wrapI (by omega) (by omega)];omega),BM (by rw[wrapI (by omega) (by omega)];omega)]
 rw [show min (min (min (min (1000*a) (1000*a)) (1000*b)) (1000*c)) (1000*d)=1000*min (min (min (min a a) c) b) d by omega]
 rw [show decide (1000*min (min (min (min a a) c) b) d<0)=decide (min (min (min (min a a) c) b) d<0) from decide_eq_decide.2 (by omega)]
 rfl
theorem NZ :
 (bif decide (max (max (max (max (wI (1000*a)) (wI (1000*a))) (wI (1000*b))) (wI (1000*c))) (wI (1000*d))<0)
   then bW (b5 (max (max (max (max (wI (1000*a)) (wI (1000*a))) (wI (1000*b))) (wI (1000*c))) (wI (1000*d))) (cK (wI (1000000*s))))
   else bW (b5 (max (max (max (max (wI (1000*a)) (wI (1000*a))) (wI (1000*b))) (wI (1000*c))) (wI (1000*d))) (dq (wI (1000000*s)))))=qhi (max (max (max (max a a) c) b) d) s:=by
 have hm:Jp (max (max (max (max a a) c) b) d):=by unfold Jp at *;omega
 rw [pO ha,pO hb,pO hc,pO hd]
 unfold qhi
 rw [pO hm,uK,uK,oU (by rw[wrapI (by omega) (by omega)];omega),BM (by rw[wrapI (by omega) (by omega)];omega)]
 rw [show max (max (max (max (1000*a) (1000*a)) (1000*b)) (1000*c)) (1000*d)=1000*max (max (max (max a a) c) b) d by omega]
 rw [show decide (1000*max (max (max (max a a) c) b) d<0)=decide (max (max (max (max a a) c) b) d<0) from decide_eq_decide.2 (by omega)]
 rfl
end
theorem acB {dx dy x y:Int} (h:Hd dx dy) (hx:Bd x) (hy:Bd y):Jp (wI (wI (x*dy)-wI (y*dx))):=by
 have h1:=Vg hx h.2.1
 have h2:=Vg hy h.1
 unfold Jp
 rw [wrapI (x:=x*dy) (by omega) (by omega),wrapI (x:=y*dx) (by omega) (by omega),wrapI (by omega) (by omega)]
 omega
theorem alB {dx dy x y:Int} (h:Hd dx dy) (hx:Bd x) (hy:Bd y):Jp (wI (wI (x*dx)+wI (y*dy))):=by
 have h1:=Vg hx h.1
 have h2:=Vg hy h.2.1
 unfold Jp
 rw [wrapI (x:=x*dx) (by omega) (by omega),wrapI (x:=y*dy) (by omega) (by omega),wrapI (by omega) (by omega)]
 omega
def P9:aZ:=(73,.con S9)::Ip
theorem QR:aO Tryz.prog eqs its P9:=.con Mu (Fg)
def kw:Int:=Ih 4 (y4 (bh 3 (bh 2 (bh 1 (fun x=>[vi (wI (wI (x0*x5)-wI (x2*x4)))]) fun x=>[vi (wI (wI (x1*x5)-wI (x2*x4)))]) fun x=>[vi (wI (wI (x0*x5)-wI (x3*x4)))]) fun x=>[vi (wI (wI (x1*x5)-wI (x3*x4)))])) (wI (wI (x4*x4)+wI (x5*x5)))
def kN:Int:=IF 4 (y4 (bh 3 (bh 2 (bh 1 (fun x=>[vi (wI (wI (x0*x5)-wI (x2*x4)))]) fun x=>[vi (wI (wI (x1*x5)-wI (x2*x4)))]) fun x=>[vi (wI (wI (x0*x5)-wI (x3*x4)))]) fun x=>[vi (wI (wI (x1*x5)-wI (x3*x4)))])) (wI (wI (x4*x4)+wI (x5*x5)))
def kx:Int:=Ih 4 (y4 (bh 3 (bh 2 (bh 1 (fun x=>[vi (wI (wI (x0*x4)+wI (x2*x5)))]) fun x=>[vi (wI (wI (x1*x4)+wI (x2*x5)))]) fun x=>[vi (wI (wI (x0*x4)+wI (x3*x5)))]) fun x=>[vi (wI (wI (x1*x4)+wI (x3*x5)))])) (wI (wI (x4*x4)+wI (x5*x5)))
def kJ:Int:=IF 4 (y4 (bh 3 (bh 2 (bh 1 (fun x=>[vi (wI (wI (x0*x4)+wI (x2*x5)))]) fun x=>[vi (wI (wI (x1*x4)+wI (x2*x5)))]) fun x=>[vi (wI (wI (x0*x4)+wI (x3*x5)))]) fun x=>[vi (wI (wI (x1*x4)+wI (x3*x5)))])) (wI (wI (x4*x4)+wI (x5*x5)))
def aco:RT Empty:=.cb (.cb (.cb (.obp ((cK (wI ((1000000:Int)*bB x0 x1))=(0:Int)->False)/\(dq (wI ((1000000:Int)*bB x0 x1))=(0:Int)->False)) (.obt (.obp ((cK (wI ((1000000:Int)*bB x0 x1))=(0:Int)->False)/\(dq (wI ((1000000:Int)*bB x0 x1))=(0:Int)->False)) (.obt (.ret (V.agg [vi (iz x0 x1 x2 x4 x2 x5 x3 x4 x3 x5 (cK (wI (1000000*bB x0 x1))) (dq (wI (1000000*bB x0 x1)))),vi (iF x0 x1 x2 x4 x2 x5 x3 x4 x3 x5 (cK (wI (1000000*bB x0 x1))) (dq (wI (1000000*bB x0 x1)))),vi (iE x0 x1 x2 x4 x2 x5 x3 x4 x3 x5 (cK (wI (1000000*bB x0 x1))) (dq (wI (1000000*bB x0 x1)))),vi (iM x0 x1 x2 x4 x2 x5 x3 x4 x3 x5 (cK (wI (1000000*bB x0 x1))) (dq (wI (1000000*bB x0 x1))))]))))))))
theorem Yw:cW cX (aV JJ P9 u0 Bt [V.agg [vi x0,vi x1],vi x2,vi x3,vi x4,vi x5]) (aco x0 x1 x2 x3 x4 x5):=bF
def ao4:Int:=iz x0 x1 x2 x4 x2 x5 x3 x4 x3 x5 (cK (wI (1000000*bB x0 x1))) (dq (wI (1000000*bB x0 x1)))
def apq:Int:=iF x0 x1 x2 x4 x2 x5 x3 x4 x3 x5 (cK (wI (1000000*bB x0 x1))) (dq (wI (1000000*bB x0 x1)))
def ao6:Int:=iE x0 x1 x2 x4 x2 x5 x3 x4 x3 x5 (cK (wI (1000000*bB x0 x1))) (dq (wI (1000000*bB x0 x1)))
def ao0:Int:=iM x0 x1 x2 x4 x2 x5 x3 x4 x3 x5 (cK (wI (1000000*bB x0 x1))) (dq (wI (1000000*bB x0 x1)))
theorem aqz {x0 x1 x2 x3 x4 x5:Int} (hd:Hd x0 x1) (h2:Bd x2) (h3:Bd x3) (h4:Bd x4) (h5:Bd x5):iz x0 x1 x2 x4 x2 x5 x3 x4 x3 x5 (cK (wI (1000000*bB x0 x1))) (dq (wI (1000000*bB x0 x1)))=kw x2 x3 x4 x5 x0 x1:=OS (acB hd h2 h4) (acB hd h2 h5) (acB hd h3 h4) (acB hd h3 h5) (hdS hd)
theorem aqZ {x0 x1 x2 x3 x4 x5:Int} (hd:Hd x0 x1) (h2:Bd x2) (h3:Bd x3) (h4:Bd x4) (h5:Bd x5):iF x0 x1 x2 x4 x2 x5 x3 x4 x3 x5 (cK (wI (1000000*bB x0 x1))) (dq (wI (1000000*bB x0 x1)))=kN x2 x3 x4 x5 x0 x1:=NZ (acB hd h2 h4) (acB hd h2 h5) (acB hd h3 h4) (acB hd h3 h5) (hdS hd)
theorem ara {x0 x1 x2 x3 x4 x5:Int} (hd:Hd x0 x1) (h2:Bd x2) (h3:Bd x3) (h4:Bd x4) (h5:Bd x5):iE x0 x1 x2 x4 x2 x5 x3 x4 x3 x5 (cK (wI (1000000*bB x0 x1))) (dq (wI (1000000*bB x0 x1)))=kx x2 x3 x4 x5 x0 x1:=OS (alB hd h2 h4) (alB hd h2 h5) (alB hd h3 h4) (alB hd h3 h5) (hdS hd)
theorem aro {x0 x1 x2 x3 x4 x5:Int} (hd:Hd x0 x1) (h2:Bd x2) (h3:Bd x3) (h4:Bd x4) (h5:Bd x5):iM x0 x1 x2 x4 x2 x5 x3 x4 x3 x5 (cK (wI (1000000*bB x0 x1))) (dq (wI (1000000*bB x0 x1)))=kJ x2 x3 x4 x5 x0 x1:=NZ (alB hd h2 h4) (alB hd h2 h5) (alB hd h3 h4) (alB hd h3 h5) (hdS hd)
theorem aea (hp:Hd x0 x1/\Bd x2/\Bd x3/\Bd x4/\Bd x5):aX cL (aco x0 x1 x2 x3 x4 x5) (.agg [vi (kw x2 x3 x4 x5 x0 x1),vi (kN x2 x3 x4 x5 x0 x1),vi (kx x2 x3 x4 x5 x0 x1),vi (kJ x2 x3 x4 x5 x0 x1)]):=by
 obtain ⟨hd,h2,h3,h4,h5⟩:=hp
 have hs:=hdS hd
 have hr:=rts hs
 have hw:wI (1000000*bB x0 x1)<=3999999999999999999:=by rw[wrapI (by omega) (by omega)];omega
 unfold Rts at hr
 rw [← BM hw,← oU hw]at hr
 exact au (evObt (au (evObt (au (evObt (evObp hr (evObt (evObp hr (evObt (evRet (by rw[aqz hd h2 h3 h4 h5,aqZ hd h2 h3 h4 h5,ara hd h2 h3 h4 h5,aro hd h2 h3 h4 h5])))))))))))
def Qp:av:=bL [.agg aJ,tI,tI,tI,tI] (fun
 |[.agg [.int _ x0,.int _ x1],.int _ x2,.int _ x3,.int _ x4,.int _ x5]=>Hd x0 x1/\Bd x2/\Bd x3/\Bd x4/\Bd x5
 |_=>False) fun
 |[.agg [.int _ x0,.int _ x1],.int _ x2,.int _ x3,.int _ x4,.int _ x5]=>.agg [vi (kw x2 x3 x4 x5 x0 x1),vi (kN x2 x3 x4 x5 x0 x1),vi (kx x2 x3 x4 x5 x0 x1),vi (kJ x2 x3 x4 x5 x0 x1)]
 |_=>.any
theorem QW:cr Qp 45:=aY QR fun _ hp=>c9 (Yw ..) (aea _ _ _ _ _ _ hp)
end
noncomputable section
theorem Ka {p:Nat->Int} {z:Int}:∀ k:Nat,1<=k->B8 p z k=max z (B8 p (p 0) k)
 |0,h=>absurd h (by decide)
 |1,_=>by show max z (p 0)=max z (max (p 0) (p 0));rw[Int.max_self]
 | k+2,_=>by
   show max (B8 p z (k+1)) (p (k+1))=max z (max (B8 p (p 0) (k+1)) (p (k+1)))
   rw [Ka (k+1) (by omega),Int.max_assoc]
theorem uO {n5:Nat} {f5:aL} {z:Int} (h:∀ i,i<n5->1<=aN (aE (f5 i))):pj n5 f5 z=IU n5 f5 z:=by
 unfold pj IU
 have:∀ k,k<=n5->B8 (fun i=>Cf f5 i) z k=grR f5 z k:=fun k=>by
  induction k with
  |zero=>intro _;rfl
  | succ k ih =>
    intro hk
    show max (B8 (fun i=>Cf f5 i) z k) (Cf f5 k)=B8 (fun j=>aw (bO (aE (f5 k)) j)) (grR f5 z k) (aN (aE (f5 k)))
    rw [ih (by omega),Ka _ (h k (by omega))]
    rfl
 exact this n5 (aaS _)
def gr4 (x:List V):Int:=IU (KQ x) (aa [.sl ac] (BE x)) (dA x)
def Mf (n0:Nat) (f0:aL) (x4:Int):Int:=bif !bP x4 (-1) (wI ((n0:Int)-1)) then 4 else bif decide (0<=x4) then(bif decide (10000<gr4 (f0 x4.toNat)) then 7 else 0) else 0
def aku (x:List V):Bool:=decide (100000000000<wI (max (gr4 (f0 (aW x).toNat)) (bE ((f0 (aW x).toNat)))*bV x))
def zM (a b c d e g:Bool):Int:=bif !a then 4 else bif !!b then(bif !!c then(bif !d then 7 else bif e then(bif g then 7 else 0) else 0) else 7) else 7
def rO (f0:aL) (n2:Nat) (f2 f13 f15:aL) (i:Nat):Int:=zM (bP (aw ((f13 i))) (-1) (wI ((n2:Int)-1))) (bP (aw ((f15 i))) 0 200000) (bP (aW ((f15 i))) 0 600) (bP (b7 ((f15 i))) 0 1000) (decide (0<=aw ((f13 i)))) (aku f0 (f2 (aw ((f13 i))).toNat))
section
variable {a b c d e g:Bool}
include a b c d e g
theorem aa6 (h:a=false):zM a b c d e g=4:=by subst h;rfl
theorem anG (h:a=true) (h2:b=false):zM a b c d e g=7:=by subst h h2;rfl
theorem anK (h:a=true) (h2:b=true) (h3:c=false):zM a b c d e g=7:=by subst h h2 h3;rfl
theorem aj7 (h:a=true) (h2:b=true) (h3:c=true) (h4:d=false):zM a b c d e g=7:=by subst h h2 h3 h4;rfl
theorem amT (h:a=true) (h2:b=true) (h3:c=true) (h4:d=true) (h5:e=false):zM a b c d e g=0:=by subst h h2 h3 h4 h5;rfl
theorem anX (h:a=true) (h2:b=true) (h3:c=true) (h4:d=true) (h5:e=true) (h6:g=true):zM a b c d e g=7:=by subst h h2 h3 h4 h5 h6;rfl
theorem alz (h:a=true) (h2:b=true) (h3:c=true) (h4:d=true) (h5:e=true) (h6:g=false):zM a b c d e g=0:=by subst h h2 h3 h4 h5 h6;rfl
end
def FO (n11 n13 n15:Nat):Bool:=bif(n13:Int)!=(n11:Int) then true else(n15:Int)!=(n11:Int)
def UR:Int×Int×Int:=bif dZ n0 (aa af f0) n2 (aa ah f2)!=0 then(1,0,dZ n0 (aa af f0) n2 (aa ah f2)) else bif fv n5 (aa aB f5) n7 (aa aG f7) n9 (aa aH f9) n11 (aa aA f11)!=0 then(2,0,fv n5 (aa aB f5) n7 (aa aG f7) n9 (aa aH f9) n11 (aa aA f11)) else bif Mf n0 f0 x4 != 0 then(3,0,Mf n0 f0 x4) else bif FO n11 n13 n15 then(4,0,2) else BF n11 (rO f0 n2 f2 f13 f15) 4 (0,0,0)
def Ax:Int:=(UR n0 f0 n2 f2 x4 n5 f5 n7 f7 n9 f9 n11 f11 n13 f13 n15 f15).1
def AA:Int:=(UR n0 f0 n2 f2 x4 n5 f5 n7 f7 n9 f9 n11 f11 n13 f13 n15 f15).2.1
def oY:Int:=(UR n0 f0 n2 f2 x4 n5 f5 n7 f7 n9 f9 n11 f11 n13 f13 n15 f15).2.2
theorem Ew {n11 n13 n15:Nat} (h:FO n11 n13 n15=false):n13=n11/\n15=n11:=by
 unfold FO at h
 cases h1:((n13:Int)!=(n11:Int)) with
 |true=>rw[h1]at h;cases h
 | false =>
   rw [h1]at h
   have h:((n15:Int)!=(n11:Int))=false:=h
   have h1:=ajV (by simpa using h1:((n13:Int)==(n11:Int))=true)
   have h:=ajV (by simpa using h:((n15:Int)==(n11:Int))=true)
   omega
def Jz:aZ:=(45,.con Qp)::P9
theorem MJ:aO Tryz.prog eqs its Jz:=.con QW (QR)
theorem gM {x:Int} (h:(x != 0)=false):x=0:=ajV (by simpa using h:(x==0)=true)
theorem aon {x:Int} (h:x≠0):(x != 0)=true:=by simpa using h
theorem AY {b:Bool} (h:(!b)=true):b=false:=by cases b<;>first|rfl|cases h
theorem AB {b:Bool} (h:(!!b)=true):b=true:=by cases b<;>first|rfl|cases h
theorem ang {b:Bool} (h:(!!b)=false):b=false:=by cases b<;>first|rfl|cases h
section
variable {S:Type} {Nx:S->V->Prop} {r:V} {b:Bool} {x y:RT S}
include S Nx r b x y
theorem Ra (h:b=true) (hx:aX Nx x r):aX Nx (.br b x y) r:=evBr (fun _=>hx) (fun h'=>by rw[h]at h';cases h')
theorem TZ (h:b=false) (hx:aX Nx y r):aX Nx (.br b x y) r:=evBr (fun h'=>by rw[h]at h';cases h') (fun _=>hx)
end
theorem uk.of_el {f0:aL} {i:Nat} (h:uk (aa af f0 i)):uk (f0 i):=⟨h.u,h.v,h.n,h.row,h.side,h.sky,h.val⟩
theorem zP {x:List V} (h:uk x):∀ i:Nat,i<aN (aE (ae (ae (ae x))))->1<=aN (aE (bO (aE (ae (ae (ae x)))) i)):=fun i hi=>by
 have h1:=h.row i hi
 have h2:=h.v.1
 show 1<=aN (aE (BE x i))
 omega
theorem zH {x:List V} (h:uk x):∀ i:Nat,i<KQ x->1<=aN (aE (aa [.sl ac] (BE x) i)):=zP h
theorem srf {x4:Int} {n0:Nat} (h:bP x4 (-1) (wI ((n0:Int)-1))=true) (h2:decide (0<=x4)=true) (hn:n0<=9223372036854775807):decide (0<=x4/\x4<(n0:Int))=true:=by
 have:=tR h
 rw [wrapI (by omega) (by omega)]at this
 have:=abg h2
 exact dqt (by omega)
inductive pK where
 |L0 (ia0:Int)
def Xz:pK->bD×List O×Option Ex
 |.L0 ia0=>([(82,vi ia0),(81,vi (n13:Int)),(80,V.sl n13 (aa ac f13)),(1,V.pl 0 0)],[O.cells [V.sl n0 (aa af f0),V.sl n2 (aa ah f2),vi x4,V.sl n5 (aa aB f5),V.sl n7 (aa aG f7),V.sl n9 (aa aH f9),V.sl n11 (aa aA f11),V.sl n13 (aa ac f13),V.sl n15 (aa aU f15)] 35],none)
def ajv:pK->JJ
 |.L0 ia0=>(0,[])
def yaQ:T (ck JJ):=aV JJ Jz u0 ag8 [V.agg [V.sl n0 (aa af f0),V.sl n2 (aa ah f2),vi x4,V.sl n5 (aa aB f5),V.sl n7 (aa aG f7),V.sl n9 (aa aH f9),V.sl n11 (aa aA f11),V.sl n13 (aa ac f13),V.sl n15 (aa aU f15)]]
def C0 (cx:List Cx):Lp JJ:=fQ (eZ (yaQ n0 f0 n2 f2 x4 n5 f5 n7 f7 n9 f9 n11 f11 n13 f13 n15 f15) [false,false,false,true,false,false])
def adA:JJ->Lp JJ
 |(0,cx)=>C0 n0 f0 n2 f2 x4 n5 f5 n7 f7 n9 f9 n11 f11 n13 f13 n15 f15 cx
 |(_,cx)=>C0 n0 f0 n2 f2 x4 n5 f5 n7 f7 n9 f9 n11 f11 n13 f13 n15 f15 cx
def an6:LD JJ pK:=⟨ajv,adA n0 f0 n2 f2 x4 n5 f5 n7 f7 n9 f9 n11 f11 n13 f13 n15 f15,Xz n0 f0 n2 f2 x4 n5 f5 n7 f7 n9 f9 n11 f11 n13 f13 n15 f15⟩
def wu (n0:Nat) (f0:aL) (n2:Nat) (f2:aL) (x4:Int) (n5:Nat) (f5:aL) (n7:Nat) (f7:aL) (n9:Nat) (f9:aL) (n11:Nat) (f11:aL) (n13:Nat) (f13:aL) (n15:Nat) (f15:aL):pK->RT pK
 |.L0 ia0=>.br (decide (ia0<(n13:Int))) (.ob (dI ia0 n13) (.ob (dI ia0 n15) (.am n2 (.cb (.br (!dT (aw (f13 ia0.toNat)) (-1) (wI ((n2:Int)-1))) (.ret (V.tup [vi 4,vi ia0,vi 4])) (.cb (.obi (.br (!!dT (aw (f15 ia0.toNat)) 0 200000) (.ob (!!dT (aw (f15 ia0.toNat)) 0 200000) (.cb (.obi (.br (!!dT (aW (f15 ia0.toNat)) 0 600) (.ob (!!dT (aW (f15 ia0.toNat)) 0 600) (.cb (.br (!dT (b7 (f15 ia0.toNat)) 0 1000) (.ret (V.tup [vi 4,vi ia0,vi 7])) (.br (decide (aw (f13 ia0.toNat)<0)) (.next [some (some 0)] (pK.L0 (wI (ia0+1))) []) (.ob (dI (aw (f13 ia0.toNat)) n2) (.ob (dI (aW (f2 (aw (f13 ia0.toNat)).toNat)) n0) (.obp (∀ (i:Nat),i<aN (aE (ae (ae (ae (f0 (aW (f2 (aw (f13 ia0.toNat)).toNat)).toNat)))))->(1:Nat)<=aN (aE (bO (aE (ae (ae (ae (f0 (aW (f2 (aw (f13 ia0.toNat)).toNat)).toNat))))) i))) (.obt (.br (decide (100000000000<wI (max (pj (aN (aE (ae (ae (ae (f0 (aW (f2 (aw (f13 ia0.toNat)).toNat)).toNat)))))) (fun i=>al [Ty.sl ac] (bO (aE (ae (ae (ae (f0 (aW (f2 (aw (f13 ia0.toNat)).toNat)).toNat))))) i)) (dA (f0 (aW (f2 (aw (f13 ia0.toNat)).toNat)).toNat))) (bE (f0 (aW (f2 (aw (f13 ia0.toNat)).toNat)).toNat))*bV (f2 (aw (f13 ia0.toNat)).toNat)))) (.ret (V.tup [vi 4,vi ia0,vi 7])) (.next [some (some 0)] (pK.L0 (wI (ia0+1))) [])))))))))) (.ret (V.tup [vi 4,vi ia0,vi 7])))))) (.ret (V.tup [vi 4,vi ia0,vi 7])))))))))) (.ret (V.tup [vi 0,vi 0,vi 0]))
def MW:RT pK:=dm (f13,f15) (.obp ((ap n0 f0)/\ap n2 f2) (.obt (.br (bj n0 (aa af f0) n2 (aa ah f2)!=0) (.ret (V.tup [vi 1,vi 0,vi (bj n0 (aa af f0) n2 (aa ah f2))])) (.obp ((ap n5 f5)/\ap n11 f11) (.obt (.br (iB n5 (aa aB f5) n7 (aa aG f7) n9 (aa aH f9) n11 (aa aA f11)!=0) (.ret (V.tup [vi 2,vi 0,vi (iB n5 (aa aB f5) n7 (aa aG f7) n9 (aa aH f9) n11 (aa aA f11))])) (.am n11 (.am n0 (.cb (.br (!dT x4 (-1) (wI ((n0:Int)-1))) (.ret (V.tup [vi 3,vi 0,vi 4])) (.iv (.obi (.obj (decide (0<=x4)) (dI x4 n0) (.obi (.br (decide (0<=x4)) (.ob (decide (0<=x4)) (.obp (∀ (i:Nat),i<aN (aE (ae (ae (ae (f0 x4.toNat)))))->(1:Nat)<=aN (aE (bO (aE (ae (ae (ae (f0 x4.toNat))))) i))) (.obt (.br (decide (10000<pj (aN (aE (ae (ae (ae (f0 x4.toNat)))))) (fun i=>al [Ty.sl ac] (bO (aE (ae (ae (ae (f0 x4.toNat))))) i)) (dA (f0 x4.toNat)))) (.ret (V.tup [vi 3,vi 0,vi 7])) (.am n13 (.ii (.asm ((!(n13:Int)!=(n11:Int))=true->n15<=9223372036854775807) (.ii (.obi (.br (bif(n13:Int)!=(n11:Int) then true else(n15:Int)!=(n11:Int)) (.ret (V.tup [vi 4,vi 0,vi 2])) (.am n13 (.enter [some (some 0)] (pK.L0 0) [])))))))))))) (.am n13 (.ii (.asm ((!(n13:Int)!=(n11:Int))=true->n15<=9223372036854775807) (.ii (.obi (.br (bif(n13:Int)!=(n11:Int) then true else(n15:Int)!=(n11:Int)) (.ret (V.tup [vi 4,vi 0,vi 2])) (.am n13 (.enter [some (some 0)] (pK.L0 0) [])))))))))))))))))))))))
theorem WL:eS Jz u0 (an6 n0 f0 n2 f2 x4 n5 f5 n7 f7 n9 f9 n11 f11 n13 f13 n15 f15) (yaQ n0 f0 n2 f2 x4 n5 f5 n7 f7 n9 f9 n11 f11 n13 f13 n15 f15) (MW n0 f0 n2 f2 x4 n5 f5 n7 f7 n9 f9 n11 f11 n13 f13 n15 f15) (wu n0 f0 n2 f2 x4 n5 f5 n7 f7 n9 f9 n11 f11 n13 f13 n15 f15):=⟨bF,fun s=>by cases s<;>exact bF⟩
theorem Jl (hn:n11<=9223372036854775807) (hT:∀ i,i<n0->uk (f0 i)) (hL:∀ i:Nat,i<n2->0<=aW (f2 i)/\aW (f2 i)<n0):Ev (wu n0 f0 n2 f2 x4 n5 f5 n7 f7 n9 f9 n11 f11 n11 f13 n11 f15) (.L0 0) (tri (BF n11 (rO f0 n2 f2 f13 f15) 4 (0,0,0))):=by
 refine AJ (n:=n11) hn (fun i=>rO f0 n2 f2 f13 f15 i != 0) (P:=fun i=>Ev (wu n0 f0 n2 f2 x4 n5 f5 n7 f7 n9 f9 n11 f11 n11 f13 n11 f15) (.L0 i) _) (fun i hlt hj next=>Ev.of rfl (kS hlt (gX hlt (gX hlt (bw fun hn2=>au (evObt ?_)))))) (fun hj=>Ev.of rfl (jX (evRet (by rw[HC 4 _ hj];rfl))))
 have L:∀ e,e≠0->rO f0 n2 f2 f13 f15 i=e->cz (V.tup [vi 4,vi i,vi e])=cz (tri (BF n11 (rO f0 n2 f2 f13 f15) 4 (0,0,0))):=fun e he hc=>by
  rw [Zn 4 _ hlt (by rw[hc];exact aon he) hj,hc];rfl
 have N:rO f0 n2 f2 f13 f15 i=0->(rO f0 n2 f2 f13 f15 i != 0)=false:=fun h=>by rw[h];rfl
 refine evBr (fun h0=>evRet (L 4 (by decide) (aa6 (AY h0)))) (fun h0=>au (evObt (evObi (evBr (fun h1=>aD h1 (au (evObt (evObi ?_)))) (fun h1=>evRet (L 7 (by decide) (anG (notf h0) (ang h1))))))))
 refine evBr (fun h2=>aD h2 (au (evObt ?_))) (fun h2=>evRet (L 7 (by decide) (anK (notf h0) (AB h1) (ang h2))))
 refine evBr (fun h3=>evRet (L 7 (by decide) (aj7 (notf h0) (AB h1) (AB h2) (AY h3)))) (fun h3=>?_)
 refine evBr (fun h4=>aS (next (N (amT (notf h0) (AB h1) (AB h2) (notf h3) (ef (fun hh:0<=aw (f13 (i:Int).toNat)=>by have:=abg h4;omega)))))) (fun h4=>?_)
 have h5:decide (0<=aw (f13 (i:Int).toNat))=true:=dqt (by have:=abu h4;omega)
 have hv:=srf (notf h0) h5 hn2
 have hv':=abg hv
 have ht:=hL (aw (f13 (i:Int).toNat)).toNat (by omega)
 have hr:=hT (aW (f2 (aw (f13 (i:Int).toNat)).toNat)).toNat (by omega)
 refine aD hv (aD (dqt ht) (evObp (zP hr) (evObt ?_)))
 have hb:∀ b,decide (100000000000<wI (max (pj (KQ (f0 (aW (f2 (aw (f13 (i:Int).toNat)).toNat)).toNat)) (aa [.sl ac] (BE (f0 (aW (f2 (aw (f13 (i:Int).toNat)).toNat)).toNat))) (dA (f0 (aW (f2 (aw (f13 (i:Int).toNat)).toNat)).toNat))) (bE (f0 (aW (f2 (aw (f13 (i:Int).toNat)).toNat)).toNat))*bV (f2 (aw (f13 (i:Int).toNat)).toNat)))=b->aku f0 (f2 (aw (f13 i)).toNat)=b:=fun b h=>by
  rw [uO (zH hr)]at h;exact h
 exact evBr (fun h6=>evRet (L 7 (by decide) (anX (notf h0) (AB h1) (AB h2) (notf h3) h5 (hb true h6)))) (fun h6=>aS (next (N (alz (notf h0) (AB h1) (AB h2) (notf h3) h5 (hb false h6)))))
theorem Sl (hp:ap n0 f0/\ap n2 f2/\ap n5 f5/\ap n11 f11):aX (Ev (wu n0 f0 n2 f2 x4 n5 f5 n7 f7 n9 f9 n11 f11 n13 f13 n15 f15)) (MW n0 f0 n2 f2 x4 n5 f5 n7 f7 n9 f9 n11 f11 n13 f13 n15 f15) (.tup [vi (Ax n0 f0 n2 f2 x4 n5 f5 n7 f7 n9 f9 n11 f11 n13 f13 n15 f15),vi (AA n0 f0 n2 f2 x4 n5 f5 n7 f7 n9 f9 n11 f11 n13 f13 n15 f15),vi (oY n0 f0 n2 f2 x4 n5 f5 n7 f7 n9 f9 n11 f11 n13 f13 n15 f15)]):=by
 obtain ⟨p0,p2,p5,p11⟩:=hp
 show aX _ _ (tri (UR n0 f0 n2 f2 x4 n5 f5 n7 f7 n9 f9 n11 f11 n13 f13 n15 f15))
 unfold UR
 rw [← show bj n0 (aa af f0) n2 (aa ah f2)=dZ n0 (aa af f0) n2 (aa ah f2) from congrArg (fun t=>t.2.2) (lI ..),← AR]
 refine evObp ⟨p0,p2⟩ (evObt (evBr (fun h=>evRet (by rw[h];rfl)) (fun h=>?_)))
 rw [h]
 have V2:=AI (n0:=n0) (f0:=aa af f0) (n2:=n2) (f2:=aa ah f2) ((congrArg (fun t=>t.2.2) (lI ..)).symm.trans (gM h))
 have hT:∀ i,i<n0->uk (f0 i):=fun i hi=>uk.of_el (NL (V2.tb i hi))
 have hL:∀ i:Nat,i<n2->0<=aW (f2 i)/\aW (f2 i)<n0:=fun i hi=>(aiq V2.l0 (V2.lm i hi)).t
 refine evObp ⟨p5,p11⟩ (evObt (evBr (fun h'=>evRet (by rw[h'];rfl)) (fun h'=>?_)))
 rw [h']
 have V3:=tX (n0:=n5) (f0:=aa aB f5) (n2:=n7) (f2:=aa aG f7) (n4:=n9) (f4:=aa aH f9) (n6:=n11) (f6:=aa aA f11) (AR.symm.trans (gM h'))
 refine evAsm fun _=>?_
 refine bw fun hn0=>au (evObt (evBr (fun h1=>?_) (fun h1=>?_)))
 ·have hk:Mf n0 f0 x4=4:=by
   unfold Mf
   rw [show bP x4 (-1) (wI ((n0:Int)-1))=false from AY h1];rfl
  exact evRet (by rw[hk];rfl)
 ·have h1:bP x4 (-1) (wI ((n0:Int)-1))=true:=notf h1
  refine evObi (evObi (evObi (evObi (evObi (d5 (fun h2=>?_) (evObi (evBr (fun h2=>?_) (fun h2=>?_))))))))
  ·exact srf h1 h2 hn0
  ·have hx:=abg (srf h1 h2 hn0)
   refine aD h2 (evObp (zP (hT _ (by omega))) (evObt (evBr (fun h3=>?_) (fun h3=>?_))))
   ·have hk:Mf n0 f0 x4=7:=by
     unfold Mf gr4
     rw [h1,h2,← uO (zH (hT x4.toNat (by omega)))];exact congrArg (fun b=>bif b then(7:Int) else 0) h3
    exact evRet (by rw[hk];rfl)
   have hk:Mf n0 f0 x4=0:=by
    unfold Mf gr4
    rw [h1,h2,← uO (zH (hT x4.toNat (by omega)))];exact congrArg (fun b=>bif b then(7:Int) else 0) h3
   rw [hk]
   cases hl:FO n11 n13 n15 with
   |true=>exact evAsm fun _=>evObi (evObi (evAsm fun _=>evObi (evObi (evObi (Ra hl (evRet rfl))))))
   | false =>
     obtain ⟨e1,e2⟩:=Ew hl
     refine evAsm fun _=>evObi (evObi (evAsm fun _=>evObi (evObi (evObi (TZ hl (evAsm fun _=>aM ?_))))))
     subst e1 e2
     exact Jl _ _ _ _ _ _ _ _ _ _ _ _ _ _ _ (by have:=V3.l6;omega) hT hL
  ·have hk:Mf n0 f0 x4=0:=by
    unfold Mf
    rw [h1,h2];rfl
   rw [hk]
   cases hl:FO n11 n13 n15 with
   |true=>exact evAsm fun _=>evObi (evObi (evAsm fun _=>evObi (evObi (evObi (Ra hl (evRet rfl))))))
   | false =>
     obtain ⟨e1,e2⟩:=Ew hl
     refine evAsm fun _=>evObi (evObi (evAsm fun _=>evObi (evObi (evObi (TZ hl (evAsm fun _=>aM ?_))))))
     subst e1 e2
     exact Jl _ _ _ _ _ _ _ _ _ _ _ _ _ _ _ (by have:=V3.l6;omega) hT hL
theorem ai5 (hp:ap n0 (aa af f0)/\ap n2 (aa ah f2)/\ap n5 (aa aB f5)/\ap n11 (aa aA f11)):aX (Ev (wu n0 f0 n2 f2 x4 n5 f5 n7 f7 n9 f9 n11 f11 n13 f13 n15 f15)) (MW n0 f0 n2 f2 x4 n5 f5 n7 f7 n9 f9 n11 f11 n13 f13 n15 f15) (.tup [vi (Ax n0 (aa af f0) n2 (aa ah f2) x4 n5 (aa aB f5) n7 (aa aG f7) n9 (aa aH f9) n11 (aa aA f11) n13 (aa ac f13) n15 (aa aU f15)),vi (AA n0 (aa af f0) n2 (aa ah f2) x4 n5 (aa aB f5) n7 (aa aG f7) n9 (aa aH f9) n11 (aa aA f11) n13 (aa ac f13) n15 (aa aU f15)),vi (oY n0 (aa af f0) n2 (aa ah f2) x4 n5 (aa aB f5) n7 (aa aG f7) n9 (aa aH f9) n11 (aa aA f11) n13 (aa ac f13) n15 (aa aU f15))]):=Sl n0 f0 n2 f2 x4 n5 f5 n7 f7 n9 f9 n11 f11 n13 f13 n15 f15 hp
def R8:av:=bL [.agg [.sl af,.sl ah,tI,.sl aB,.sl aG,.sl aH,.sl aA,.sl ac,.sl aU]] (fun
 |[.agg [.sl n0 f0,.sl n2 f2,.int _ x4,.sl n5 f5,.sl n7 f7,.sl n9 f9,.sl n11 f11,.sl n13 f13,.sl n15 f15]]=>ap n0 f0/\ap n2 f2/\ap n5 f5/\ap n11 f11
 |_=>False) fun
 |[.agg [.sl n0 f0,.sl n2 f2,.int _ x4,.sl n5 f5,.sl n7 f7,.sl n9 f9,.sl n11 f11,.sl n13 f13,.sl n15 f15]]=>.tup [vi (Ax n0 f0 n2 f2 x4 n5 f5 n7 f7 n9 f9 n11 f11 n13 f13 n15 f15),vi (AA n0 f0 n2 f2 x4 n5 f5 n7 f7 n9 f9 n11 f11 n13 f13 n15 f15),vi (oY n0 f0 n2 f2 x4 n5 f5 n7 f7 n9 f9 n11 f11 n13 f13 n15 f15)]
 |_=>.any
theorem EQ:cr R8 34:=aY MJ fun _ hp=>nd (WL ..) (ai5 _ _ _ _ _ _ _ _ _ _ _ _ _ _ _ _ _ hp)
def Jd:aZ:=(34,.con R8)::Jz
theorem Fu:aO Tryz.prog eqs its Jd:=.con EQ (MJ)
def dX:Int:=oY n0 (aa af f0) n2 (aa ah f2) x4 n5 (aa aB f5) n7 (aa aG f7) n9 (aa aH f9) n11 (aa aA f11) n13 (aa ac f13) n15 (aa aU f15)
def Uu:RT Empty:=.obp ((ap n0 f0)/\(ap n2 f2)/\(ap n5 f5)/\ap n11 f11) (.obt (.ret (vi (oY n0 (aa af f0) n2 (aa ah f2) x4 n5 (aa aB f5) n7 (aa aG f7) n9 (aa aH f9) n11 (aa aA f11) n13 (aa ac f13) n15 (aa aU f15)))))
theorem VN:cW cX (aV JJ Jd u0 UE [V.agg [V.sl n0 (aa af f0),V.sl n2 (aa ah f2),vi x4,V.sl n5 (aa aB f5),V.sl n7 (aa aG f7),V.sl n9 (aa aH f9),V.sl n11 (aa aA f11),V.sl n13 (aa ac f13),V.sl n15 (aa aU f15)]]) (Uu n0 f0 n2 f2 x4 n5 f5 n7 f7 n9 f9 n11 f11 n13 f13 n15 f15):=bF
def apo:Int:=oY n0 (aa af f0) n2 (aa ah f2) x4 n5 (aa aB f5) n7 (aa aG f7) n9 (aa aH f9) n11 (aa aA f11) n13 (aa ac f13) n15 (aa aU f15)
theorem RB (hp:ap n0 f0/\ap n2 f2/\ap n5 f5/\ap n11 f11):aX cL (Uu n0 f0 n2 f2 x4 n5 f5 n7 f7 n9 f9 n11 f11 n13 f13 n15 f15) (vi (dX n0 f0 n2 f2 x4 n5 f5 n7 f7 n9 f9 n11 f11 n13 f13 n15 f15)):=evObp hp (evObt (evRet rfl))
theorem ag0 (hp:ap n0 (aa af f0)/\ap n2 (aa ah f2)/\ap n5 (aa aB f5)/\ap n11 (aa aA f11)):aX cL (Uu n0 f0 n2 f2 x4 n5 f5 n7 f7 n9 f9 n11 f11 n13 f13 n15 f15) (vi (dX n0 (aa af f0) n2 (aa ah f2) x4 n5 (aa aB f5) n7 (aa aG f7) n9 (aa aH f9) n11 (aa aA f11) n13 (aa ac f13) n15 (aa aU f15))):=RB n0 f0 n2 f2 x4 n5 f5 n7 f7 n9 f9 n11 f11 n13 f13 n15 f15 hp
def yaP:av:=bL [.agg [.sl af,.sl ah,tI,.sl aB,.sl aG,.sl aH,.sl aA,.sl ac,.sl aU]] (fun
 |[.agg [.sl n0 f0,.sl n2 f2,.int _ x4,.sl n5 f5,.sl n7 f7,.sl n9 f9,.sl n11 f11,.sl n13 f13,.sl n15 f15]]=>ap n0 f0/\ap n2 f2/\ap n5 f5/\ap n11 f11
 |_=>False) fun
 |[.agg [.sl n0 f0,.sl n2 f2,.int _ x4,.sl n5 f5,.sl n7 f7,.sl n9 f9,.sl n11 f11,.sl n13 f13,.sl n15 f15]]=>vi (dX n0 f0 n2 f2 x4 n5 f5 n7 f7 n9 f9 n11 f11 n13 f13 n15 f15)
 |_=>.any
theorem UG:cr yaP 14:=aY Fu fun _ hp=>c9 (VN ..) (ag0 _ _ _ _ _ _ _ _ _ _ _ _ _ _ _ _ _ hp)
def abc:RT Empty:=.cb (.iv (.iv (.ii (.ret (V.bool (bif bif mE 4 (aa ac (bc [vi x0,vi x2,vi x1,vi x3] 0 1)) then decide (x0<=x2) else false then decide (x1<=x3) else false))))))
theorem Xt:cW cX (aV JJ Jd u0 P6 [V.agg [vi x0,vi x1,vi x2,vi x3]]) (abc x0 x1 x2 x3):=bF
def gb:Bool:=bif bif mE 4 (aa ac (bc [vi x0,vi x2,vi x1,vi x3] 0 1)) then decide (x0<=x2) else false then decide (x1<=x3) else false
def RV:V:=.bool (gb x0 x1 x2 x3)
theorem aez:aX cL (abc x0 x1 x2 x3) (RV x0 x1 x2 x3):=au (evObt (evObi (evObi (evObi (evObi (evObi (evObi (evObi (evObi (evObi (evObi (evRet (by unfold RV gb;rfl)))))))))))))
def Mg:av:=bL [.agg gP] (fun _=>True) fun
 |[.agg [.int _ x0,.int _ x1,.int _ x2,.int _ x3]]=>RV x0 x1 x2 x3
 |_=>.any
theorem TY:cr Mg 15:=aY Fu fun _ hp=>c9 (Xt ..) (aez _ _ _ _)
def MF:aZ:=(14,.con yaP)::(15,.con Mg)::Jd
theorem OJ:aO Tryz.prog eqs its MF:=.con UG (.con TY (Fu))
def kr:Int:=kw (wI (x6-x1)) (wI (x8-x1)) (wI (x7-x2)) (wI (x9-x2)) x4 x5
def ky:Int:=kN (wI (x6-x1)) (wI (x8-x1)) (wI (x7-x2)) (wI (x9-x2)) x4 x5
def kF:Int:=kx (wI (x6-x1)) (wI (x8-x1)) (wI (x7-x2)) (wI (x9-x2)) x4 x5
def kH:Int:=kJ (wI (x6-x1)) (wI (x8-x1)) (wI (x7-x2)) (wI (x9-x2)) x4 x5
def aaR:RT Empty:=dm (s0,x3) (.obp ((((-1000:Int)<=x4/\x4<=(1000:Int))/\((-1000:Int)<=x5/\x5<=(1000:Int))/\(x4≠(0:Int)∨x5≠(0:Int)))/\((-1000000000:Int)<=wI (x6-x1)/\wI (x6-x1)<=(1000000000:Int))/\((-1000000000:Int)<=wI (x8-x1)/\wI (x8-x1)<=(1000000000:Int))/\((-1000000000:Int)<=wI (x7-x2)/\wI (x7-x2)<=(1000000000:Int))/\(-1000000000:Int)<=wI (x9-x2)/\wI (x9-x2)<=(1000000000:Int)) (.obt (.ret (V.agg [vi (kw (wI (x6-x1)) (wI (x8-x1)) (wI (x7-x2)) (wI (x9-x2)) x4 x5),vi (kN (wI (x6-x1)) (wI (x8-x1)) (wI (x7-x2)) (wI (x9-x2)) x4 x5),vi (kx (wI (x6-x1)) (wI (x8-x1)) (wI (x7-x2)) (wI (x9-x2)) x4 x5),vi (kJ (wI (x6-x1)) (wI (x8-x1)) (wI (x7-x2)) (wI (x9-x2)) x4 x5)]))))
theorem U6:cW cX (aV JJ MF u0 Bu [V.agg [V.str s0,vi x1,vi x2,vi x3,vi x4,vi x5],V.agg [vi x6,vi x7,vi x8,vi x9]]) (aaR s0 x1 x2 x3 x4 x5 x6 x7 x8 x9):=bF
def apr:Int:=kw (wI (x6-x1)) (wI (x8-x1)) (wI (x7-x2)) (wI (x9-x2)) x4 x5
def apf:Int:=kN (wI (x6-x1)) (wI (x8-x1)) (wI (x7-x2)) (wI (x9-x2)) x4 x5
def aoX:Int:=kx (wI (x6-x1)) (wI (x8-x1)) (wI (x7-x2)) (wI (x9-x2)) x4 x5
def apa:Int:=kJ (wI (x6-x1)) (wI (x8-x1)) (wI (x7-x2)) (wI (x9-x2)) x4 x5
def cZ (x:Int):Prop:=-400000000<=x/\x<=400000000
theorem Dt {a b:Int} (h:cZ a) (h':cZ b):Bd (wI (a-b)):=by
 unfold cZ at *
 unfold Bd
 rw [wrapI (by omega) (by omega)];omega
theorem aec (hp:Hd x4 x5/\cZ x1/\cZ x2/\cZ x6/\cZ x7/\cZ x8/\cZ x9):aX cL (aaR s0 x1 x2 x3 x4 x5 x6 x7 x8 x9) (.agg [vi (kr x1 x2 x4 x5 x6 x7 x8 x9),vi (ky x1 x2 x4 x5 x6 x7 x8 x9),vi (kF x1 x2 x4 x5 x6 x7 x8 x9),vi (kH x1 x2 x4 x5 x6 x7 x8 x9)]):=by
 obtain ⟨hd,h1,h2,h6,h7,h8,h9⟩:=hp
 exact evObp ⟨hd,Dt h6 h1,Dt h8 h1,Dt h7 h2,Dt h9 h2⟩ (evObt (evRet rfl))
def Qy:av:=bL [.agg aA,.agg gP] (fun
 |[.agg [.str s0,.int _ x1,.int _ x2,.int _ x3,.int _ x4,.int _ x5],.agg [.int _ x6,.int _ x7,.int _ x8,.int _ x9]]=>Hd x4 x5/\cZ x1/\cZ x2/\cZ x6/\cZ x7/\cZ x8/\cZ x9
 |_=>False) fun
 |[.agg [.str s0,.int _ x1,.int _ x2,.int _ x3,.int _ x4,.int _ x5],.agg [.int _ x6,.int _ x7,.int _ x8,.int _ x9]]=>.agg [vi (kr x1 x2 x4 x5 x6 x7 x8 x9),vi (ky x1 x2 x4 x5 x6 x7 x8 x9),vi (kF x1 x2 x4 x5 x6 x7 x8 x9),vi (kH x1 x2 x4 x5 x6 x7 x8 x9)]
 |_=>.any
theorem NQ:cr Qy 63:=aY OJ fun _ hp=>c9 (U6 ..) (aec _ _ _ _ _ _ _ _ _ _ hp)
theorem ale (a b c d:Int):gb a b c d=(bP a (-100000) 100000&&(bP c (-100000) 100000&&(bP b (-100000) 100000&&(bP d (-100000) 100000&&(decide (a<=c)&&decide (b<=d)))))):=by
 have h:mE 4 (aa ac (bc [vi a,vi c,vi b,vi d] 0 1))=(bP a (-100000) 100000&&(bP c (-100000) 100000&&(bP b (-100000) 100000&&bP d (-100000) 100000))):=by
  show (!(decide (0<=xJ 4 fun ii=>jv (aw (aa ac (aa ac (bc [vi a,vi c,vi b,vi d] 0 1)) ii)))))=_
  rw [kB]
  show (!(!(en 4 fun ii=>!jv (aw (aa ac (aa ac (bc [vi a,vi c,vi b,vi d] 0 1)) ii)))))=_
  rw [akg,apC,sD]
  simp only [aaw]
  have q:∀ x,(!jv x)=bP x (-100000) 100000:=fun x=>akg _
  constructor
  ·intro H
   exact ⟨(q a).symm.trans (H 0 (by decide)),(q c).symm.trans (H 1 (by decide)),(q b).symm.trans (H 2 (by decide)),(q d).symm.trans (H 3 (by decide))⟩
  ·rintro⟨h0,h1,h2,h3⟩ i hi
   match i,hi with
   |0,_=>exact(q a).trans h0
   |1,_=>exact(q c).trans h1
   |2,_=>exact(q b).trans h2
   |3,_=>exact(q d).trans h3
 unfold gb
 rw [h]
 cases bP a (-100000) 100000<;>cases bP c (-100000) 100000<;>cases bP b (-100000) 100000<;>cases bP d (-100000) 100000<;>cases decide (a<=c)<;>cases decide (b<=d)<;>rfl
def eX (e a b c d:Int):Int:=bif e==0 then bif gb a b c d then 0 else 7 else e
theorem KG {x k:Int} {z:Int×Int×Int} (h:(bif x != 0 then(k,(0:Int),x) else z).2.2=0):x=0/\z.2.2=0:=by
 cases hb:x != 0 with
 |true=>rw[hb]at h;rw[show x=0 from h]at hb;cases hb
 |false=>rw[hb]at h;exact⟨gM hb,h⟩
structure WO (x:List V):Prop where
 px:-100000<=aW x/\aW x<=100000
 py:-100000<=b7 x/\b7 x<=100000
 ph:1<=bV x/\bV x<=200
 hd:Hd (dA x) (bE x)
theorem Oc {v a b:Int} (h:gx v a b=true):a<=v/\v<=b:=by
 unfold gx at h
 cases h1:decide (a<=v) with
 |false=>rw[h1]at h;cases h
 |true=>rw[h1]at h;exact⟨abg h1,abg h⟩
theorem bor {a b:Bool} (h:(bif a then true else b)=false):a=false/\b=false:=by cases a<;>cases b<;>first|exact⟨rfl,rfl⟩|cases h
theorem arC {n:Nat} {f:aL} {i:Nat} (h:cC n (aa aA f) i=0):WO (f i):=by
 unfold cC F73 at h
 obtain ⟨_,h⟩:=j8 h (by decide)
 obtain ⟨_,h⟩:=j8 h (by decide)
 unfold SY at h
 obtain ⟨h1,h⟩:=j8 h (by decide)
 obtain ⟨h2,_⟩:=j8 h (by decide)
 obtain ⟨h1,hdy⟩:=bor h1
 obtain ⟨h1,hdx⟩:=bor h1
 obtain ⟨h1,hh⟩:=bor h1
 have h1:=notf h1
 unfold LE at h1
 have hx:gx (aW (f i)) (-100000) 100000=true:=cq h1 0 (by decide)
 have hy:gx (b7 (f i)) (-100000) 100000=true:=cq h1 1 (by decide)
 refine ⟨Oc hx,Oc hy,Oc (notf hh),Oc (notf hdx),Oc (notf hdy),?_⟩
 have h2:(bif dA ((f i))==0 then bE ((f i))==0 else false)=false:=h2
 cases hb:(dA ((f i))==0) with
 |false=>exact .inl fun h=>by rw[h]at hb;cases hb
 | true =>
   rw [hb]at h2
   exact .inr fun h=>by have h2:(bE ((f i))==0)=false:=h2;rw[h]at h2;cases h2
structure aaV (n0:Nat) (f0:aL) (n2:Nat) (f2:aL) (x4:Int) (n5:Nat) (f5:aL) (n7:Nat) (f7:aL) (n9:Nat) (f9:aL) (n11:Nat) (f11:aL) (n13:Nat) (f13:aL) (n15:Nat) (f15:aL):Prop where
 v2:Bh n0 f0 n2 f2
 v3:acW n5 (aa aB f5) n7 (aa aG f7) n9 (aa aH f9) n11 (aa aA f11)
 sf:Mf n0 f0 x4=0
 ll:n13=n11
 lu:n15=n11
 tb:∀ i,i<n0->uk (f0 i)
 lm:∀ i,i<n2->ahy n0 (f2 i)
 cl:∀ i,i<n11->WO (f11 i)
 co:∀ i,i<n11->rO f0 n2 f2 f13 f15 i=0
theorem vv {n0:Nat} {f0:aL} {n2:Nat} {f2:aL} {x4:Int} {n5:Nat} {f5:aL} {n7:Nat} {f7:aL} {n9:Nat} {f9:aL} {n11:Nat} {f11:aL} {n13:Nat} {f13:aL} {n15:Nat} {f15:aL} (h:dX n0 f0 n2 f2 x4 n5 f5 n7 f7 n9 f9 n11 f11 n13 f13 n15 f15=0):aaV n0 f0 n2 f2 x4 n5 f5 n7 f7 n9 f9 n11 f11 n13 f13 n15 f15:=by
 have h:(UR n0 f0 n2 f2 x4 n5 f5 n7 f7 n9 f9 n11 f11 n13 f13 n15 f15).2.2=0:=h
 unfold UR at h
 obtain ⟨h1,h⟩:=KG h
 obtain ⟨h2,h⟩:=KG h
 obtain ⟨h3,h⟩:=KG h
 have h1:dZ n0 f0 n2 f2=0:=h1
 have V2:=AI h1
 have V3:=tX h2
 cases hl:FO n11 n13 n15 with
 |true=>rw[hl]at h;cases h
 | false =>
   rw [hl]at h
   obtain ⟨e1,e2⟩:=Ew hl
   exact ⟨V2,V3,h3,e1,e2,fun i hi=>NL (V2.tb i hi),fun i hi=>aiq V2.l0 (V2.lm i hi),fun i hi=>arC (n:=n11) (V3.cl i hi),(jV h).1⟩
def iA (e z:Int):Int:=bif e==0 then z else 0
theorem aol {a b c d:Int} (h:gb a b c d=true):cZ a/\cZ b/\cZ c/\cZ d:=by
 rw [ale]at h
 obtain ⟨h1,h⟩:=BP h
 obtain ⟨h2,h⟩:=BP h
 obtain ⟨h3,h⟩:=BP h
 obtain ⟨h4,_⟩:=BP h
 have h1:=tR (x:=a) h1
 have h2:=tR (x:=c) h2
 have h3:=tR (x:=b) h3
 have h4:=tR (x:=d) h4
 unfold cZ
 omega
end
end Go.Dx
namespace Go.Dx
open Go.Sx
section
variable {J:Type}
def NA:V->ck J->ck J
 |.bool b,.res (.kb _)=>.res (.kb b)
 |r,_=>.res r
theorem UA (r:V) (a:ck J):pT r (NA r a):=by
 unfold NA;split<;>rfl
def p9 (r:V):T (ck J)->T (ck J)
 |.ret a=>.ret (NA r a)
 | .br b x y=>match b with
   |true=>.br true (p9 r x) y
   |false=>.br false x (p9 r y)
 |.ob _ x=>.ob true (p9 r x)
 | .obi c d x=>match c with
   |true=>.obi true true (p9 r x)
   |false=>.obi false d (p9 r x)
 |.obp _ x=>.obp True (p9 r x)
 |.obq a _ x=>.obq a a (p9 r x)
 |.fail _=>.ret (.res r)
 |.loop ..=>.ret (.res r)
 |.all f=>.all fun l=>p9 r (f l)
 |.und x y=>.und (p9 r x) (p9 r y)
 |.asm p x=>.asm p (p9 r x)
theorem T7 {LP:eu} (r:V):∀ t:T (ck J),bu LP (p9 r t) (pT r):=by
 intro t
 induction t with
 |ret a=>exact UA r a
 | br b x y hx hy =>
   cases b with
   |true=>exact⟨fun _=>hx,(fun e=>by cases e)⟩
   |false=>exact⟨(fun e=>by cases e),fun _=>hy⟩
 |ob b x hx=>exact⟨rfl,hx⟩
 | obi c d x hx =>
   cases c with
   |true=>exact⟨fun _=>rfl,hx⟩
   |false=>exact⟨(fun e=>by cases e),hx⟩
 |obp p x hx=>exact⟨trivial,hx⟩
 |obq a b x hx=>exact⟨rfl,hx⟩
 |fail n=>exact(rfl:cz r=cz r)
 |loop fr b e h g k hk=>exact(rfl:cz r=cz r)
 |all f hf=>exact fun l=>hf l
 |und x y hx hy=>exact⟨hx,hy⟩
 |asm p x hx=>exact fun _=>hx
theorem xI {ct:aZ} {un:kk} {w0:World} {sf:aK} {ds:List V} {r:V} (h:p9 r (aV J ct un sf ds)=aV J ct un sf ds):bu (cV w0 (SV ct)) (aV J ct un sf ds) (pT r):=by
 rw [← h];exact T7 r _
end
def qx (ts:List Ty) (pre:List V->Bool) (r:List V->V):av:=fun ds=>cond (pre (j9 ts ds)) (some ((lw ts ds [],lB ts ds []),True,r (j9 ts ds))) none
theorem kR {P:Program} {f:FuncId} {ts:List Ty} {pre:List V->Prop} {preB:List V->Bool} {r:List V->V} (h:∀ ds,preB ds=true->pre ds) (hO:(vP (bL ts pre r)).Ok P f):(vP (qx ts preB r)).Ok P f:=by
 refine ⟨fun B m lh w args vs K hrel hargs hsp=>?_,fun _ _ _ _ _ hk ⟨ds,d,p,r,h1,h2,h3,h4,h5⟩=>⟨ds,d,p,r,h1,h2,h3,h4,hk _ _ h5⟩,fun _ _ _ _ ⟨_,_,_,_,_,_,_,_,h⟩=>h⟩
 refine hO.sound B m lh w args vs K hrel hargs ?_
 obtain ⟨ds,d,p,r',h1,h2,⟨h30,h3⟩,h4,h5⟩:=hsp
 unfold qx at h2
 cases hb:preB (j9 ts ds) with
 |false=>rw[hb]at h2;cases h2
 | true =>
   rw [hb]at h2
   simp only [cond_true,aaB,Prod.mk.injEq]at h2
   obtain ⟨rfl,rfl,rfl⟩:=h2
   exact ⟨ds,_,_,_,h1,rfl,⟨h30,h _ hb⟩,h4,h5⟩
def Lh (p:V->V->Bool):List V->List V->Bool
 |[],[]=>true
 |v::vs,x::xs=>p v x&&Lh p vs xs
 |_,_=>false
def Sf:Nat->V->V->Bool
 |0,_,_=>false
 | fu+1,v,x=>match v,x with
   |.int k a,.int k' b=>decide (k=k')&&decide (a=b)
   |.bool a,.bool b=>a==b
   |.kb a,.bool b=>a==b
   |.str a,.str b=>decide (a.data.toList=b.data.toList)
   |.agg xs,.agg ys=>Lh (Sf fu) xs ys
   |.sl n f,.sl m g=>Nat.beq n m&&en n fun i=>Lh (Sf fu) (f i) (g i)&&(g i).all V.fc
   |.sq n _ f,.sl m g=>Nat.beq n m&&en n fun i=>Lh (Sf fu) (f i) (g i)&&(g i).all V.fc
   |.pd xs,.pd ys=>Nat.beq (bI xs) (bI ys)&&(Lh (Sf fu) xs ys&&ys.all V.fc)
   |.fn f xs ys,.fn g us ws=>Nat.beq f g&&(Lh (Sf fu) xs us&&Lh (Sf fu) ys ws)
   |_,_=>false
theorem ou {w0:World} {lh:List ao} {p:V->V->Bool} (hp:∀ v x a,p v x=true->vr w0 lh Nu.nil v a->vr w0 lh Nu.nil x a):∀ (vs xs:List V) (qs:List ak),Lh p vs xs=true->bg w0 lh Nu.nil vs qs->bg w0 lh Nu.nil xs qs
 |[],[],qs,_,h=>h
 | v::vs,x::xs,qs,h,h1=>by
   simp only [Lh,aaw]at h
   simp only [bg]at h1 ⊢
   obtain ⟨y,ys,rfl,h2,h3⟩:=h1
   exact ⟨y,ys,rfl,hp _ _ _ h.1 h2,ou hp vs xs ys h.2 h3⟩
 |[],_::_,_,h,_=>by simp[Lh]at h
 |_::_,[],_,h,_=>by simp[Lh]at h
theorem pX {w0:World} {lh:List ao}:∀ (fu:Nat) (v x:V) (a:ak),Sf fu v x=true->vr w0 lh Nu.nil v a->vr w0 lh Nu.nil x a
 |0,v,x,a,h,_=>by simp[Sf]at h
 | fu+1,v,x,a,h,hv=>by
   simp only [Sf]at h
   split at h
   ·simp only[aaw,abN]at h;obtain⟨rfl,rfl⟩:=h;exact hv
   ·have:=ajV h;subst this;exact hv
   ·have:=ajV h;subst this;simp only[vr]at hv ⊢;exact hv
   ·rename_i s t
    have h0:=abg h
    have:s=t:=by
     cases s with|mk d =>
     cases t with|mk e =>
     have:d=e:=Array.toList_inj.1 h0
     rw [this]
    subst this;exact hv
   ·simp only[vr]at hv ⊢
    obtain ⟨qs,rfl,h2⟩:=hv
    exact ⟨qs,rfl,ou (fun v x a=>pX fu v x a) _ _ _ h h2⟩
   ·simp only[aaw]at h
    have hn:=aax h.1
    subst hn
    simp only [vr]at hv ⊢
    obtain ⟨p,c,esz,h1,h2,h3,h4,h5⟩:=hv
    refine ⟨p,c,esz,h1,h2,h3,h4,fun i hi=>?_⟩
    obtain ⟨q,qs,g1,g2,g3,g4⟩:=h5 i hi
    have hh:=cq h.2 i hi
    simp only [aaw]at hh
    exact ⟨q,qs,g1,g2,ou (fun v x a=>pX fu v x a) _ _ _ hh.1 g3,hh.2⟩
   ·simp only[aaw]at h
    have hn:=aax h.1
    subst hn
    simp only [vr]at hv ⊢
    obtain ⟨p,c,esz,h1,h2,h3,h4,h5⟩:=hv
    refine ⟨p,c,esz,h1,h2.1,h3,h4,fun i hi=>?_⟩
    obtain ⟨q,qs,g1,g2,g3,g4⟩:=h5 i hi
    have hh:=cq h.2 i hi
    simp only [aaw]at hh
    exact ⟨q,qs,g1,g2,ou (fun v x a=>pX fu v x a) _ _ _ hh.1 g3,hh.2⟩
   ·simp only[aaw]at h
    have hn:=aax h.1
    rw [bG,bG]at hn
    simp only [vr]at hv ⊢
    obtain ⟨p,qs,h1,h2,h3,h4,h5⟩:=hv
    exact ⟨p,qs,h1,h2,by rw[← hn];exact h3,ou (fun v x a=>pX fu v x a) _ _ _ h.2.1 h4,h.2.2⟩
   ·simp only[aaw]at h
    have hn:=aax h.1
    subst hn
    simp only [vr]at hv ⊢
    obtain ⟨us,vs,h1,h2,h3⟩:=hv
    exact ⟨us,vs,h1,ou (fun v x a=>pX fu v x a) _ _ _ h.2.1 h2,ou (fun v x a=>pX fu v x a) _ _ _ h.2.2 h3⟩
   ·cases h
def fD:List (List V×V)->av
 |[],_=>none
 |(ex,r)::l,ds=>cond (Lh (Sf 8) ds ex) (some (([],[]),True,r)) (fD l ds)
theorem Av {P:Program} {f:FuncId} {C:av} (hO:(vP C).Ok P f):∀ (l:List (List V×V)),(∀ e∈l,∃ d p,C e.1=some (d,p,e.2)/\d.1=d.2/\p)->(vP (fD l)).Ok P f:=by
 intro l hl
 refine ⟨fun B m lh w args vs K hrel hargs hsp=>?_,fun _ _ _ _ _ hk ⟨ds,d,p,r,h1,h2,h3,h4,h5⟩=>⟨ds,d,p,r,h1,h2,h3,h4,hk _ _ h5⟩,fun _ _ _ _ ⟨_,_,_,_,_,_,_,_,h⟩=>h⟩
 refine hO.sound B m lh w args vs K hrel hargs ?_
 obtain ⟨ds,d,p,r',h1,h2,_,h4,h5⟩:=hsp
 induction l with
 |nil=>simp[fD]at h2
 | cons e l ih =>
   simp only [fD]at h2
   cases hb:Lh (Sf 8) ds e.1 with
   | true =>
     rw [hb]at h2
     simp only [cond_true,aaB,Prod.mk.injEq]at h2
     obtain ⟨_,_,rfl⟩:=h2
     obtain ⟨d',p',e1,e2,e3⟩:=hl e (ahE ..)
     exact ⟨e.1,d',p',_,ou (fun v x a=>pX 8 v x a) _ _ _ hb h1,e1,⟨e2,e3⟩,h4,h5⟩
   | false =>
     rw [hb]at h2
     exact ih (fun e he=>hl e (adx _ he)) h2
end Go.Dx
namespace Go.Dx
open Go.Sx
theorem at1 {ts:List Ty} {pre:List V->Prop} {r:List V->V} {raw:List V} {res:V} (hp:pre (j9 ts (al ts raw))) (hr:r (j9 ts (al ts raw))=res):∃ d p,bL ts pre r (al ts raw)=some (d,p,res)/\d.1=d.2/\p :=
 ⟨_,_,by rw[bL,hr],gq ts raw [],hp⟩
theorem Wr {α:Type} {a:α} {l:List α} {Q:α->Prop} (h:Q a) (hl:∀ e∈l,Q e):∀ e∈a::l,Q e:=fun e he=>by
 rcases List.mem_cons.1 he with rfl|he
 ·exact h
 ·exact hl e he
theorem VW {α:Type} {Q:α->Prop}:∀ e∈([]:List α),Q e:=fun e he=>by cases he
end Go.Dx
namespace Go.Dx
open Go.IntKind (i64 u64 u8)
open Go.Sx Go.Proofs
variable (n0:Nat) (f0:aL) (x0 x1:Int) (n2:Nat) (f2:aL) (x2 x3 x4:Int) (n5:Nat) (f5:aL) (x5 x6:Int) (n7:Nat) (f7:aL) (n9:Nat) (f9:aL) (n11:Nat) (f11:aL) (n13:Nat) (f13:aL) (n15:Nat) (f15:aL) (x17:Int) (s18:ByteArray) (x19 x20 x21 x22 x23:Int)
noncomputable section
def uB:kk:=fun _=>1000
def szB (n:Nat) (f:aL):Bool:=en n fun i=>Nat.ble (sv (aE (f i))).size 9223372036854775807
theorem nD {n:Nat} {f:aL} (h:szB n f=true):ap n f:=fun i hi=>aaF (cq h i hi)
def smT:Nat->List V
 |0=>[.str ⟨#[119,105,100,101]⟩,.sl 3 (fun|0=>[vi (-1000)]|1=>[vi 0]|_=>[vi 2000]),.sl 2 (fun|0=>[vi (-1000)]|_=>[vi 1000]),.sl 3 (fun|0=>[.sl 2 (fun|0=>[vi 100]|_=>[vi 300])]|1=>[.sl 2 (fun|0=>[vi 200]|_=>[vi 600])]|_=>[.sl 2 (fun|0=>[vi 0]|_=>[vi 100])]),vi 50,vi 5]
 |_=>[.str ⟨#[97,115,112,104,97,108,116]⟩,.sl 2 (fun|0=>[vi (-5000)]|_=>[vi 5000]),.sl 2 (fun|0=>[vi (-5000)]|_=>[vi 5000]),.sl 2 (fun|0=>[.sl 2 (fun|0=>[vi 700]|_=>[vi 700])]|_=>[.sl 2 (fun|0=>[vi 700]|_=>[vi 700])]),vi 0,vi 0]
def smL:Nat->List V:=fun _=>[.str ⟨#[104,101,97,100]⟩,vi 0,vi 1,vi 8000,vi 60000,vi 500,vi 50,vi 2,vi 4,vi 3,vi 5,vi 100000,vi 200,vi 0]
def Vb:Nat->List V:=fun _=>[.str ⟨#[104,105,103,104]⟩,vi 0,.sl 3 (fun|0=>[vi 0,vi 0]|1=>[vi 10000,vi 0]|_=>[vi 10000,vi 10000]),vi 4000]
def smC:Nat->List V:=fun _=>[.str ⟨#[99]⟩,vi 0,vi 0,vi 80,vi 0,vi 1]
def smS:V:=.agg [.sl 2 smT,.sl 1 smL,vi 1,.sl 1 Vb,.sl 0 Vb,.sl 0 Vb,.sl 1 smC,.sl 1 (fun _=>[vi 0]),.sl 1 fun _=>[vi 0,vi 0,vi 1000]]
def NN:List Ty:=[.agg [.sl af,.sl ah,tI,.sl aB,.sl aG,.sl aH,.sl aA,.sl ac,.sl aU]]
def Nm:av:=fD [(al NN [smS],.tup [vi 0,vi 0,vi 0])]
theorem Vv:(vP Nm).Ok Tryz.prog 34:=Av EQ _ (Wr (at1 (ts:=NN) (raw:=[smS]) (⟨nD bb,nD bb,nD bb,nD bb⟩) bb) (VW))
def Q8:List Ty:=[.agg [.sl af,.sl ah]]
def Rv:av:=fD [(al Q8 [.agg [.sl 2 smT,.sl 1 smL]],.tup [vi 0,vi 0,vi 0])]
theorem aac:(vP Rv).Ok Tryz.prog 66:=Av Gy _ (Wr (at1 (ts:=Q8) (raw:=[.agg [.sl 2 smT,.sl 1 smL]]) (⟨nD bb,nD bb⟩) bb) (VW))
def alH:List Ty:=[.agg [.sl aB,.sl aG,.sl aH,.sl aA]]
def ant:av:=fD [(al alH [.agg [.sl 1 Vb,.sl 0 Vb,.sl 0 Vb,.sl 1 smC]],.tup [vi 0,vi 0,vi 0])]
theorem aod:(vP ant).Ok Tryz.prog 67:=Av Gw _ (Wr (at1 (ts:=alH) (raw:=[.agg [.sl 1 Vb,.sl 0 Vb,.sl 0 Vb,.sl 1 smC]]) (⟨nD bb,nD bb⟩) bb) (VW))
def qi:aZ:=(63,.con Qy)::MF
theorem oI:aO Tryz.prog eqs its qi:=.con NQ (OJ)
def ack:RT Empty:=dm (n0,f0,n2,f2,x4,n5,f5,n7,f7,n9,f9,n11,f11,n13,f13,n15,f15,x17,s18,x19,x20,x22,x23) (.ret (vi (wI (100*x21))))
theorem VM:cW cX (aV JJ qi u0 Q7 [V.agg [V.sl n0 (aa af f0),V.sl n2 (aa ah f2),vi x4,V.sl n5 (aa aB f5),V.sl n7 (aa aG f7),V.sl n9 (aa aH f9),V.sl n11 (aa aA f11),V.sl n13 (aa ac f13),V.sl n15 (aa aU f15),vi x17,V.str s18,vi x19,vi x20,vi x21,vi x22,vi x23]]) (ack n0 f0 n2 f2 x4 n5 f5 n7 f7 n9 f9 n11 f11 n13 f13 n15 f15 x17 s18 x19 x20 x21 x22 x23):=bF
def dU:Int:=wI (100*x21)
def Oy:V:=dm (n0,f0,n2,f2,x4,n5,f5,n7,f7,n9,f9,n11,f11,n13,f13,n15,f15,x17,s18,x19,x20,x22,x23) (vi (dU x21))
theorem aij:aX cL (ack n0 f0 n2 f2 x4 n5 f5 n7 f7 n9 f9 n11 f11 n13 f13 n15 f15 x17 s18 x19 x20 x21 x22 x23) (Oy n0 f0 n2 f2 x4 n5 f5 n7 f7 n9 f9 n11 f11 n13 f13 n15 f15 x17 s18 x19 x20 x21 x22 x23):=evRet (by unfold Oy dU;rfl)
def Pw:av:=bL [.agg [.sl af,.sl ah,tI,.sl aB,.sl aG,.sl aH,.sl aA,.sl ac,.sl aU,tI,.str,tI,tI,tI,tI,tI]] (fun _=>True) fun
 |[.agg [.sl n0 f0,.sl n2 f2,.int _ x4,.sl n5 f5,.sl n7 f7,.sl n9 f9,.sl n11 f11,.sl n13 f13,.sl n15 f15,.int _ x17,.str s18,.int _ x19,.int _ x20,.int _ x21,.int _ x22,.int _ x23]]=>Oy n0 f0 n2 f2 x4 n5 f5 n7 f7 n9 f9 n11 f11 n13 f13 n15 f15 x17 s18 x19 x20 x21 x22 x23
 |_=>.any
theorem MU:cr Pw 35:=aY oI fun _ hp=>c9 (VM ..) (aij _ _ _ _ _ _ _ _ _ _ _ _ _ _ _ _ _ _ _ _ _ _ _ _)
def abh:RT Empty:=.ret (V.agg [vi x0,vi x0])
theorem YQ:cW cX (aV JJ qi u0 aim [vi x0]) (abh x0):=bF
def MP:V:=.agg [vi x0,vi x0]
theorem ae5:aX cL (abh x0) (MP x0):=evRet (by unfold MP ; rfl)
def GM:av:=bL ac (fun _=>True) fun
 |[.int _ x0]=>MP x0
 |_=>.any
theorem Fh:cr GM 142:=aY oI fun _ hp=>c9 (YQ ..) (ae5 _)
def ab9:RT Empty:=.obp (nz (wI (x5-x4))) (.obt (.obp (nz (wI (x5-x4))) (.obt (.ret (V.agg [vi (em (wI (wI (x0*wI (x5-x6))+wI (x2*wI (x6-x4)))) (wI (x5-x4))),vi (fC (wI (wI (x1*wI (x5-x6))+wI (x3*wI (x6-x4)))) (wI (x5-x4)))])))))
theorem X8:cW cX (aV JJ qi u0 ah0 [V.agg [vi x0,vi x1],V.agg [vi x2,vi x3],vi x4,vi x5,vi x6]) (ab9 x0 x1 x2 x3 x4 x5 x6):=bF
def oF:Int:=em (wI (wI (x0*wI (x5-x6))+wI (x2*wI (x6-x4)))) (wI (x5-x4))
def oJ:Int:=fC (wI (wI (x1*wI (x5-x6))+wI (x3*wI (x6-x4)))) (wI (x5-x4))
def Hk:V:=.agg [vi (oF x0 x2 x4 x5 x6),vi (oJ x1 x3 x4 x5 x6)]
theorem ajn (hp:wI (x5-x4)≠0):aX cL (ab9 x0 x1 x2 x3 x4 x5 x6) (Hk x0 x1 x2 x3 x4 x5 x6):=evObp (by first|assumption|(exact hp)) (evObt (evObp (by first|assumption|(exact hp)) (evObt (evRet (by unfold Hk oF oJ;rfl)))))
def OI:av:=bL [.agg aJ,.agg aJ,tI,tI,tI] (fun
 |[.agg [.int _ x0,.int _ x1],.agg [.int _ x2,.int _ x3],.int _ x4,.int _ x5,.int _ x6]=>wI (x5-x4)≠0
 |_=>False) fun
 |[.agg [.int _ x0,.int _ x1],.agg [.int _ x2,.int _ x3],.int _ x4,.int _ x5,.int _ x6]=>Hk x0 x1 x2 x3 x4 x5 x6
 |_=>.any
theorem GC:cr OI 141:=aY oI fun _ hp=>c9 (X8 ..) (ajn _ _ _ _ _ _ _ hp)
def OQ:RT Empty:=.obp (nz 1000000) (.obt (.obp (nz 1000) (.obt (.obp (nz 1000) (.obt (.ret (vi (em (wI (em (wI (em (wI (x0*max (wI (1000000-wI (x1*x3))) 0)) 1000000*max (wI (1000-wI (x2*x4))) 0)) 1000*x5)) 1000))))))))
theorem TJ:cW cX (aV JJ qi u0 Ut [vi x0,vi x1,vi x2,V.agg [vi x3,vi x4,vi x5],V.fn 53 [] []]) (OQ x0 x1 x2 x3 x4 x5):=bF
def nW:Int:=em (wI (em (wI (em (wI (x0*max (wI (1000000-wI (x1*x3))) 0)) 1000000*max (wI (1000-wI (x2*x4))) 0)) 1000*x5)) 1000
def E9:V:=vi (nW x0 x1 x2 x3 x4 x5)
theorem We:aX cL (OQ x0 x1 x2 x3 x4 x5) (E9 x0 x1 x2 x3 x4 x5):=evObp (by first|assumption|(decide)) (evObt (evObp (by first|assumption|(decide)) (evObt (evObp (by first|assumption|(decide)) (evObt (evRet (by unfold E9 nW;rfl)))))))
def SL:av:=bL [tI,tI,tI,.agg aU,.fn 53 [] []] (fun _=>True) fun
 |[.int _ x0,.int _ x1,.int _ x2,.agg [.int _ x3,.int _ x4,.int _ x5],.fn _ [] []]=>E9 x0 x1 x2 x3 x4 x5
 |_=>.any
theorem W3:cr SL 111:=aY oI fun _ hp=>c9 (TJ ..) (We _ _ _ _ _ _)
def T4:RT Empty:=.obp (nz 1000000) (.obt (.obp (nz 1000) (.obt (.obp (nz 1000) (.obt (.ret (vi (fC (wI (fC (wI (fC (wI (x0*max (wI (1000000-wI (x1*x3))) 0)) 1000000*max (wI (1000-wI (x2*x4))) 0)) 1000*x5)) 1000))))))))
theorem Ps:cW cX (aV JJ qi u0 Ut [vi x0,vi x1,vi x2,V.agg [vi x3,vi x4,vi x5],V.fn 54 [] []]) (T4 x0 x1 x2 x3 x4 x5):=bF
def nZ:Int:=fC (wI (fC (wI (fC (wI (x0*max (wI (1000000-wI (x1*x3))) 0)) 1000000*max (wI (1000-wI (x2*x4))) 0)) 1000*x5)) 1000
def Er:V:=vi (nZ x0 x1 x2 x3 x4 x5)
theorem Yg:aX cL (T4 x0 x1 x2 x3 x4 x5) (Er x0 x1 x2 x3 x4 x5):=evObp (by first|assumption|(decide)) (evObt (evObp (by first|assumption|(decide)) (evObt (evObp (by first|assumption|(decide)) (evObt (evRet (by unfold Er nZ;rfl)))))))
def UK:av:=bL [tI,tI,tI,.agg aU,.fn 54 [] []] (fun _=>True) fun
 |[.int _ x0,.int _ x1,.int _ x2,.agg [.int _ x3,.int _ x4,.int _ x5],.fn _ [] []]=>Er x0 x1 x2 x3 x4 x5
 |_=>.any
theorem X3:cr UK 111:=aY oI fun _ hp=>c9 (Ps ..) (Yg _ _ _ _ _ _)
def aji:List V->Bool
 |[_,_,_,_,.fn n _ _]=>Nat.beq n (match (.fn 53 [] []:V) with|.fn k _ _=>k|_=>0)
 |_=>false
def Jw:av:=orC aji SL UK
theorem F2:(vP Jw).Ok Tryz.prog 111:=Gv _ _ _ W3 X3
theorem wV {b:Int} (h:(b != 0)=true):b≠0:=by simpa using h
def Sa:List V->Bool
 |[.int _ x0,.int _ x1]=>x1 != 0
 |_=>false
def OO:av:=qx aJ Sa fun
 |[.int _ x0,.int _ x1]=>DO x0 x1
 |_=>.any
theorem aag:(vP OO).Ok Tryz.prog 53:=kR (fun ds h=>by
 unfold Sa at h
 split at h
 ·exact wV h
 ·cases h) Gn
def OU:List V->Bool
 |[.agg [.int _ x0,.int _ x1]]=>x1 != 0
 |_=>false
def Rh:av:=qx [.agg aJ] OU fun
 |[.agg [.int _ x0,.int _ x1]]=>Co x0 x1
 |_=>.any
theorem X7:(vP Rh).Ok Tryz.prog 38:=kR (fun ds h=>by
 unfold OU at h
 split at h
 ·exact wV h
 ·cases h) EO
def PT:List V->Bool
 |[.int _ x0,.int _ x1]=>x1 != 0
 |_=>false
def Uv:av:=qx aJ PT fun
 |[.int _ x0,.int _ x1]=>I8 x0 x1
 |_=>.any
theorem Wc:(vP Uv).Ok Tryz.prog 54:=kR (fun ds h=>by
 unfold PT at h
 split at h
 ·exact wV h
 ·cases h) FP
def Ur:List V->Bool
 |[.agg [.int _ x0,.int _ x1]]=>x1 != 0
 |_=>false
def NU:av:=qx [.agg aJ] Ur fun
 |[.agg [.int _ x0,.int _ x1]]=>Is x0 x1
 |_=>.any
theorem Xw:(vP NU).Ok Tryz.prog 40:=kR (fun ds h=>by
 unfold Ur at h
 split at h
 ·exact wV h
 ·cases h) Ez
def Rs:List V->Bool
 |[.sl n0 f0]=>Nat.ble 1 n0
 |_=>false
def QV:av:=qx [.sl ac] Rs fun
 |[.sl n0 f0]=>vi (eU n0 f0)
 |_=>.any
theorem W8:(vP QV).Ok Tryz.prog 75:=kR (fun ds h=>by
 unfold Rs at h
 split at h
 ·exact aaF h
 ·cases h) EY
def Nq:List V->Bool
 |[.sl n0 f0]=>Nat.ble 1 n0
 |_=>false
def QU:av:=qx [.sl ac] Nq fun
 |[.sl n0 f0]=>vi (fO n0 f0)
 |_=>.any
theorem YC:(vP QU).Ok Tryz.prog 74:=kR (fun ds h=>by
 unfold Nq at h
 split at h
 ·exact aaF h
 ·cases h) Fy
def ybd:List V->Bool
 |[.agg [.int _ x0,.int _ x1],.agg [.int _ x2,.int _ x3],.int _ x4,.int _ x5,.int _ x6]=>wI (x5-x4)!=0
 |_=>false
def Oq:av:=qx [.agg aJ,.agg aJ,tI,tI,tI] ybd fun
 |[.agg [.int _ x0,.int _ x1],.agg [.int _ x2,.int _ x3],.int _ x4,.int _ x5,.int _ x6]=>Hk x0 x1 x2 x3 x4 x5 x6
 |_=>.any
theorem Wu:(vP Oq).Ok Tryz.prog 141:=kR (fun ds h=>by
 unfold ybd at h
 split at h
 ·exact wV h
 ·cases h) GC
end
end Go.Dx
namespace Go.Dx
open Go.Sx Go.RowKit
noncomputable section
end
end Go.Dx
namespace Go.Dx
open Go.Sx
theorem a7.unhideG {B:cY} {m m':aF} {lh new:List ao} {w w':World} {X:List Nat} (h:a7 B m lh w)
 (h':a7 ⟨B.w0,w,fun b=>∃ k cs ty,k∉X/\lh[k]? = some (.cells cs ty)/\m k=some b,B.ds⟩ m' (hide X lh++new) w') (he:hG (hide X lh) m (hide X lh++new) m') :
 a7 B m' (lh++new) w'/\hG lh m (lh++new) m':=by
 have hent:∀ k o,(lh++new)[k]? = some o->((hide X lh++new)[k]? = some o)∨(k∈X/\lh[k]? = some o/\(hide X lh++new)[k]? = some .hid):=fun k o hk=>by
  rw [acF]at hk
  split at hk
  ·rename_i hlt
   rw [aaQ (by rw[Go.Sx.hide_length];exact hlt),Go.Sx.hide_get]
   by_cases hX:k∈X
   ·rw[aby hX,hk];exact .inr ⟨hX,rfl,rfl⟩
   ·rw[aaT hX];exact .inl hk
  ·rename_i hge
   left
   rw [abv (by rw[Go.Sx.hide_length];omega),Go.Sx.hide_length];exact hk
 have hnoown:∀ k cs ty b,k∈X->lh[k]? = some (.cells cs ty)->m k=some b->¬ ∃ j cs ty,j∉X/\lh[j]? = some (ao.cells cs ty)/\m j=some b:=fun k cs ty b hX hk hb ⟨j,cs',ty',hj,hl,hb'⟩=>by
  exact hj (h.inj j k b cs' cs ty' ty hl hk hb' hb▸hX)
 refine ⟨⟨h'.os.trans h.os,h'.tape.trans h.tape,h'.output.trans h.output,h'.size,h'.old,ajf h.fsize h'.fsize,fun b hb ho=>?_,fun k cs ty hk=>?_,fun k k' b cs cs' ty ty' h1 h2 hb hb'=>?_,fun k hk=>?_,fun k hk=>?_,h'.rng⟩,he.1,fun k hk=>?_⟩
 ·rw [h'.kept b (ahs hb h.fsize) (fun ⟨k,cs,ty,_,hl,hm⟩=>?_)]
  ·exact h.kept b hb ho
  ·obtain⟨b',_,hb',_,_,_,h3⟩:=h.loc k cs ty hl
   rw [hm]at hb';cases hb'
   rcases h3 with h3|h3
   ·omega
   ·exact ho h3
 ·rcases hent k _ hk with hl|⟨hX,hl,_⟩
  ·obtain ⟨b,vs,hb,hvs,hh,h1,h2⟩:=h'.loc k cs ty hl
   refine ⟨b,vs,hb,hvs,hh,h1,?_⟩
   rcases h2 with h2|⟨j,cs',ty',hj,hlj,hmj⟩
   ·exact .inl (ajf h.fsize h2)
   ·obtain⟨b',_,hb',_,_,_,h3⟩:=h.loc j cs' ty' hlj
    rw [hmj]at hb';cases hb'
    exact h3
  ·obtain⟨b,vs,hb,hvs,hh,h1,h2⟩:=h.loc k cs ty hl
   refine ⟨b,vs,he.1 _ _ hb,cA he.1 _ _ hvs,?_,h1,h2⟩
   rw [h'.kept b (h.rng k b hb) (hnoown k cs ty b hX hl hb)]
   exact hh
 ·have mixed:∀ k k' b cs cs' ty ty',(hide X lh++new)[k]? = some (.cells cs ty)->k'∈X->lh[k']? = some (.cells cs' ty')->m' k=some b->m' k'=some b->False:=fun k k' b cs cs' ty ty' hl hX hl' hb hb'=>by
   obtain ⟨b0,_,hb0,_⟩:=h.loc k' cs' ty' hl'
   have e:=he.1 _ _ hb0
   rw [hb']at e;cases e
   obtain ⟨b1,_,hb1,_,_,_,h2⟩:=h'.loc k cs ty hl
   rw [hb]at hb1;cases hb1
   rcases h2 with h2|h2
   ·have h3:=h.rng k' b hb0
    have h4:w.heap.size<=b:=h2
    omega
   ·exact hnoown k' cs' ty' b hX hl' hb0 h2
  rcases hent k _ h1 with hl|⟨hX,hl,_⟩<;>rcases hent k' _ h2 with hl'|⟨hX',hl',_⟩
  ·exact h'.inj k k' b cs cs' ty ty' hl hl' hb hb'
  ·exact(mixed k k' b cs cs' ty ty' hl hX' hl' hb hb').elim
  ·exact(mixed k' k b cs' cs ty' ty hl' hX hl hb' hb).elim
  ·obtain⟨b0,_,hb0,_⟩:=h.loc k cs ty hl
   obtain ⟨b1,_,hb1,_⟩:=h.loc k' cs' ty' hl'
   have e:=he.1 _ _ hb0;rw[hb]at e;cases e
   have e:=he.1 _ _ hb1;rw[hb']at e;cases e
   exact h.inj k k' b cs cs' ty ty' hl hl' hb0 hb1
 ·exact h'.dom k (by rw[aft]at hk ⊢;rw[Go.Sx.hide_length];exact hk)
 ·rcases hent k _ hk with hl|⟨hX,hl,hl'⟩
  ·exact h'.dead k hl
  ·have hd:=h.dead k hl
   have hh:(hide X lh)[k]? = some .hid:=by rw[Go.Sx.hide_get,aby hX,hl];rfl
   rw [(he.2 k hh).2];exact hd
 ·have hh:(hide X lh)[k]? = some .hid:=by
   rw [Go.Sx.hide_get];split
   ·rw[hk];rfl
   ·exact hk
  obtain ⟨h1,h2⟩:=he.2 k hh
  exact ⟨by rw[aaQ (List.getElem?_eq_some_iff.1 hk).1];exact hk,h2⟩
mutual
def cD:V->Prop
 |.int ..|.bool _|.kb _|.str _|.any=>True
 |.agg cs|.tup cs=>bM cs
 |.sl n f=>∀ i,i<n->bM (f i)
 |_=>False
def bM:List V->Prop
 |[]=>True
 |v::vs=>cD v/\bM vs
end
theorem UZ:∀ (r v:V),cD r->cz v=cz r->v.fc=true->r.fc=true
 |.int ..,_,_,_,_=>rfl
 |.bool _,_,_,_,_=>rfl
 |.kb _,_,_,_,_=>rfl
 |.str _,_,_,_,_=>rfl
 |.any,_,_,_,_=>rfl
 |.sl ..,_,_,_,_=>rfl
 |.agg _,v,_,h,hf=>by cases v<;>first|(simp[cz]at h;done)|(cases hf;done)
 |.tup _,v,_,h,hf=>by cases v<;>first|(simp[cz]at h;done)|(cases hf;done)
 |.fn ..,_,hg,_,_=>by simp[cD]at hg
 |.pd ..,_,hg,_,_=>rfl
 |.pl ..,_,hg,_,_=>rfl
 |.pe ..,_,hg,_,_=>rfl
 |.ss ..,_,hg,_,_=>rfl
 |.gs ..,_,hg,_,_=>rfl
 |.ns,_,hg,_,_=>rfl
 |.np,_,hg,_,_=>rfl
 |.gd ..,_,hg,_,_=>by simp[cD]at hg
 |.yl ..,_,hg,_,_=>by simp[cD]at hg
 |.go ..,_,hg,_,_=>rfl
 |.sq ..,_,hg,_,_=>rfl
theorem BQ:∀ (rs vs:List V),bM rs->cu vs=cu rs->vs.all V.fc=true->rs.all V.fc=true
 |[],_,_,_,_=>rfl
 |r::rs,[],_,h,_=>by simp[cu]at h
 | r::rs,v::vs,hg,h,hf=>by
   simp only [cu,abA]at h
   simp only [bM]at hg
   simp only [adT,aaw]at hf ⊢
   exact ⟨UZ r v hg.1 h.1 hf.1,BQ rs vs hg.2 h.2 hf.2⟩
section
variable {w0:World} {lh:List ao}
mutual
theorem eqA:∀ (r v:V) (a:ak),cD r->cz v=cz r->vr w0 lh Nu.nil v a->vr w0 lh Nu.nil r a
 |.int k n,v,a,_,h,hv=>by cases v<;>simp only[cz]at h<;>cases h;exact hv
 |.bool b,v,a,_,h,hv=>by cases v<;>simp only[cz]at h<;>cases h<;>(simp only[vr]at hv ⊢;exact hv)
 |.kb b,v,a,_,h,hv=>by cases v<;>simp only[cz]at h<;>cases h<;>(simp only[vr]at hv ⊢;exact hv)
 |.str s,v,a,_,h,hv=>by cases v<;>simp only[cz]at h<;>cases h;exact hv
 |.any,v,a,_,_,_=>by simp only[vr]
 | .agg cs,v,a,hg,h,hv=>by
   cases v<;>simp only[cz,ak.agg.injEq]at h<;>first|(cases h;done)|skip
   simp only [cD]at hg
   simp only [vr]at hv ⊢
   obtain ⟨az,e,hv⟩:=hv
   exact ⟨az,e,W9 cs _ az hg h hv⟩
 | .tup cs,v,a,hg,h,hv=>by
   cases v<;>simp only[cz,ak.tup.injEq]at h<;>first|(cases h;done)|skip
   simp only [cD]at hg
   simp only [vr]at hv ⊢
   obtain ⟨az,e,hv⟩:=hv
   exact ⟨az,e,W9 cs _ az hg h hv⟩
 | .sl n f,v,a,hg,h,hv=>by
   cases v<;>first|(simp[cz]at h;done)|skip
   obtain ⟨rfl,hel⟩:=GF h
   simp only [cD]at hg
   simp only [vr]at hv ⊢
   obtain ⟨p,c,esz,h1,h2,h3,h4,h5⟩:=hv
   refine ⟨p,c,esz,h1,h2,h3,h4,fun i hi=>?_⟩
   obtain ⟨q,az,g1,g2,g3,g4⟩:=h5 i hi
   exact ⟨q,az,g1,g2,W9 (f i) _ az (hg i hi) (hel i hi) g3,BQ _ _ (hg i hi) (hel i hi) g4⟩
 |.fn ..,_,_,hg,_,_=>by simp[cD]at hg
 |.pd ..,_,_,hg,_,_=>by simp[cD]at hg
 |.pl ..,_,_,hg,_,_=>by simp[cD]at hg
 |.pe ..,_,_,hg,_,_=>by simp[cD]at hg
 |.ss ..,_,_,hg,_,_=>by simp[cD]at hg
 |.gs ..,_,_,hg,_,_=>by simp[cD]at hg
 |.ns,_,_,hg,_,_=>by simp[cD]at hg
 |.np,_,_,hg,_,_=>by simp[cD]at hg
 |.gd ..,_,_,hg,_,_=>by simp[cD]at hg
 |.yl ..,_,_,hg,_,_=>by simp[cD]at hg
 |.go ..,_,_,hg,_,_=>by simp[cD]at hg
 |.sq ..,_,_,hg,_,_=>by simp[cD]at hg
theorem W9:∀ (rs vs:List V) (az:List ak),bM rs->cu vs=cu rs->bg w0 lh Nu.nil vs az->bg w0 lh Nu.nil rs az
 | [],vs,az,_,h,hv=>by
   cases vs with
   |nil=>exact hv
   |cons v vs=>simp[cu]at h
 | r :: rs,vs,az,hg,h,hv=>by
   cases vs with
   |nil=>simp[cu]at h
   | cons v vs =>
     simp only [cu,abA]at h
     simp only [bM]at hg
     simp only [bg]at hv ⊢
     obtain ⟨x,xs,e,h1,h2⟩:=hv
     exact ⟨x,xs,e,eqA r v x hg.1 h.1 h1,W9 rs vs xs hg.2 h.2 h2⟩
end
end
def LJ:V->V
 |.sq n _ f=>.sl n f
 |v=>v
def sqs:V->V
 |.agg cs=>.agg (cs.map LJ)
 |.tup cs=>.tup (cs.map LJ)
 |v=>LJ v
theorem ID {w0:World} {lh:List ao} {ν:Nu} {v:V} {a:ak} (h:vr w0 lh ν v a):vr w0 lh ν (LJ v) a:=by
 unfold LJ
 split
 ·simp only[vr]at h ⊢
  obtain ⟨p,c,esz,h1,h2,h3,h4,h5⟩:=h
  exact ⟨p,c,esz,h1,h2.1,h3,h4,h5⟩
 ·exact h
theorem wA {w0:World} {lh:List ao} {ν:Nu}:∀ {vs:List V} {qs:List ak},bg w0 lh ν vs qs->bg w0 lh ν (vs.map LJ) qs
 |[],qs,h=>by simp only[bg,apm]at h ⊢;exact h
 | v::vs,qs,h=>by
   simp only [bg,ahC]at h ⊢
   obtain ⟨x,xs,e,h1,h2⟩:=h
   exact ⟨x,xs,e,ID h1,wA h2⟩
theorem ahu {w0:World} {lh:List ao} {ν:Nu} {v:V} {a:ak} (h:vr w0 lh ν v a):vr w0 lh ν (sqs v) a:=by
 unfold sqs
 split
 ·simp only[vr]at h ⊢
  obtain ⟨qs,e,h⟩:=h
  exact ⟨qs,e,wA h⟩
 ·simp only[vr]at h ⊢
  obtain ⟨qs,e,h⟩:=h
  exact ⟨qs,e,wA h⟩
 ·exact ID h
theorem HR.fz (w0:World) (l:List ao):HR w0 ⟨fun _=>Option.none,l⟩ 0 0 [] l:=⟨fun k o h=>by simp at h,fun k k' x x' _ _ h=>by(cases h),fun _ _=>rfl,fun _ _ h=>by(cases h),lA _,fun _ _ _ h=>by(cases h)⟩
theorem QX {l l1:List ao} {m m1:aF} (hz:uh l l1) (he:hG l m l1 m1) (hl:∀ (k:Nat) (o:ao),l[k]? = some o->o=.hid∨∃ az ty,o=.cells az ty):l1=l++l1.drop l.length:=by
 have hp:∀ k o,l[k]? = some o->l1[k]? = some o:=fun k o hk=>by
  rcases hl k o hk with rfl|⟨az,ty,rfl⟩
  ·exact(he.2 k hk).1
  ·exact hz k az ty hk
 apply agE; intro k
 rw [acF]
 split
 ·rename_i hlt
  have:l[k]? = some l[k]:=ach hlt
  rw [hp k _ this,this]
 ·rename_i hge
  rw [ahB];congr 1;omega
theorem adQ {α:Type} {P:Program} {eqs:List TypeId} {its:List gH} {ct:aZ} {f:FuncId} {fn:Func} {sf:aK} {un:kk} {C:av} {K0:V->List O->T α} {Q0:V->α->Prop} (hK0:∀ w0 r v h,bu (cV w0 (SV ct)) (K0 v h) (Q0 r)->UV (qd h [v])/\cz (sqs (rF h v))=cz r) (hT:aO P eqs its ct) (hE:∀ t∈eqs,cU P t) (hI:kG P eqs its) (hf:P.funcs[f]? = some fn)
 (hn : (fn.name == "runtime.NumGoroutine") = false) (hc : dW P eqs its fn = some sf) (hd : fj sf.ntmps sf.body = true) (hg : ∀ ds d p r, C ds = some (d, p, r) -> d.1 = d.2 -> p -> cD r)
 (h:∀ w0 ds d p r,C ds=some (d,p,r)->d.1=d.2->p->bu (cV w0 (SV ct)) (m6 (mQ ct LV) (mo ct) un LV sf ds [] K0) (Q0 r)):(vZ C).Ok P f:=by
 refine ⟨fun B m lh w args vs K hrel hargs hsp=>?_,fun _ _ _ _ _ hk ⟨ds,d,p,r,X,h1,h2,h3,h4,h5,h6⟩=>⟨ds,d,p,r,X,h1,h2,h3,h4,h5,fun x new hx=>hk _ _ (h6 x new hx)⟩,fun _ _ _ _ ⟨_,_,_,_,_,_,_,_,_,⟨x,new,hx⟩,h6⟩=>h6 x new hx⟩
 obtain ⟨ds,d,p,r,X,h1,hX,h2,⟨h30,h3⟩,_,h6⟩:=hsp
 have hs:=oR (Sp:=fun w0 args l K=>∃ ds d p r,bg w0 l Nu.nil ds args/\C ds=some (d,p,r)/\(d.1=d.2/\p)/\∀ x l',uh l l'->vr w0 l' Nu.nil r x->K x l') (hT.ok hE hI LV) hE hI hf hn hc (fun w0 args l K hw ha ⟨ds,d,p,r,k1,k2,⟨k30,k3⟩,k4⟩=>by
  refine qP (ν:=⟨fun _=>none,l⟩) (nV:=0) (nS:=0) (oM w0 ct hT.dst LV) (o0 w0 ct _ LV) hd (gA (fun k x h=>by cases h) ds args k1) (HR.fz w0 l) (h w0 ds d p r k2 k30 k3) fun v h' ν' a lh' q0 q1 q2 q3=>?_
  obtain ⟨b1,b2⟩:=hK0 _ _ _ _ q3
  have hh:=q1 0 0
  have hv:bg w0 lh' Nu.nil [rF h' v] [a]:=rf hh b1 (by simp only[bg];exact⟨_,_,rfl,q2,rfl⟩)
  simp only [bg]at hv
  obtain ⟨x,xs,e,hv,_⟩:=hv
  cases e
  exact ⟨a,lh',.inl ⟨rfl,(⟨.inr rfl,trivial⟩:lH [_] [_])⟩,k4 a lh' (oP q0.2 hh.zl) (eqA _ _ _ (hg _ _ _ _ k2 k30 k3) b2 (ahu hv))⟩)
 obtain ⟨e1,e2⟩:=hs _ m (hide X lh) w args vs (fun r' l'=>uh (hide X lh) l'/\vr B.w0 l' Nu.nil r r') (hrel.hide X) hargs ⟨ds,d,p,r,h1,h2,⟨h30,h3⟩,fun x l' hz hx=>⟨hz,hx⟩⟩
 refine ⟨e1,e2.mono fun ee w' ⟨v,r',m1,l1,he,hv,hext,hr,hz,hx⟩=>?_⟩
 have hfull:=QX hz hext fun k o hk=>by
  rw [Go.Sx.hide_get]at hk
  split at hk
  ·cases hg:lh[k]? with
   |none=>rw[hg]at hk;cases hk
   |some o'=>rw[hg]at hk;cases hk;exact .inl rfl
  ·rename_i hkX
   rcases hX k hkX with hc|hc
   ·right
    rw [hk]at hc
    cases o with
    |cells az ty=>exact⟨az,ty,rfl⟩
    |_=>cases hc
   ·rw[abm hc]at hk;cases hk
 generalize l1.drop (hide X lh).length=new at hfull
 subst hfull
 obtain ⟨g1,g2⟩:=a7.unhideG hrel hr hext
 exact ⟨v,r',m1,lh++new,he,hv,g2,g1,h6 r' new hx⟩
theorem ak2 {P:Program} {f:FuncId} {e:Nat} {ty:TypeId} {C:av} (h:(vL e ty C).Ok P f) (hL:∀ ds d p r,C ds=some (d,p,r)->d.1=d.2->p->Yo e r/\∃ n f,r=.sl n f/\∀ i,i<n->(f i).all V.fc=true):(vN C).Ok P f:=by
 refine ⟨fun B m lh w args vs K hrel hargs ⟨ds,d,p,r,h1,h2,h3,h5,h6⟩=>?_,fun _ _ _ _ _ hk ⟨ds,d,p,r,h1,h2,h3,h4,h5⟩=>⟨ds,d,p,r,h1,h2,h3,h4,fun x new hx=>hk _ _ (h5 x new hx)⟩,fun w0 _ lh _ ⟨_,_,_,_,_,_,_,h4,h5⟩=>let ⟨x,new,hx⟩:=h4 w0 lh;h5 x new hx⟩
 obtain ⟨ho,n,f,rfl,hfc⟩:=hL _ _ _ _ h2 h3.1 h3.2
 have ho':=ho
 obtain ⟨n',f',hl,hmax,hel,_⟩:=ho'
 simp only [pL,aaB,Prod.mk.injEq]at hl
 obtain ⟨rfl,rfl⟩:=hl
 refine h.sound B m lh w args vs K hrel hargs ⟨ds,d,p,_,n,f,h1,h2,h3,rfl,ho,fun x new hx=>?_⟩
 show K x (lh++new)
 refine h6 x new ?_
 simp only [vr]
 rcases hx with ⟨rfl,rfl⟩|⟨b,c,az,hb,hbl,rfl,hal,hnc,hall⟩
 ·exact⟨none,0,e,rfl,aaS _,hmax,trivial,fun i hi=>absurd hi (Nat.not_lt_zero _)⟩
 ·have hbl':(List.replicate lh.length ao.dead++new)[b]? = some (.cells az ty):=by
   rw [abv (by simpa using hb)]
   rw [abv hb]at hbl
   simpa using hbl
  refine ⟨some (.l b 0),c,e,rfl,hnc,hmax,⟨az,ty,hbl',acK _⟩,fun i hi=>⟨.l b 0,cu (f i),rfl,?_,(eG (hel i hi).2 _).2 rfl,hfc i hi⟩⟩
  have hle:i*e+e<=az.length:=by rw[hal,← adm];exact abt e (by omega)
  show lds B.w0 _ (.l b (0+i*e)) e=_
  rw [aeb]
  simp only [lds,hbl']
  rw [aby hle,hall i hi]
theorem NV {e n:Nat} {f:aL} (ho:Yo e (.sl n f)) (hfc:∀ i,i<n->(f i).all V.fc=true):okN (.sl n f):=fun w0 lh=>by
 obtain ⟨n',f',hl,hmax,hel,_⟩:=ho
 simp only [pL,aaB,Prod.mk.injEq]at hl
 obtain ⟨rfl,rfl⟩:=hl
 obtain ⟨h1,h2⟩:=zZ (e:=e) (f:=f) (n:=n) fun i hi=>by rw[wb];exact(yah (hel i hi).1).1
 refine ⟨.slice (some (.l lh.length 0)) n n,[.cells ((List.range n).flatMap fun i=>cu (f i)) 0],?_⟩
 simp only [vr]
 have hbl':(List.replicate lh.length ao.dead++[ao.cells ((List.range n).flatMap fun i=>cu (f i)) 0])[lh.length]? = some (.cells ((List.range n).flatMap fun i=>cu (f i)) 0):=by
  rw [abv (by simp)];simp
 refine ⟨some (.l lh.length 0),n,e,rfl,aaS _,hmax,⟨_,0,hbl',acK _⟩,fun i hi=>⟨.l lh.length 0,cu (f i),rfl,?_,(eG (hel i hi).2 _).2 rfl,hfc i hi⟩⟩
 have hle:i*e+e<=n*e:=by rw[← adm];exact abt e (by omega)
 show lds w0 _ (.l lh.length (0+i*e)) e=_
 rw [aeb]
 simp only [lds,hbl']
 rw [aby (by rw[h1];exact hle),h2 i hi]
theorem aqC {P:Program} {f:FuncId} {e:Nat} {ty:TypeId} {C:av} (h:(vL e ty C).Ok P f) (hL:∀ ds d p r,C ds=some (d,p,r)->d.1=d.2->p->Yo e r/\∃ n f,r=.sl n f/\∀ i,i<n->(f i).all V.fc=true):(vN C).Ok P f/\∀ ds d p r,C ds=some (d,p,r)->d.1=d.2->p->okN r :=
 ⟨ak2 h hL,fun ds d p r h1 h2 h3=>by obtain⟨ho,n,f,rfl,hfc⟩:=hL ds d p r h1 h2 h3;exact NV ho hfc⟩
end Go.Dx
namespace Go.Dx
open Go.Sx
section
variable {J:Type}
def NK (J:Type) (ct:aZ) (un:kk) (sf:aK) (ds:List V):T (ck J):=m6 (mQ ct LV) (mo ct) un LV sf ds [] fun v h=>obs (qd h [v]) (.ret (.res (sqs (rF h v))))
theorem XV {P:Program} {eqs:List TypeId} {its:List gH} {ct:aZ} {f:FuncId} {fn:Func} {sf:aK} {un:kk} {ts:List Ty} {pre:List V->Prop} {r:List V->V} (hT:aO P eqs its ct) (hE:∀ t∈eqs,cU P t) (hI:kG P eqs its) (hf:P.funcs[f]? = some fn)
 (hn : (fn.name == "runtime.NumGoroutine") = false) (hc : dW P eqs its fn = some sf) (hd : fj sf.ntmps sf.body = true) (ho : fF ts = true) (hg : ∀ ds, pre (al ts ds) -> cD (r (al ts ds)))
 (h:∀ w0 ds,pre (al ts ds)->bu (cV w0 (SV ct)) (NK J ct un sf (al ts ds)) (pT (r (al ts ds)))):(vZ (bL ts pre r)).Ok P f:=by
 refine ⟨fun B m lh w args vs K hrel hargs hsp=>?_,fun _ _ _ _ _ hk ⟨ds,d,p,r,X,h1,h2,h3,h4,h5,h6⟩=>⟨ds,d,p,r,X,h1,h2,h3,h4,h5,fun x new hx=>hk _ _ (h6 x new hx)⟩,fun _ _ _ _ ⟨_,_,_,_,_,_,_,_,_,⟨x,new,hx⟩,h6⟩=>h6 x new hx⟩
 obtain ⟨ds,d,p,r',X,h1,hX,h2,⟨h30,h3⟩,h5,h6⟩:=hsp
 simp only [bL,aaB,Prod.mk.injEq]at h2
 obtain ⟨rfl,rfl,rfl⟩:=h2
 have hty:=(jb ts ds [] [] ho h30).1
 rw [(fW ts ds [] [] h30).1]at h3 h5 h6
 have key2:=adQ (C:=fun ds'=>some ((ds',al ts ds),pre (al ts ds),r (al ts ds))) (P:=P) (f:=f) (un:=un) (K0:=fun v h=>obs (qd h [v]) (T.ret (ck.res (J:=J) (sqs (rF h v))))) (Q0:=pT (J:=J)) (fun w0 r v h hs=>⟨(w5 hs).1,by have h2:=(w5 hs).2;simp only[bu,pT]at h2;exact h2⟩) hT hE hI hf hn hc hd (fun ds' d' p' r' e he hp=>by
  simp only [aaB,Prod.mk.injEq]at e
  obtain ⟨rfl,rfl,rfl⟩:=e
  exact hg ds hp) (fun w0 ds' d' p' r' e he hp=>by
  simp only [aaB,Prod.mk.injEq]at e
  obtain ⟨rfl,rfl,rfl⟩:=e
  simp only at he
  subst he
  exact h w0 ds hp)
 exact key2.sound B m lh w args vs K hrel hargs ⟨al ts ds,_,_,_,X,eR ts ds args hty h1,hX,rfl,⟨rfl,h3⟩,h5,h6⟩
theorem Ao {ts:List Ty} {pre:List V->Prop} {r:List V->V} (hL:∀ ds,bp ts ds->pre (al ts ds)->∀ w0 lh args,bg w0 lh Nu.nil (al ts ds) args->∃ x new,vr w0 (lh++new) Nu.nil (r (al ts ds)) x) (ho:fF ts=true):∀ ds d p r',bL ts pre r ds=some (d,p,r')->d.1=d.2->p->∀ w0 lh args,bg w0 lh Nu.nil ds args->∃ x new,vr w0 (lh++new) Nu.nil r' x:=by
 intro ds d p r' h h1 h2 w0 lh args ha
 simp only [bL,aaB,Prod.mk.injEq]at h
 obtain ⟨rfl,rfl,rfl⟩:=h
 have hty:=(jb ts ds [] [] ho h1).1
 rw [(fW ts ds [] [] h1).1]at h2 ⊢
 exact hL ds hty h2 w0 lh args (eR ts ds args hty ha)
end
theorem F1 {w0:World} {lh:List ao} {e n:Nat} {f:aL} (hn:n<=9223372036854775807) (hel:∀ i,i<n->lX e (f i)=true/\(cu (f i)).all bm=true/\(f i).all V.fc=true):∃ x new,vr w0 (lh++new) Nu.nil (.sl n f) x:=by
 obtain ⟨x,new,hx⟩:=NV (e:=e) (n:=n) (f:=f) ⟨n,f,rfl,hn,fun i hi=>⟨(hel i hi).1,(hel i hi).2.1⟩,by simp[E8,cu]⟩ (fun i hi=>(hel i hi).2.2) w0 lh
 refine ⟨x,new,kK (fun k az ty hk=>?_) _ x hx⟩
 rw [acF]at hk
 split at hk
 ·rename_i hlt
  simp at hlt
  simp [hlt]at hk
 ·rename_i hge
  simp at hge
  rw [abv hge]
  simpa using hk
end Go.Dx
namespace Go.Dx
open Go.IntKind (i64 u64 u8)
open Go.Sx Go.Proofs
variable (n0:Nat) (f0:aL) (x0:Int) (s0:ByteArray) (n1:Nat) (f1:aL) (x1 x2:Int) (n3:Nat) (f3:aL) (x3 x4:Int) (n5:Nat) (f5:aL) (x7 x8:Int) (n9:Nat) (f9:aL) (x9:Int) (n11:Nat) (f11:aL) (x13 x14 x15:Int)
noncomputable section
def A6:aZ:=(35,.con Pw)::(142,.con GM)::(141,.con OI)::(111,.con Jw)::qi
theorem I2:aO Tryz.prog eqs its A6:=.con MU (.con Fh (.con GC (.con F2 (oI))))
inductive tT where
 |L0 (ia0:Int) (na1:Nat) (fa2:aL)
def Zm:tT->bD×List O×Option Ex
 |.L0 ia0 na1 fa2=>([(9,vi ia0),(8,vi (n0:Int)),(7,V.sl n0 (aa ac f0)),(4,V.gs 0 na1),(1,V.pd [vi x2])],[O.gl 1 na1 (aa ac fa2) 3],none)
def ahl:tT->JJ
 |.L0 ia0 na1 fa2=>(0,[])
def RG:T (ck JJ):=Tm JJ 1 3 A6 u0 af2 [V.sl n0 (aa ac f0),V.pd [vi x2]]
def Ck (cx:List Cx):Lp JJ:=fQ (eZ (RG n0 f0 x2) [])
def aiU:JJ->Lp JJ
 |(0,cx)=>Ck n0 f0 x2 cx
 |(_,cx)=>Ck n0 f0 x2 cx
def alV:LD JJ tT:=⟨ahl,aiU n0 f0 x2,Zm n0 f0 x2⟩
def Br:tT->RT tT
 |.L0 ia0 na1 fa2=>.br (decide (ia0<(n0:Int))) (.ob (dI ia0 n0) (.obt (.ob (decide (na1<=na1/\(na1+1)*8<=140737488355328)&&!Nat.beq 8 0) (.next [some (some 2)] (tT.L0 (wI (ia0+1)) (na1+1) (bh na1 (aa ac fa2) fun x=>[vi (wI (aw (f0 ia0.toNat)*x2))])) [⟨0,ac,na1+1,bh na1 (aa ac fa2) fun x=>[vi (wI (aw (f0 ia0.toNat)*x2))],eN (aC rfl _ _) (dN rfl _ rfl)⟩])))) (.ob (decide (na1<=na1)) (.ret (V.sl na1 (aa ac fa2))))
def Nc:RT tT:=dm (f0,x2) (.am n0 (.enter [some none] (tT.L0 0 0 (fun i=>[])) []))
theorem Yu:eS A6 u0 (alV n0 f0 x2) (RG n0 f0 x2) (Nc n0 f0 x2) (Br n0 f0 x2):=⟨bF,fun s=>by cases s<;>exact bF⟩
def eg (h:Int):Nat->List V:=fun i=>[vi (wI (aw (f0 i)*h))]
theorem I7 {n:Nat} {f g:aL} (h:∀ i,i<n->cu (f i)=cu (g i)):cz (.sl n f)=cz (.sl n g):=by
 simp only [cz]
 congr 1
 exact anf fun i hi=>by rw[h i (List.mem_range.1 hi)]
theorem ZI {ts:List Ty} {pre:List V->Prop} {r:List V->V} {Q:V->Prop} (hL:∀ ds,pre (al ts ds)->Q (r (al ts ds))):∀ ds d p r',bL ts pre r ds=some (d,p,r')->d.1=d.2->p->Q r':=by
 intro ds d p r' h h1 h2
 simp only [bL,aaB,Prod.mk.injEq]at h
 obtain ⟨rfl,rfl,rfl⟩:=h
 rw [(fW ts ds [] [] h1).1]at h2 ⊢
 exact hL ds h2
theorem Ik {a b:Nat} (h:a<b):Nat.blt a b=true:=adr h
theorem QS {a b:Nat} (h:b<=a):Nat.blt a b=false:=by
 cases hb:Nat.blt a b with
 |false=>rfl
 |true=>have:=aaF hb;omega
theorem akH (h24:n0<=1000):∀ k,k<=n0->∀ f:aL,(∀ j,j<k->al ac (f j)=eg f0 x2 j)->Ev (Br n0 f0 x2) (.L0 (k:Int) k f) (.sl n0 (aa ac (eg f0 x2))):=by
 refine dO fun k hk ih f hf=>?_
 refine Ev.of rfl ?_
 by_cases hlt:k<n0
 ·have hk1:wI ((k:Int)+1)=((k+1:Nat):Int):=by rw[wrapI (by omega) (by omega)];omega
  refine cI (dqt (by omega)) (aD (dqt (by omega)) (evObt (aD ?_ (aS ?_))))
  ·simp only[aaw];exact⟨dqt ⟨aaS _,by omega⟩,rfl⟩
  ·rw [hk1,acm]
   refine ih hlt _ fun j hj=>?_
   unfold bh
   by_cases hjk:j<k
   ·rw[Ik hjk];show al _ (al _ (f j))=_;rw[dP];exact hf j hjk
   ·have:j=k:=by omega
    subst this
    rw [QS (aaS _)];rfl
 ·have e:k=n0:=by omega
  subst e
  refine cS (ef (by omega)) (aD (dqt (aaS _)) (evRet ?_))
  exact I7 fun i hi=>by show cu (al _ (f i))=cu (al _ (eg f0 x2 i));rw[hf i hi];rfl
theorem Pg (hp:n0<=1000):aX (Ev (Br n0 f0 x2)) (Nc n0 f0 x2) (.sl n0 (aa ac (eg f0 x2))):=bw fun _=>aM (akH n0 f0 x2 hp 0 (acK _) _ fun j hj=>absurd hj (Nat.not_lt_zero _))
theorem ag4 (hp:n0<=1000):aX (Ev (Br n0 f0 x2)) (Nc n0 f0 x2) (.sl n0 (aa ac (eg (aa ac f0) x2))):=Pg n0 f0 x2 hp
def Yc:List Ty:=[.sl ac,.pd ac]
def am6:List V->Prop
 |[.sl n0 _,.pd [.int _ _]]=>n0<=1000
 |_=>False
def akK:List V->V
 |[.sl n0 f0,.pd [.int _ x2]]=>.sl n0 (aa ac (eg f0 x2))
 |_=>.any
def zf:av:=bL Yc am6 akK
theorem vq (f:aL) (h:Int) (i:Nat):lX 1 (aa ac (eg f h) i)=true/\(cu (aa ac (eg f h) i)).all bm=true/\(aa ac (eg f h) i).all V.fc=true:=by
 refine ⟨rfl,?_,rfl⟩
 show (cu [vi _]).all bm=true
 simp only [cu,cz,adT,bm,List.all_nil,aqB]
theorem HG:∀ ds d p r,zf ds=some (d,p,r)->d.1=d.2->p->Yo 1 r/\∃ n f,r=.sl n f/\∀ i,i<n->(f i).all V.fc=true:=ZI (Q:=fun r=>Yo 1 r/\∃ n f,r=.sl n f/\∀ i,i<n->(f i).all V.fc=true) fun ds hp=>by
 have hp:aN (aE ds)<=1000:=hp
 exact ⟨⟨_,_,rfl,(by omega:aN (aE ds)<=9223372036854775807),fun i hi=>⟨(vq _ _ i).1,(vq _ _ i).2.1⟩,(by simp only[cu,List.all_nil]:(cu []).all bm=true)⟩,_,_,rfl,fun i hi=>(vq _ _ i).2.2⟩
theorem Km:(vL 1 3 zf).Ok Tryz.prog 106:=ar5 I2 Tryz.func106 bb fun ds hp=>nd (Yu ..) (ag4 _ _ _ hp)
theorem M3:(vN zf).Ok Tryz.prog 106:=ak2 Km HG
theorem Hl:∀ ds d p r,zf ds=some (d,p,r)->d.1=d.2->p->okN r:=(aqC Km HG).2
def GI:aZ:=(106,.conN zf Hl)::A6
theorem Jy:aO Tryz.prog eqs its GI:=.conN M3 (I2)
def abR:RT Empty:=.obp (n1<=(1000:Nat)) (.obp (n3<=(1000:Nat)) (.ret (V.agg [V.str s0,V.sl n1 (aa ac f1),V.sl n3 (aa ac f3),V.sl n5 (aa [Ty.sl ac] f5),vi x7,vi x8,V.sl n1 (aa ac (eg (aa ac f1) x9)),V.sl n3 (aa ac (eg (aa ac f3) x9)),vi x9])))
theorem YF:cW cX (NK JJ GI u0 aiX [V.agg [V.str s0,V.sl n1 (aa ac f1),V.sl n3 (aa ac f3),V.sl n5 (aa [Ty.sl ac] f5),vi x7,vi x8],vi x9]) (abR s0 n1 f1 n3 f3 n5 f5 x7 x8 x9):=bF
theorem afg {ct:aZ} {f:FuncId} {fn:Func} {sf:aK} {un:kk} {ts:List Ty} {pre:List V->Prop} {r:List V->V} (hT:aO Tryz.prog eqs its ct) (hf:Tryz.prog.funcs[f]? = some fn) (hk:fnQ fn sf ts=(false,some sf,true,true)) (hg:∀ ds,pre (al ts ds)->cD (r (al ts ds))) (h:∀ ds,pre (al ts ds)->Run ct (NK JJ ct un sf (al ts ds)) (r (al ts ds))):(vZ (bL ts pre r)).Ok Tryz.prog f :=
 XV (J:=JJ) (un:=un) hT hE hI hf (yad hk).1 (yad hk).2.1 (yad hk).2.2.1 (yad hk).2.2.2 hg fun w0 ds hp=>h ds hp hT.dst w0
def AE:List Ty:=[.agg af,tI]
def aay:List V->Prop
 |[.agg [.str _,.sl n1 _,.sl n3 _,.sl _ _,.int _ _,.int _ _],.int _ _]=>n1<=1000/\n3<=1000
 |_=>False
def QK:List V->V
 |[.agg [.str s0,.sl n1 f1,.sl n3 f3,.sl n5 f5,.int k7 x7,.int k8 x8],.int _ x9]=>.agg [.str s0,.sl n1 f1,.sl n3 f3,.sl n5 f5,.int k7 x7,.int k8 x8,.sl n1 (aa ac (eg f1 x9)),.sl n3 (aa ac (eg f3 x9)),vi x9]
 |_=>.any
def GV:av:=bL AE aay QK
theorem aiQ (hp:n1<=1000/\n3<=1000):aX cL (abR s0 n1 f1 n3 f3 n5 f5 x7 x8 x9) (.agg [V.str s0,V.sl n1 (aa ac f1),V.sl n3 (aa ac f3),V.sl n5 (aa [Ty.sl ac] f5),vi x7,vi x8,V.sl n1 (aa ac (eg (aa ac f1) x9)),V.sl n3 (aa ac (eg (aa ac f3) x9)),vi x9]):=evObp hp.1 (evObp hp.2 (evRet rfl))
theorem fV (vs:List V):bM (al ac vs):=by
 show bM [V.int _ _]
 simp only [bM,cD,aqA]
theorem sE (vs:List V):bM (al [Ty.sl ac] vs):=by
 show bM [V.sl (aN (aE vs)) (aa ac (bO (aE vs)))]
 simp only [bM,cD,aoW]
 exact fun i hi=>fV _
theorem Ot (ds:List V):cD (QK (al AE ds)):=by
 show cD (.agg [V.str _,V.sl _ (aa ac _),V.sl _ (aa ac _),V.sl _ (aa [Ty.sl ac] _),V.int _ _,V.int _ _,V.sl _ (aa ac _),V.sl _ (aa ac _),V.int _ _])
 simp only [cD,bM,agn,aoW]
 exact ⟨fun i hi=>fV _,fun i hi=>fV _,fun i hi=>sE _,fun i hi=>fV _,fun i hi=>fV _⟩
theorem Bn:∀ ds d p r,GV ds=some (d,p,r)->d.1=d.2->p->∀ w0 lh args,bg w0 lh Nu.nil ds args->∃ x new,vr w0 (lh++new) Nu.nil r x:=Ao (fun ds hty hp w0 lh args ha=>by
 have hp:aN (aE (ae (da (aE ds))))<=1000/\aN (aE (ae (ae (da (aE ds)))))<=1000:=hp
 change bg w0 lh Nu.nil [V.agg [V.str _,V.sl _ _,V.sl _ _,V.sl _ _,V.int _ _,V.int _ _],V.int _ _] args at ha
 simp only [bg]at ha
 obtain ⟨a,as1,rfl,h1,b,bs,rfl,h2,rfl⟩:=ha
 rw [vr.eq_5]at h1
 obtain ⟨cs,rfl,h1⟩:=h1
 simp only [bg]at h1
 obtain ⟨c0,_,rfl,g0,c1,_,rfl,g1,c2,_,rfl,g2,c3,_,rfl,g3,c4,_,rfl,g4,c5,_,rfl,g5,rfl⟩:=h1
 obtain ⟨x6,new6,g6⟩:=F1 (w0:=w0) (lh:=lh) (e:=1) (n:=aN (aE (ae (da (aE ds))))) (f:=aa ac (eg (aa ac (bO (aE (ae (da (aE ds)))))) (aW ds))) (by omega) fun i hi=>vq _ _ i
 obtain ⟨x7,new7,g7⟩:=F1 (w0:=w0) (lh:=lh++new6) (e:=1) (n:=aN (aE (ae (ae (da (aE ds)))))) (f:=aa ac (eg (aa ac (bO (aE (ae (ae (da (aE ds))))))) (aW ds))) (by omega) fun i hi=>vq _ _ i
 have z:∀ (l t:List ao),uh l (l++t):=fun l t k as1 ty hk=>by rw[aaQ (List.getElem?_eq_some_iff.1 hk).1];exact hk
 have up:∀ v a,vr w0 lh Nu.nil v a->vr w0 (lh++(new6++new7)) Nu.nil v a:=fun v a h=>kK (z _ _) v a h
 refine ⟨.agg [c0,c1,c2,c3,c4,c5,x6,x7,ak.int .i64 (aW ds)],new6++new7,?_⟩
 show vr w0 _ Nu.nil (.agg [V.str _,V.sl _ _,V.sl _ _,V.sl _ _,V.int _ _,V.int _ _,V.sl _ _,V.sl _ _,V.int _ _]) _
 rw [vr.eq_5]
 simp only [bg]
 refine ⟨_,rfl,_,_,rfl,up _ _ g0,_,_,rfl,up _ _ g1,_,_,rfl,up _ _ g2,_,_,rfl,up _ _ g3,_,_,rfl,up _ _ g4,_,_,rfl,up _ _ g5,_,_,rfl,?_,_,_,rfl,?_,_,_,rfl,?_,rfl⟩
 ·rw[← amO];exact kK (z _ _) _ _ g6
 ·rw[← amO];exact g7
 ·simp only[vr]) rfl
theorem Gd:(vZ GV).Ok Tryz.prog 71:=afg Jy Tryz.func71 bb (fun ds _=>Ot ds) fun ds hp=>c9 (YF ..) (aiQ _ _ _ _ _ _ _ _ _ _ hp)
def yA:aZ:=(188,.inl ybe u0)::(71,.conZ GV Bn)::GI
theorem w9:aO Tryz.prog eqs its yA:=eT Tryz.func188 bb (.conZ Gd (Jy))
def abz:RT Empty:=.br (x0 != x0) (.ob (x0 != x0) (.ii (.obi (.ret (V.bool (bif !x1 != x1 then true else decide (x0<x1))))))) (.ret (V.bool (decide (x0<x1))))
theorem VB:cW cX (aV JJ yA u0 ON [vi x0,vi x1]) (abz x0 x1):=bF
def oK:Bool:=bif x0 != x0 then bif !x1 != x1 then true else decide (x0<x1) else decide (x0<x1)
def Ha:V:=.bool (oK x0 x1)
theorem adI:aX cL (abz x0 x1) (Ha x0 x1):=evBr (fun h0=>aD (by first|assumption|(fail)) (evObi (evObi (evObi (evRet (by unfold Ha oK;try rw[h0];rfl)))))) (fun h0=>evRet (by unfold Ha oK;try rw[h0];rfl))
def ab6:av:=bL aJ (fun _=>True) fun
 |[.int _ x0,.int _ x1]=>Ha x0 x1
 |_=>.any
theorem afk:cr ab6 172:=aY w9 fun _ hp=>c9 (VB ..) (adI _ _)
def abE:RT Empty:=.ret (V.bool (x0 != x0))
theorem ZN:cW cX (aV JJ yA u0 PF [vi x0]) (abE x0):=bF
def my:Bool:=x0 != x0
def T5:V:=.bool (my x0)
theorem ahD:aX cL (abE x0) (T5 x0):=evRet (by unfold T5 my;rfl)
def abi:av:=bL ac (fun _=>True) fun
 |[.int _ x0]=>T5 x0
 |_=>.any
theorem aeq:cr abi 173:=aY w9 fun _ hp=>c9 (ZN ..) (ahD _)
def ac9:RT Empty:=.cb (.obi (.br (!!yaa x0 0 200000) (.ob (!!yaa x0 0 200000) (.cb (.obi (.br (!!yaa x1 0 600) (.ob (!!yaa x1 0 600) (.cb (.ret (V.bool !yaa x2 0 1000)))) (.ret (V.kb true)))))) (.ret (V.kb true))))
theorem Vz:cW cX (aV JJ yA u0 QY [V.agg [vi x0,vi x1,vi x2]]) (ac9 x0 x1 x2):=bF
def gg:Bool:=bif !!yaa x0 0 200000 then bif !!yaa x1 0 600 then !yaa x2 0 1000 else true else true
def DX:V:=.bool (gg x0 x1 x2)
theorem aib:aX cL (ac9 x0 x1 x2) (DX x0 x1 x2):=au (evObt (evObi (evBr (fun h0=>aD (by first|assumption|(fail)) (au (evObt (evObi (evBr (fun h1=>aD (by first|assumption|(fail)) (au (evObt (evRet (by unfold DX gg;try rw[h0];try rw[h1];rfl))))) (fun h1=>evRet (by unfold DX gg;try rw[h0];try rw[h1];rfl))))))) (fun h0=>evRet (by unfold DX gg;try rw[h0];rfl)))))
def aaX:av:=bL [.agg aU] (fun _=>True) fun
 |[.agg [.int _ x0,.int _ x1,.int _ x2]]=>DX x0 x1 x2
 |_=>.any
theorem ahL:cr aaX 81:=aY w9 fun _ hp=>c9 (Vz ..) (aib _ _ _)
def o5:Int:=bif !!bf x0 0 200000 then bif !!bf x1 0 600 then bif !bf x2 0 1000 then 7 else 0 else 7 else 7
def ge:Bool:=bf x0 (-200000) 200000
def acP:RT Empty:=.cb (.iv (.br (!!yaa x4 1 30000) (.ob (!!yaa x4 1 30000) (.ob (!!yaa x4 1 30000) (.ob (!!yaa x4 1 30000) (.ob (!!yaa x4 1 30000) (.cb (.br (!dE 4 (aa ac (bc [vi x0,vi x1,vi x2,vi x3] 0 1)) (-200000) 200000) (.ret (vi 7)) (.iv (.obi (.br (bif decide (x1<x0) then true else decide (x3<x2)) (.ret (vi 2)) (.ret (vi 0))))))))))) (.ret (vi 7))))
theorem Xs:cW cX (aV JJ yA u0 ML [V.agg [vi x0,vi x1,vi x2,vi x3],vi x4]) (acP x0 x1 x2 x3 x4):=bF
def yae:Int:=bif !!yaa x4 1 30000 then bif !dE 4 (aa ac (bc [vi x0,vi x1,vi x2,vi x3] 0 1)) (-200000) 200000 then 7 else bif bif decide (x1<x0) then true else decide (x3<x2) then 2 else 0 else 7
def zj:V:=vi (yae x0 x1 x2 x3 x4)
theorem ahW:aX cL (acP x0 x1 x2 x3 x4) (zj x0 x1 x2 x3 x4):=au (evObt (evObi (evObi (evObi (evObi (evBr (fun h0=>aD (by first|assumption|(fail)) (aD (by first|assumption|(fail)) (aD (by first|assumption|(fail)) (aD (by first|assumption|(fail)) (au (evObt (evBr (fun h1=>evRet (by unfold zj yae;try rw[h0];try rw[h1];rfl)) (fun h1=>evObi (evObi (evObi (evObi (evObi (evBr (fun h2=>evRet (by unfold zj yae;try rw[h0];try rw[h1];try rw[h2];rfl)) (fun h2=>evRet (by unfold zj yae;try rw[h0];try rw[h1];try rw[h2];rfl))))))))))))))) (fun h0=>evRet (by unfold zj yae;try rw[h0];rfl))))))))
def acH:av:=bL [.agg gP,tI] (fun _=>True) fun
 |[.agg [.int _ x0,.int _ x1,.int _ x2,.int _ x3],.int _ x4]=>zj x0 x1 x2 x3 x4
 |_=>.any
theorem ah2:cr acH 70:=aY w9 fun _ hp=>c9 (Xs ..) (ahW _ _ _ _ _)
def aav:RT Empty:=dm (s0,n1,f1,n3,f3,n5,f5,x7,x8,x13) (.ob (decide ((0:Int)<=0/\0<(n9:Int))) (.am n9 (.ob (dI (wI ((n9:Int)-1)) n9) (.cb (.ii (.obj (yaa x14 (aw (f9 0)) (aw (f9 (wI ((n9:Int)-1)).toNat))) (decide ((0:Int)<=0/\0<(n11:Int))) (.iv (.asm (yaa x14 (aw (f9 0)) (aw (f9 (wI ((n9:Int)-1)).toNat))=true->n11<=9223372036854775807) (.ii (.obi (.obj (yaa x14 (aw (f9 0)) (aw (f9 (wI ((n9:Int)-1)).toNat))) (dI (wI ((n11:Int)-1)) n11) (.obi (.br (yaa x14 (aw (f9 0)) (aw (f9 (wI ((n9:Int)-1)).toNat))) (.ob (yaa x14 (aw (f9 0)) (aw (f9 (wI ((n9:Int)-1)).toNat))) (.ob (yaa x14 (aw (f9 0)) (aw (f9 (wI ((n9:Int)-1)).toNat))) (.ob (yaa x14 (aw (f9 0)) (aw (f9 (wI ((n9:Int)-1)).toNat))) (.cb (.ret (V.bool (yaa x15 (aw (f11 0)) (aw (f11 (wI ((n11:Int)-1)).toNat))))))))) (.ret (V.kb false)))))))))))))))
theorem aab:cW cX (aV JJ yA u0 NC [V.agg [V.str s0,V.sl n1 (aa ac f1),V.sl n3 (aa ac f3),V.sl n5 (aa [Ty.sl ac] f5),vi x7,vi x8,V.sl n9 (aa ac f9),V.sl n11 (aa ac f11),vi x13],vi x14,vi x15]) (aav s0 n1 f1 n3 f3 n5 f5 x7 x8 n9 f9 n11 f11 x13 x14 x15):=bF
def bJ:Bool:=bif yaa x14 (aw (f9 0)) (aw (f9 (wI ((n9:Int)-1)).toNat)) then yaa x15 (aw (f11 0)) (aw (f11 (wI ((n11:Int)-1)).toNat)) else false
def I6:V:=dm (s0,n1,f1,n3,f3,n5,f5,x7,x8,x13) (.bool (bJ n9 f9 n11 f11 x14 x15))
theorem ahO (hp:(1<=n9/\n9<=1000)/\(1<=n11/\n11<=1000)):aX cL (aav s0 n1 f1 n3 f3 n5 f5 x7 x8 n9 f9 n11 f11 x13 x14 x15) (I6 s0 n1 f1 n3 f3 n5 f5 x7 x8 n9 f9 n11 f11 x13 x14 x15):=aD (by first|assumption|((first|exact dqt (by omega)|(rw[wrapI (by omega) (by omega)];exact dqt (by omega))))) (evAsm (fun a0=>aD (by first|assumption|((first|exact dqt (by omega)|(rw[wrapI (by omega) (by omega)];exact dqt (by omega))))) (au (evObt (evObi (evObi (d5 (by first|assumption|((intro _;(first|exact dqt (by omega)|(rw[wrapI (by omega) (by omega)];exact dqt (by omega)))))) (evObi (evObi (evObi (evObi (evAsm (fun a0=>evObi (evObi (evObi (d5 (by first|assumption|((intro _;(first|exact dqt (by omega)|(rw[wrapI (by omega) (by omega)];exact dqt (by omega)))))) (evObi (evBr (fun h0=>aD (by first|assumption|((first|exact dqt (by omega)|(rw[wrapI (by omega) (by omega)];exact dqt (by omega))))) (aD (by first|assumption|((first|exact dqt (by omega)|(rw[wrapI (by omega) (by omega)];exact dqt (by omega))))) (aD (by first|assumption|((first|exact dqt (by omega)|(rw[wrapI (by omega) (by omega)];exact dqt (by omega))))) (au (evObt (evRet (by unfold I6 bJ;try rw[h0];rfl))))))) (fun h0=>evRet (by unfold I6 bJ;try rw[h0];rfl))))))))))))))))))))
def acZ:av:=bL [.agg [.str,.sl ac,.sl ac,.sl [.sl ac],tI,tI,.sl ac,.sl ac,tI],tI,tI] (fun
 |[.agg [.str s0,.sl n1 f1,.sl n3 f3,.sl n5 f5,.int _ x7,.int _ x8,.sl n9 f9,.sl n11 f11,.int _ x13],.int _ x14,.int _ x15]=>(1<=n9/\n9<=1000)/\(1<=n11/\n11<=1000)
 |_=>False) fun
 |[.agg [.str s0,.sl n1 f1,.sl n3 f3,.sl n5 f5,.int _ x7,.int _ x8,.sl n9 f9,.sl n11 f11,.int _ x13],.int _ x14,.int _ x15]=>I6 s0 n1 f1 n3 f3 n5 f5 x7 x8 n9 f9 n11 f11 x13 x14 x15
 |_=>.any
theorem afF:cr acZ 110:=aY w9 fun _ hp=>c9 (aab ..) (ahO _ _ _ _ _ _ _ _ _ _ _ _ _ _ _ _ hp)
end
end Go.Dx
namespace Go.Dx
noncomputable section
theorem ala {a b:Bool} (h:(a&&b)=true):a=true:=by cases a<;>simp_all
theorem amV {a b:Bool} (h:(a&&b)=true):b=true:=by cases a<;>simp_all
end
end Go.Dx
namespace Go.Dx
open Go.IntKind (i64 u64 u8)
open Go.Sx Go.Proofs
variable (n0:Nat) (f0:aL) (x0:Int) (s0:ByteArray) (n1:Nat) (f1:aL) (x1:Int) (s1:ByteArray) (n2:Nat) (f2:aL) (x2:Int) (n3:Nat) (f3:aL) (x3:Int) (n4:Nat) (f4:aL) (x4:Int) (n5:Nat) (f5:aL) (n6:Nat) (f6:aL) (x7 x8:Int) (n9:Nat) (f9:aL) (x9:Int) (n10:Nat) (f10:aL) (n11:Nat) (f11:aL) (n12:Nat) (f12:aL) (x13 x14 x15 x16:Int)
noncomputable section
def yP:aZ:=[(172,.con ab6),(173,.con abi),(81,.con aaX),(70,.con acH),(110,.con acZ),(71,.conZ GV Bn),(106,.conN zf Hl),(35,.con Pw),(142,.con GM),(141,.con OI),(111,.con Jw),(63,.con Qy),(14,.con yaP),(15,.con Mg),(34,.con R8),(45,.con Qp),(73,.con S9),(22,.con PP),(46,.con ahe),(39,.con S7),(77,.con Sc),(74,.con OA),(61,.con TN),(48,.con PX),(49,.con MH),(50,.con Ri),(76,.con UD),(60,.con SP),(47,.con PV),(19,.con Si),(75,.con Qc),(41,.con SU),(66,.con Qh),(83,.con yaN),(86,.con Rp),(88,.con JE),(85,.con Pd),(115,.con IM),(116,.con Im),(105,.con NG),(46,.con afZ),(77,.con M1),(54,.con Rf),(40,.con Po),(138,.con TK),(117,.con NT),(52,.con HA),(89,.con O3),(43,.con Uo),(84,.con Tz),(87,.con PN),(53,.con RN),(38,.con OR),(29,.con C30),(27,.con C32),(56,.con C80),(55,.con C44),(67,.con C23),(90,.con C62),(96,.con C68),(91,.con C63),(97,.con C69),(128,.inl yU u0),(127,.inl yC u0),(126,.con EG),(124,.con Fp),(150,.con F6),(92,.con C64),(94,.con C66),(122,.con D7),(93,.con C65),(95,.con C67),(98,.con C53),(123,.con C45),(125,.con C90),(130,.con yay),(132,.con B7),(46,.con C99),(149,.con C8),(151,.con B3),(152,.con DL),(121,.con CW),(129,.con C3),(131,.con Cn),(77,.con DK),(136,.con C4),(147,.con CU),(154,.con D6),(155,.con BL),(59,.con C78),(100,.con C54),(99,.con C48),(135,.con CS),(57,.con C81),(79,.con C84),(153,.con C85),(80,.con DG),(133,.con Ds),(78,.con Zr),(169,.con BZ),(148,.con CV),(113,.con Jr)]
theorem GH:aO Tryz.prog eqs its yP:=.con afk (.con aeq (.con ahL (.con ah2 (.con afF (.conZ Gd (.conN M3 (.con MU (.con Fh (.con GC (.con F2 (.con NQ (.con UG (.con TY (.con EQ (.con QW (.con Mu (.con N2 (.con ab0 (.con Pl (.con PW (.con Fy (.con QP (.con Oi (.con Qq (.con R1 (.con yaX (.con Ti (.con SO (.con SF (.con EY (.con UC (.con Gy (.con R4 (.con UL (.con Ej (.con Pp (.con Gr (.con FG (.con SI (.con acv (.con MM (.con FP (.con Ez (.con TE (.con Ox (.con GB (.con OG (.con Pb (.con RF (.con Sz (.con Gn (.con EO (.con Kz (.con KT (.con KU (.con Ln (.con Gw (.con LX (.con Lw (.con Lf (.con Lz (eT Tryz.func128 bb (eT Tryz.func127 bb (.con yB (.con zp (.con zt (.con KI (.con K9 (.con vY (.con E0 (.con F8 (.con EM (.con Ef (.con Fo (.con xt (.con vV (.con FB (.con vd (.con wJ (.con vD (.con wF (.con wq (.con xn (.con vT (.con uZ (.con vt (.con wv (.con xc (.con EH (.con EV (.con Gs (.con wX (.con ED (.con Fa (.con EC (.con xi (.con vn (.con yaw (.con vl (.con yQ (.con Ui (.nil))))))))))))))))))))))))))))))))))))))))))))))))))))))))))))))))))))))))))))))))))))))))))))))))))))))
def mR:Int:=bif !!bf x4 1 30000 then bif !!ge x0 then bif !!ge x1 then bif !!ge x2 then bif !ge x3 then 7 else bif bif decide (x1<x0) then true else decide (x3<x2) then 2 else 0 else 7 else 7 else 7 else 7
inductive rG where
 |L0 (ia0 ia1:Int)
def Wg:rG->bD×List O×Option Ex
 |.L0 ia0 ia1=>([(8,vi ia0),(7,vi ia1),(6,vi (n0:Int)),(0,V.sl n0 (aa ac f0)),(1,vi x2)],[],none)
def agJ:rG->JJ
 |.L0 ia0 ia1=>(0,[])
def S4:T (ck JJ):=aV JJ yP u0 PY [V.sl n0 (aa ac f0),vi x2]
def yar (cx:List Cx):Lp JJ:=fQ (eZ (S4 n0 f0 x2) [])
def aiF:JJ->Lp JJ
 |(0,cx)=>yar n0 f0 x2 cx
 |(_,cx)=>yar n0 f0 x2 cx
def akU:LD JJ rG:=⟨agJ,aiF n0 f0 x2,Wg n0 f0 x2⟩
def wR:rG->RT rG
 |.L0 ia0 ia1=>.br (decide (ia1<ia0)) (.obt (.ob (dI (wI ((u64.wrap (wI (ia1+ia0))).fdiv (2 ^ 1))) n0) (.cb (.br (oK (aw (f0 (wI ((u64.wrap (wI (ia1+ia0))).fdiv (2 ^ 1))).toNat)) x2) (.next [] (rG.L0 ia0 (wI (wI ((u64.wrap (wI (ia1+ia0))).fdiv (2 ^ 1))+1))) []) (.next [] (rG.L0 (wI ((u64.wrap (wI (ia1+ia0))).fdiv (2 ^ 1))) ia1) []))))) (.ii (.obj (decide (ia1<(n0:Int))) (dI ia1 n0) (.iv (.ii (.obj (decide (ia1<(n0:Int))&&!aw (f0 ia1.toNat)==x2) (dI ia1 n0) (.obi (.br (decide (ia1<(n0:Int))&&!aw (f0 ia1.toNat)==x2) (.ob (decide (ia1<(n0:Int))&&!aw (f0 ia1.toNat)==x2) (.cb (.br (my (aw (f0 ia1.toNat))) (.ob (my (aw (f0 ia1.toNat))) (.cb (.obi (.ret (V.tup [vi ia1,V.bool (bif decide (ia1<(n0:Int)) then my x2 else false)]))))) (.obi (.ret (V.tup [vi ia1,V.bool (bif decide (ia1<(n0:Int)) then false else false)])))))) (.obi (.obj (decide (ia1<(n0:Int))&&!aw (f0 ia1.toNat)==x2) (false) (.ii (.br (aw (f0 ia1.toNat)==x2) (.obi (.ret (V.tup [vi ia1,V.bool (bif decide (ia1<(n0:Int)) then true else false)]))) (.obi (.bry (decide (ia1<(n0:Int))) (.ret (V.tup [vi ia1,V.kb false])))))))))))))))
def OY:RT rG:=dm (f0,x2) (.am n0 (.enter [] (rG.L0 ((n0:Int)) 0) []))
theorem ZO:eS yP u0 (akU n0 f0 x2) (S4 n0 f0 x2) (OY n0 f0 x2) (wR n0 f0 x2):=⟨bF,fun s=>by cases s<;>exact bF⟩
def bsF (f:Nat->Int) (t:Int):Nat->Nat->Nat->Nat
 |0,i,_=>i
 |d+1,i,j=>bif Nat.blt i j then bif decide (f ((i+j) / 2)<t) then bsF f t d ((i+j) / 2+1) j else bsF f t d i ((i+j) / 2) else i
def bs57:Nat:=bsF (fun k=>aw (f0 k)) x2 n0 0 n0
def jE (n0:Nat) (f0:aL) (x2:Int):Int:=(bs57 n0 f0 x2:Int)
def jz (n0:Nat) (f0:aL) (x2:Int):Bool:=bif decide ((bs57 n0 f0 x2:Int)<(n0:Int)) then aw (f0 (bs57 n0 f0 x2))==x2 else false
theorem aoF {i j:Nat} (h:i+j<=2000):wI ((u64.wrap (wI ((i:Int)+(j:Int)))).fdiv (2 ^ 1))=(((i+j) / 2:Nat):Int):=by
 rw [wrapI (x:=(i:Int)+(j:Int)) (by omega) (by omega)]
 have:u64.wrap ((i:Int)+(j:Int))=(i:Int)+(j:Int):=by
  simp only [IntKind.wrap,IntKind.bits,IntKind.signed,Bool.false_and]
  rw [aaT (by simp)]
  omega
 rw [this,ajN _ (by decide),wrapI (by omega) (by omega)]
 omega
theorem akv (x:Int):my x=false:=by unfold my;simp
theorem anQ {b:Bool} (h:(!b)=true):b=false:=by cases b<;>first|rfl|cases h
theorem ajg (x y:Int):oK x y=decide (x<y):=by
 unfold oK
 simp
theorem aoe (hn:n0<=1000):∀ d i j:Nat,j-i<=d->i<=j->j<=n0->bsF (fun k=>aw (f0 k)) x2 d i j=bs57 n0 f0 x2->Ev (wR n0 f0 x2) (.L0 (j:Int) (i:Int)) (.tup [vi (jE n0 f0 x2),.bool (jz n0 f0 x2)]):=by
 intro d
 have exit:∀ i j:Nat,j<=i->j<=n0->i<=j->i=bs57 n0 f0 x2->Ev (wR n0 f0 x2) (.L0 (j:Int) (i:Int)) (.tup [vi (jE n0 f0 x2),.bool (jz n0 f0 x2)]):=by
  intro i j h1 h2 h3 e
  refine Ev.of rfl (cS (ef (by omega)) ?_)
  refine evObi (evObi (d5 (fun h=>dqt (by have:=abg h;omega)) ?_))
  refine evObi (evObi (evObi (evObi (evObi (evObi (d5 (fun h=>dqt (by have:=abg (ala h);omega)) (evObi ?_)))))))
  have R:∀ b,b=jz n0 f0 x2->cz (V.tup [vi (i:Int),V.bool b])=cz (V.tup [vi (jE n0 f0 x2),V.bool (jz n0 f0 x2)]):=fun b hb=>by
   unfold jE;rw[← e,hb]
  have G:jz n0 f0 x2=bif decide ((i:Int)<(n0:Int)) then aw (f0 i)==x2 else false:=by unfold jz;rw[← e]
  rw [acm]
  refine evBr (fun h=>aD h (au (evObt (cS (akv _) (evObi (evRet (R _ ?_))))))) (fun h=>?_)
  ·rw[G,show(aw (f0 i)==x2)=false from anQ (amV h)]
  ·refine evObi (d5 (fun h'=>absurd (h'.symm.trans h) (by decide)) (evObi (evObi (evBr (fun h2=>evObi (evRet (R _ ?_))) (fun h2=>?_)))))
   ·rw[G,show(aw (f0 i)==x2)=true from h2]
   ·have h3:decide ((i:Int)<(n0:Int))=false:=by
     cases hd:decide ((i:Int)<(n0:Int)) with
     |false=>rfl
     |true=>rw[hd,h2]at h;cases h
    refine evObi (am4 h3 (evRet ?_))
    exact R false (by rw[G,h3];rfl)
 induction d with
 |zero=>intro i j h1 h2 h3 e;exact exit i j (by omega) h3 h2 e
 | succ d ih =>
   intro i j h1 h2 h3 e
   by_cases hlt:i<j
   ·refine Ev.of rfl (cI (dqt (by omega)) (evObt ?_))
    rw [aoF (by omega),acm,ajg]
    refine aD (dqt (by omega)) (au (evObt (evBr (fun h=>aS ?_) (fun h=>aS ?_))))
    ·have e':bsF (fun k=>aw (f0 k)) x2 d ((i+j) / 2+1) j=bs57 n0 f0 x2:=by
      rw [← e];show _=bif Nat.blt i j then _ else _
      rw [Ik hlt,h];rfl
     have:=ih ((i+j) / 2+1) j (by omega) (by omega) h3 e'
     rwa [show wI ((((i+j) / 2:Nat):Int)+1)=(((i+j) / 2+1:Nat):Int) by rw[wrapI (by omega) (by omega)];omega]
    ·have e':bsF (fun k=>aw (f0 k)) x2 d i ((i+j) / 2)=bs57 n0 f0 x2:=by
      rw [← e];show _=bif Nat.blt i j then _ else _
      rw [Ik hlt,h];rfl
     exact ih i ((i+j) / 2) (by omega) (by omega) (by omega) e'
   ·refine exit i j (by omega) h3 h2 ?_
    rw [← e];show _=bif Nat.blt i j then _ else _
    rw [QS (by omega)];rfl
theorem Pm (hp:n0<=1000):aX (Ev (wR n0 f0 x2)) (OY n0 f0 x2) (.tup [vi (jE n0 f0 x2),.bool (jz n0 f0 x2)]):=bw fun _=>aM (aoe n0 f0 x2 hp n0 0 n0 (by omega) (acK _) (aaS _) rfl)
theorem afd (hp:n0<=1000):aX (Ev (wR n0 f0 x2)) (OY n0 f0 x2) (.tup [vi (jE n0 (aa ac f0) x2),.bool (jz n0 (aa ac f0) x2)]):=Pm n0 f0 x2 hp
def adu:av:=bL [.sl ac,tI] (fun
 |[.sl n0 f0,.int _ x2]=>n0<=1000
 |_=>False) fun
 |[.sl n0 f0,.int _ x2]=>.tup [vi (jE n0 f0 x2),.bool (jz n0 f0 x2)]
 |_=>.any
theorem agu:cr adu 161:=aY GH fun _ hp=>nd (ZO ..) (afd _ _ _ hp)
inductive tq where
 |L0 (ia0 ia1 ia2:Int)
def Xj (x0 x1:Int) (n2:Nat) (f2:aL):tq->bD×List O×Option Ex
 |.L0 ia0 ia1 ia2=>([(9,vi ia0),(8,vi (n2:Int)),(7,V.sl n2 (aa aJ f2)),(4,V.pl 0 0),(2,V.pl 1 0)],[O.cells [vi 0,vi 0] 44,O.cells [vi ia1,vi ia2] 44],none)
def aeB:tq->JJ
 |.L0 ia0 ia1 ia2=>(0,[])
def Q1:T (ck JJ):=aV JJ yP u0 gG [V.agg [vi x0,vi x1],V.sl n2 (aa aJ f2)]
def BH (cx:List Cx):Lp JJ:=fQ (eZ (Q1 x0 x1 n2 f2) [])
def adD:JJ->Lp JJ
 |(0,cx)=>BH x0 x1 n2 f2 cx
 |(_,cx)=>BH x0 x1 n2 f2 cx
def alI:LD JJ tq:=⟨aeB,adD x0 x1 n2 f2,Xj x0 x1 n2 f2⟩
def Aq (x0 x1:Int) (n2:Nat) (f2:aL):tq->RT tq
 |.L0 ia0 ia1 ia2=>.br (decide (ia0<(n2:Int))) (.ob (dI ia0 n2) (.next [some (some 0),some (some 1)] (tq.L0 (wI (ia0+1)) (min ia1 (aw (f2 ia0.toNat))) (max ia2 (aW (f2 ia0.toNat)))) [])) (.ret (V.agg [vi ia1,vi ia2]))
def Mo:RT tq:=dm f2 (.am n2 (.enter [some (some 1),some (some 0)] (tq.L0 0 x0 x1) []))
theorem XQ:eS yP u0 (alI x0 x1 n2 f2) (Q1 x0 x1 n2 f2) (Mo x0 x1 n2 f2) (Aq x0 x1 n2 f2):=⟨bF,fun s=>by cases s<;>exact bF⟩
def dt:Int:=mnZ (fun i=>aw (f2 i)) x0 n2
def du:Int:=B8 (fun i=>aW (f2 i)) x1 n2
theorem Su:aX (Ev (Aq x0 x1 n2 f2)) (Mo x0 x1 n2 f2) (.agg [vi (dt x0 n2 f2),vi (du x1 n2 f2)]):=by
 refine bw fun hn=>aM ?_
 refine anM hn (P:=fun x=>Ev (Aq x0 x1 n2 f2) (.L0 x (mnZ (fun i=>aw (f2 i)) x0 x.toNat) (B8 (fun i=>aW (f2 i)) x1 x.toNat)) (.agg [vi (dt x0 n2 f2),vi (du x1 n2 f2)])) (fun i hlt nx=>?_) (Ev.of rfl (jX (evRet rfl)))
 rw [show(wI ((i:Int)+1)).toNat=i+1 by rw[tB hlt hn];rfl]at nx
 exact Ev.of rfl (kS hlt (gX hlt (aS nx)))
theorem agb:aX (Ev (Aq x0 x1 n2 f2)) (Mo x0 x1 n2 f2) (.agg [vi (dt x0 n2 (aa aJ f2)),vi (du x1 n2 (aa aJ f2))]):=Su x0 x1 n2 f2
def aa8:av:=bL [.agg aJ,.sl aJ] (fun _=>True) fun
 |[.agg [.int _ x0,.int _ x1],.sl n2 f2]=>.agg [vi (dt x0 n2 f2),vi (du x1 n2 f2)]
 |_=>.any
theorem ad0:cr aa8 107:=aY GH fun _ hp=>nd (XQ ..) (agb _ _ _ _)
section
variable (n0:Nat) (f0:aL) (x2 x3 x4:Int) (hn:n0<=1000)
include hn
end
def H9:aZ:=(161,.con adu)::(107,.con aa8)::yP
theorem Ff:aO Tryz.prog eqs its H9:=.con agu (.con ad0 (GH))
def adf:RT Empty:=.obp (n0<=(1000:Nat)) (.obt (.am n0 (.ret (vi (max 0 (min (wI (jE n0 (aa ac f0) (wI (x2+1))-1)) (wI ((n0:Int)-2))))))))
theorem aad:cW cX (aV JJ H9 u0 ql [V.sl n0 (aa ac f0),vi x2]) (adf n0 f0 x2):=bF
def aR:Int:=max 0 (min (wI (jE n0 (aa ac f0) (wI (x2+1))-1)) (wI ((n0:Int)-2)))
def Of:V:=vi (aR n0 f0 x2)
theorem ahH (hp:n0<=1000):aX cL (adf n0 f0 x2) (Of n0 f0 x2):=evObp (by first|assumption|(exact hp)) (evObt (evAsm (fun a0=>evRet (by unfold Of aR;rfl))))
def acu:av:=bL [.sl ac,tI] (fun
 |[.sl n0 f0,.int _ x2]=>n0<=1000
 |_=>False) fun
 |[.sl n0 f0,.int _ x2]=>Of n0 f0 x2
 |_=>.any
theorem aek:cr acu 139:=aY Ff fun _ hp=>c9 (aad ..) (ahH _ _ _ hp)
def EB (x0:Int) (n6:Nat) (f6:aL) (n12:Nat) (f12:aL) (x15:Int):Prop:=(0<=x0/\x0<(n6:Int))/\(0<=x15/\x15+1<(aN (aE (f6 x0.toNat)):Int)/\x15+1<(n12:Int)/\n12<=1000)/\wI (aw (f12 (x15+1).toNat)-aw (f12 x15.toNat))≠0
theorem EB.w {x0:Int} {n6:Nat} {f6:aL} {n12:Nat} {f12:aL} {x15:Int} (h:EB x0 n6 f6 n12 f12 x15):wI (x15+1)=x15+1:=by
 obtain ⟨_,h2,_⟩:=h
 exact wrapI (by omega) (by omega)
def aba:RT Empty:=dm (s1,n2,f2,n4,f4,x8,x9,n10,f10,x14) (.ob (dI x0 n6) (.ob (decide (0<=x15/\x15<(↑(aN (aE (f6 x0.toNat))):Int))) (.cb (.ob (decide (0<=wI (x15+1)/\wI (x15+1)<(↑(aN (aE (f6 x0.toNat))):Int))) (.cb (.ob (dI x15 n12) (.ob (dI (wI (x15+1)) n12) (.obp (wI (aw (f12 (wI (x15+(1:Int))).toNat)-aw (f12 x15.toNat))=(0:Int)->False) (.obt (.ret (V.agg [vi (oF (aw (bO (aE (f6 x0.toNat)) x15.toNat)) (aw (bO (aE (f6 x0.toNat)) (wI (x15+1)).toNat)) (aw (f12 x15.toNat)) (aw (f12 (wI (x15+1)).toNat)) x16),vi (oJ (aw (bO (aE (f6 x0.toNat)) x15.toNat)) (aw (bO (aE (f6 x0.toNat)) (wI (x15+1)).toNat)) (aw (f12 x15.toNat)) (aw (f12 (wI (x15+1)).toNat)) x16)])))))))))))
theorem XK:cW cX (aV JJ H9 u0 mq [vi x0,V.pd [V.str s1,V.sl n2 (aa ac f2),V.sl n4 (aa ac f4),V.sl n6 (aa [Ty.sl ac] f6),vi x8,vi x9,V.sl n10 (aa ac f10),V.sl n12 (aa ac f12),vi x14],V.pd [vi x15],V.pd [vi x16]]) (aba x0 s1 n2 f2 n4 f4 n6 f6 x8 x9 n10 f10 n12 f12 x14 x15 x16):=bF
def oE:Int:=oF (aw (bO (aE (f6 x0.toNat)) x15.toNat)) (aw (bO (aE (f6 x0.toNat)) (wI (x15+1)).toNat)) (aw (f12 x15.toNat)) (aw (f12 (wI (x15+1)).toNat)) x16
def oQ:Int:=oJ (aw (bO (aE (f6 x0.toNat)) x15.toNat)) (aw (bO (aE (f6 x0.toNat)) (wI (x15+1)).toNat)) (aw (f12 x15.toNat)) (aw (f12 (wI (x15+1)).toNat)) x16
def Tx:V:=dm (s1,n2,f2,n4,f4,n6,x8,x9,n10,f10,n12,x14) (.agg [vi (oE x0 f6 f12 x15 x16),vi (oQ x0 f6 f12 x15 x16)])
theorem ahZ (hp:EB x0 n6 f6 n12 f12 x15):aX cL (aba x0 s1 n2 f2 n4 f4 n6 f6 x8 x9 n10 f10 n12 f12 x14 x15 x16) (Tx x0 s1 n2 f2 n4 f4 n6 f6 x8 x9 n10 f10 n12 f12 x14 x15 x16):=aD (by first|assumption|((try rw[hp.w]);exact dqt (by obtain⟨h1,h2,h3⟩:=hp;omega))) (aD (by first|assumption|((try rw[hp.w]);exact dqt (by obtain⟨h1,h2,h3⟩:=hp;omega))) (au (evObt (aD (by first|assumption|((try rw[hp.w]);exact dqt (by obtain⟨h1,h2,h3⟩:=hp;omega))) (au (evObt (aD (by first|assumption|((try rw[hp.w]);exact dqt (by obtain⟨h1,h2,h3⟩:=hp;omega))) (aD (by first|assumption|((try rw[hp.w]);exact dqt (by obtain⟨h1,h2,h3⟩:=hp;omega))) (evObp (by first|assumption|((rw[hp.w];exact hp.2.2))) (evObt (evRet (by unfold Tx oE oQ;rfl))))))))))))
def acO:av:=bL [tI,.pd [.str,.sl ac,.sl ac,.sl [.sl ac],tI,tI,.sl ac,.sl ac,tI],.pd ac,.pd ac] (fun
 |[.int _ x0,.pd [.str s1,.sl n2 f2,.sl n4 f4,.sl n6 f6,.int _ x8,.int _ x9,.sl n10 f10,.sl n12 f12,.int _ x14],.pd [.int _ x15],.pd [.int _ x16]]=>EB x0 n6 f6 n12 f12 x15
 |_=>False) fun
 |[.int _ x0,.pd [.str s1,.sl n2 f2,.sl n4 f4,.sl n6 f6,.int _ x8,.int _ x9,.sl n10 f10,.sl n12 f12,.int _ x14],.pd [.int _ x15],.pd [.int _ x16]]=>Tx x0 s1 n2 f2 n4 f4 n6 f6 x8 x9 n10 f10 n12 f12 x14 x15 x16
 |_=>.any
theorem afx:cr acO 140:=aY Ff fun _ hp=>c9 (XK ..) (ahZ _ _ _ _ _ _ _ _ _ _ _ _ _ _ _ _ _ hp)
def Mm:aZ:=(139,.con acu)::(140,.con acO)::H9
theorem RH:aO Tryz.prog eqs its Mm:=.con aek (.con afx (Ff))
def mI:Prop:=(2<=n9/\n9<=1000)/\(2<=n11/\n11<=1000)/\(n9<=n5)/\(∀ i:Nat,i<n5->n11<=aN (aE (f5 i)))/\(∀ i:Nat,i+1<n9->wI (aw (f9 (i+1))-aw (f9 i))≠0)/\(∀ i:Nat,i+1<n11->wI (aw (f11 (i+1))-aw (f11 i))≠0)
theorem mI.a {n5:Nat} {f5:aL} {n9:Nat} {f9:aL} {n11:Nat} {f11:aL} (h:mI n5 f5 n9 f9 n11 f11):2<=n9/\n9<=1000:=h.1
theorem mI.b {n5:Nat} {f5:aL} {n9:Nat} {f9:aL} {n11:Nat} {f11:aL} (h:mI n5 f5 n9 f9 n11 f11):2<=n11/\n11<=1000:=h.2.1
theorem mI.c {n5:Nat} {f5:aL} {n9:Nat} {f9:aL} {n11:Nat} {f11:aL} (h:mI n5 f5 n9 f9 n11 f11):n9<=n5:=h.2.2.1
theorem mI.d {n5:Nat} {f5:aL} {n9:Nat} {f9:aL} {n11:Nat} {f11:aL} (h:mI n5 f5 n9 f9 n11 f11):∀ i:Nat,i<n5->n11<=aN (aE (f5 i)):=h.2.2.2.1
theorem mI.e {n5:Nat} {f5:aL} {n9:Nat} {f9:aL} {n11:Nat} {f11:aL} (h:mI n5 f5 n9 f9 n11 f11):∀ i:Nat,i+1<n9->wI (aw (f9 (i+1))-aw (f9 i))≠0:=h.2.2.2.2.1
theorem mI.g {n5:Nat} {f5:aL} {n9:Nat} {f9:aL} {n11:Nat} {f11:aL} (h:mI n5 f5 n9 f9 n11 f11):∀ i:Nat,i+1<n11->wI (aw (f11 (i+1))-aw (f11 i))≠0:=h.2.2.2.2.2
theorem pU {n:Nat} (f:aL) (x:Int) (h:2<=n/\n<=1000):0<=aR n f x/\aR n f x+1<(n:Int):=by
 unfold aR
 rw [wrapI (x:=(n:Int)-2) (by omega) (by omega)]
 generalize wI _=q
 omega
section
variable {n5:Nat} {f5:aL} {n9:Nat} {f9:aL} {n11:Nat} {f11:aL} (hp:mI n5 f5 n9 f9 n11 f11) (x14 x15:Int)
include hp
theorem vwW:wI (aR n9 (aa ac f9) x14+1)=aR n9 (aa ac f9) x14+1:=by
 have:=pU (aa ac f9) x14 hp.a
 have:=hp.a
 exact wrapI (by omega) (by omega)
theorem akp (y:Int) (h:0<=y/\y<(n9:Int)):EB y n5 f5 n11 f11 (aR n11 (aa ac f11) x15):=by
 have q:=pU (aa ac f11) x15 hp.b
 have hb:=hp.b
 have hc:=hp.c
 have hd:=hp.d y.toNat (by omega)
 have hg:=hp.g (aR n11 (aa ac f11) x15).toNat (by omega)
 refine ⟨by omega,⟨q.1,by omega,q.2,by omega⟩,?_⟩
 rw [show(aR n11 (aa ac f11) x15+1).toNat=(aR n11 (aa ac f11) x15).toNat+1 by omega]
 exact hg
theorem zb:EB (aR n9 (aa ac f9) x14) n5 f5 n11 f11 (aR n11 (aa ac f11) x15):=by
 have p:=pU (aa ac f9) x14 hp.a
 exact akp hp x15 _ (by omega)
theorem zq:EB (wI (aR n9 (aa ac f9) x14+1)) n5 f5 n11 f11 (aR n11 (aa ac f11) x15):=by
 have p:=pU (aa ac f9) x14 hp.a
 rw [vwW hp]
 exact akp hp x15 _ (by omega)
theorem al1:decide (0<=aR n9 (aa ac f9) x14/\aR n9 (aa ac f9) x14<(n9:Int))=true:=by
 have p:=pU (aa ac f9) x14 hp.a
 exact dqt (by omega)
theorem alO:decide (0<=wI (aR n9 (aa ac f9) x14+1)/\wI (aR n9 (aa ac f9) x14+1)<(n9:Int))=true:=by
 have p:=pU (aa ac f9) x14 hp.a
 rw [vwW hp]
 exact dqt (by omega)
theorem vw9:wI (aw (f9 (wI (aR n9 (aa ac f9) x14+1)).toNat)-aw (f9 (aR n9 (aa ac f9) x14).toNat))≠0:=by
 have p:=pU (aa ac f9) x14 hp.a
 rw [vwW hp,show(aR n9 (aa ac f9) x14+1).toNat=(aR n9 (aa ac f9) x14).toNat+1 by omega]
 exact hp.e _ (by omega)
theorem Me:(1<=n9/\n9<=1000)/\1<=n11/\n11<=1000:=by
 have:=hp.a
 have:=hp.b
 omega
end
def adi:RT Empty:=dm (s0,n1,f1,n3,f3,x8,x13) (.obp (((1:Nat)<=n9/\n9<=(1000:Nat))/\(1:Nat)<=n11/\n11<=(1000:Nat)) (.obt (.br (!bJ n9 (aa ac f9) n11 (aa ac f11) x14 x15) (.ret (V.agg [vi 0,vi x7])) (.obp (n9<=(1000:Nat)) (.obt (.obp (n11<=(1000:Nat)) (.obt (.obp (((0:Int)<=aR n9 (aa ac f9) x14/\aR n9 (aa ac f9) x14<(n5:Int))/\((0:Int)<=aR n11 (aa ac f11) x15/\aR n11 (aa ac f11) x15+(1:Int)<(↑(aN (aE (f5 (aR n9 (aa ac f9) x14).toNat))):Int)/\aR n11 (aa ac f11) x15+(1:Int)<(n11:Int)/\n11<=(1000:Nat))/\wI (aw (f11 (aR n11 (aa ac f11) x15+(1:Int)).toNat)-aw (f11 (aR n11 (aa ac f11) x15).toNat))≠(0:Int)) (.obt (.obp (((0:Int)<=wI (aR n9 (aa ac f9) x14+(1:Int))/\wI (aR n9 (aa ac f9) x14+(1:Int))<(n5:Int))/\((0:Int)<=aR n11 (aa ac f11) x15/\aR n11 (aa ac f11) x15+(1:Int)<(↑(aN (aE (f5 (wI (aR n9 (aa ac f9) x14+(1:Int))).toNat))):Int)/\aR n11 (aa ac f11) x15+(1:Int)<(n11:Int)/\n11<=(1000:Nat))/\wI (aw (f11 (aR n11 (aa ac f11) x15+(1:Int)).toNat)-aw (f11 (aR n11 (aa ac f11) x15).toNat))≠(0:Int)) (.obt (.ob (dI (aR n9 (aa ac f9) x14) n9) (.ob (dI (wI (aR n9 (aa ac f9) x14+1)) n9) (.obp (wI (aw (f9 (wI (aR n9 (aa ac f9) x14+(1:Int))).toNat)-aw (f9 (aR n9 (aa ac f9) x14).toNat))=(0:Int)->False) (.obt (.ret (V.agg [vi (oF (oE (aR n9 (aa ac f9) x14) (aa [Ty.sl ac] f5) (aa ac f11) (aR n11 (aa ac f11) x15) x15) (oE (wI (aR n9 (aa ac f9) x14+1)) (aa [Ty.sl ac] f5) (aa ac f11) (aR n11 (aa ac f11) x15) x15) (aw (f9 (aR n9 (aa ac f9) x14).toNat)) (aw (f9 (wI (aR n9 (aa ac f9) x14+1)).toNat)) x14),vi (oJ (oQ (aR n9 (aa ac f9) x14) (aa [Ty.sl ac] f5) (aa ac f11) (aR n11 (aa ac f11) x15) x15) (oQ (wI (aR n9 (aa ac f9) x14+1)) (aa [Ty.sl ac] f5) (aa ac f11) (aR n11 (aa ac f11) x15) x15) (aw (f9 (aR n9 (aa ac f9) x14).toNat)) (aw (f9 (wI (aR n9 (aa ac f9) x14+1)).toNat)) x14)])))))))))))))))))
theorem V4:cW cX (aV JJ Mm u0 ow [V.agg [V.str s0,V.sl n1 (aa ac f1),V.sl n3 (aa ac f3),V.sl n5 (aa [Ty.sl ac] f5),vi x7,vi x8,V.sl n9 (aa ac f9),V.sl n11 (aa ac f11),vi x13],vi x14,vi x15]) (adi s0 n1 f1 n3 f3 n5 f5 x7 x8 n9 f9 n11 f11 x13 x14 x15):=bF
def ca:Int:=bif !bJ n9 (aa ac f9) n11 (aa ac f11) x14 x15 then 0 else oF (oE (aR n9 (aa ac f9) x14) (aa [Ty.sl ac] f5) (aa ac f11) (aR n11 (aa ac f11) x15) x15) (oE (wI (aR n9 (aa ac f9) x14+1)) (aa [Ty.sl ac] f5) (aa ac f11) (aR n11 (aa ac f11) x15) x15) (aw (f9 (aR n9 (aa ac f9) x14).toNat)) (aw (f9 (wI (aR n9 (aa ac f9) x14+1)).toNat)) x14
def cj:Int:=bif !bJ n9 (aa ac f9) n11 (aa ac f11) x14 x15 then x7 else oJ (oQ (aR n9 (aa ac f9) x14) (aa [Ty.sl ac] f5) (aa ac f11) (aR n11 (aa ac f11) x15) x15) (oQ (wI (aR n9 (aa ac f9) x14+1)) (aa [Ty.sl ac] f5) (aa ac f11) (aR n11 (aa ac f11) x15) x15) (aw (f9 (aR n9 (aa ac f9) x14).toNat)) (aw (f9 (wI (aR n9 (aa ac f9) x14+1)).toNat)) x14
def G2:V:=dm (s0,n1,f1,n3,f3,n5,x8,x13) (.agg [vi (ca f5 n9 f9 n11 f11 x14 x15),vi (cj f5 x7 n9 f9 n11 f11 x14 x15)])
theorem ajh (hp:mI n5 f5 n9 f9 n11 f11):aX cL (adi s0 n1 f1 n3 f3 n5 f5 x7 x8 n9 f9 n11 f11 x13 x14 x15) (G2 s0 n1 f1 n3 f3 n5 f5 x7 x8 n9 f9 n11 f11 x13 x14 x15):=evObp (by first|assumption|(first|exact hp.a.2|exact hp.b.2|exact Me hp|exact vw9 hp x14|exact zb hp x14 x15|exact zq hp x14 x15)) (evObt (evBr (fun h0=>evRet (by unfold G2 ca cj;try rw[h0];rfl)) (fun h0=>evObp (by first|assumption|(first|exact hp.a.2|exact hp.b.2|exact Me hp|exact vw9 hp x14|exact zb hp x14 x15|exact zq hp x14 x15)) (evObt (evObp (by first|assumption|(first|exact hp.a.2|exact hp.b.2|exact Me hp|exact vw9 hp x14|exact zb hp x14 x15|exact zq hp x14 x15)) (evObt (evObp (by first|assumption|(first|exact hp.a.2|exact hp.b.2|exact Me hp|exact vw9 hp x14|exact zb hp x14 x15|exact zq hp x14 x15)) (evObt (evObp (by first|assumption|(first|exact hp.a.2|exact hp.b.2|exact Me hp|exact vw9 hp x14|exact zb hp x14 x15|exact zq hp x14 x15)) (evObt (aD (by first|assumption|(first|exact al1 hp x14|exact alO hp x14)) (aD (by first|assumption|(first|exact al1 hp x14|exact alO hp x14)) (evObp (by first|assumption|(first|exact hp.a.2|exact hp.b.2|exact Me hp|exact vw9 hp x14|exact zb hp x14 x15|exact zq hp x14 x15)) (evObt (evRet (by unfold G2 ca cj;try rw[h0];rfl))))))))))))))))
def ab8:av:=bL [.agg [.str,.sl ac,.sl ac,.sl [.sl ac],tI,tI,.sl ac,.sl ac,tI],tI,tI] (fun
 |[.agg [.str s0,.sl n1 f1,.sl n3 f3,.sl n5 f5,.int _ x7,.int _ x8,.sl n9 f9,.sl n11 f11,.int _ x13],.int _ x14,.int _ x15]=>mI n5 f5 n9 f9 n11 f11
 |_=>False) fun
 |[.agg [.str s0,.sl n1 f1,.sl n3 f3,.sl n5 f5,.int _ x7,.int _ x8,.sl n9 f9,.sl n11 f11,.int _ x13],.int _ x14,.int _ x15]=>G2 s0 n1 f1 n3 f3 n5 f5 x7 x8 n9 f9 n11 f11 x13 x14 x15
 |_=>.any
theorem aef:cr ab8 108:=aY RH fun _ hp=>c9 (V4 ..) (ajh _ _ _ _ _ _ _ _ _ _ _ _ _ _ _ _ hp)
end
end Go.Dx
