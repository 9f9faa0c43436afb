/- Part 5 of a proof. No conditions. -/
import Derived.Test.YtibmdlbnkaihjaaGreatDoorLw4
import Derived.Lib.ConvBytes
import Derived.Lib.Walk
import Derived.WalkKit
import Derived.IntWalk
set_option maxRecDepth 100000
set_option linter.unusedVariables false
set_option linter.unusedSimpArgs false
namespace Go.Dx
open Go.IntKind (i64 u64 u8)
open Go.Sx Go.Proofs
variable (n0:Nat) (f0:aN) (n2:Nat) (f2:aN) (n4:Nat) (f4:aN) (n6:Nat) (f6:aN) (x8 x9:Int)
noncomputable section
def BY:bj:=(171,.con C50)::(172,.con C82)::(82,.con C80)::B4
theorem zx:aW Tryz.prog eqs its BY:=.con aiF (.con abq (.con adw (yR)))
attribute [local irreducible] jO cN pW
def m30:RT Empty:=.am n4 (.am n6 (.obp (((yaa n0 f0)/\yaa n6 f6)/\(0:Nat)=(0:Nat)/\(4:Nat)<=(100:Nat)) (.obt (.br (jO n0 (aa aJ f0) n2 (aa aU f2) n4 (aa aV f4) n6 (aa aH f6) 4 (aa ae (bn [vi x9,vi (↑n4:Int),vi x8,vi (↑n6:Int)] 0 1))!=0) (.ret (V.tup [V.kb false,vi (jO n0 (aa aJ f0) n2 (aa aU f2) n4 (aa aV f4) n6 (aa aH f6) 4 (aa ae (bn [vi x9,vi (↑n4:Int),vi x8,vi (↑n6:Int)] 0 1)))])) (.ob (decide (0<=x9/\x9<(↑n4:Int))) (.ob (decide (0<=x8/\x8<(↑n6:Int))) (.obt (.obt (.obt (.obt (.cb (.ret (V.tup [V.bool (decide (0<Bt (ar (f4 x9.toNat)) (aQ (f4 x9.toNat)) (ca (f4 x9.toNat)) (bW (f4 x9.toNat)) (aQ (f6 x8.toNat)) (ca (f6 x8.toNat)))),vi 0])))))))))))))
theorem am4:cJ cL (aP JJ BY u0 apl [wi n0 f0 n2 f2 n4 f4 n6 f6,vi x8,vi x9]) (m30 n0 f0 n2 f2 n4 f4 n6 f6 x8 x9):=⟨by kernel_rfl,by kernel_rfl⟩
def xh:Bool:=bif jO n0 (aa aJ f0) n2 (aa aU f2) n4 (aa aV f4) n6 (aa aH f6) 4 (aa ae (bn [vi x9,vi (↑n4:Int),vi x8,vi (↑n6:Int)] 0 1))!=0 then false else decide (0<Bt (ar (f4 x9.toNat)) (aQ (f4 x9.toNat)) (ca (f4 x9.toNat)) (bW (f4 x9.toNat)) (aQ (f6 x8.toNat)) (ca (f6 x8.toNat)))
def A1:Int:=bif jO n0 (aa aJ f0) n2 (aa aU f2) n4 (aa aV f4) n6 (aa aH f6) 4 (aa ae (bn [vi x9,vi (↑n4:Int),vi x8,vi (↑n6:Int)] 0 1))!=0 then jO n0 (aa aJ f0) n2 (aa aU f2) n4 (aa aV f4) n6 (aa aH f6) 4 (aa ae (bn [vi x9,vi (↑n4:Int),vi x8,vi (↑n6:Int)] 0 1)) else 0
def R30:V:=.tup [.bool (xh n0 f0 n2 f2 n4 f4 n6 f6 x8 x9),vi (A1 n0 f0 n2 f2 n4 f4 n6 f6 x8 x9)]
theorem apn (hp:yaa n0 f0/\yaa n6 f6):aR cq (m30 n0 f0 n2 f2 n4 f4 n6 f6 x8 x9) (R30 n0 f0 n2 f2 n4 f4 n6 f6 x8 x9):=evAsm (fun a0=>evAsm (fun a0=>evObp (by first|assumption|((first|exact hp|exact⟨hp,rfl,by decide⟩))) (evObt (evBr (fun h0=>evRet (by unfold R30 xh A1;try rw[h0];rfl)) (fun h0=>aE (by first|assumption|((simp_all [cond_eq_ite]<;>first|omega|exact(k44_4 (by assumption) (by assumption) h0).1|exact(k44_4 (by assumption) (by assumption) h0).2|exact k44_2 (by assumption) h0|exact k44_2 (by assumption) h1|exact k50 h0|exact k50 h1|exact k50 hc.1|exact k44_2 (by assumption) hc))) (aE (by first|assumption|((simp_all [cond_eq_ite]<;>first|omega|exact(k44_4 (by assumption) (by assumption) h0).1|exact(k44_4 (by assumption) (by assumption) h0).2|exact k44_2 (by assumption) h0|exact k44_2 (by assumption) h1|exact k50 h0|exact k50 h1|exact k50 hc.1|exact k44_2 (by assumption) hc))) (evObt (evObt (evObt (evObt (aw (evObt (evRet (by unfold R30 xh A1;try rw[h0];rfl))))))))))))))
def C30:aB:=bF [.agg [.sl aJ,.sl aU,.sl aV,.sl aH],tI,tI] (fun
 |[.agg [.sl n0 f0,.sl n2 f2,.sl n4 f4,.sl n6 f6],.int _ x8,.int _ x9]=>yaa n0 f0/\yaa n6 f6
 |_=>False) fun
 |[.agg [.sl n0 f0,.sl n2 f2,.sl n4 f4,.sl n6 f6],.int _ x8,.int _ x9]=>R30 n0 f0 n2 f2 n4 f4 n6 f6 x8 x9
 |_=>.any
theorem ajd:(vP C30).Ok Tryz.prog 32:=bV zx Tryz.func32 (by kernel_rfl) fun ds hp=>cQ (am4 ..) (apn _ _ _ _ _ _ _ _ _ _ hp)
def m31:RT Empty:=.am n4 (.obp ((yaa n0 f0)/\yaa n6 f6) (.obt (.iv (.asm ((cN n0 (aa aJ f0) n2 (aa aU f2) n4 (aa aV f4) n6 (aa aH f6) x9 (↑n4:Int)==0&&!decide (x8<0))=true->n6<=9223372036854775807) (.iv (.obi (.br (bif cN n0 (aa aJ f0) n2 (aa aU f2) n4 (aa aV f4) n6 (aa aH f6) x9 (↑n4:Int)==0 then bif decide (x8<0) then true else decide ((↑n6:Int)<=x8) else false) (.brt (.ret (V.tup [V.kb false,vi 4]))) (.br (cN n0 (aa aJ f0) n2 (aa aU f2) n4 (aa aV f4) n6 (aa aH f6) x9 (↑n4:Int)!=0) (.ret (V.tup [V.kb false,vi (cN n0 (aa aJ f0) n2 (aa aU f2) n4 (aa aV f4) n6 (aa aH f6) x9 (↑n4:Int))])) (.ob (decide (0<=x9/\x9<(↑n4:Int))) (.ob (decide (0<=x8/\x8<(↑n6:Int))) (.obt (.obt (.obt (.obt (.obt (.obt (.cb (.ret (V.tup [V.bool (decide (0<yao (wI (ca (f4 x9.toNat)-ar (f4 x9.toNat))) (wI (bW (f4 x9.toNat)-aQ (f4 x9.toNat))) (wI (aQ (f6 x8.toNat)-ar (f4 x9.toNat))) (wI (ca (f6 x8.toNat)-aQ (f4 x9.toNat))))),vi 0])))))))))))))))))))
theorem ajB:cJ cL (aP JJ BY u0 aql [wi n0 f0 n2 f2 n4 f4 n6 f6,vi x8,vi x9]) (m31 n0 f0 n2 f2 n4 f4 n6 f6 x8 x9):=⟨by kernel_rfl,by kernel_rfl⟩
def r9:Bool:=bif bif cN n0 (aa aJ f0) n2 (aa aU f2) n4 (aa aV f4) n6 (aa aH f6) x9 (↑n4:Int)==0 then bif decide (x8<0) then true else decide ((↑n6:Int)<=x8) else false then false else bif cN n0 (aa aJ f0) n2 (aa aU f2) n4 (aa aV f4) n6 (aa aH f6) x9 (↑n4:Int)!=0 then false else decide (0<yao (wI (ca (f4 x9.toNat)-ar (f4 x9.toNat))) (wI (bW (f4 x9.toNat)-aQ (f4 x9.toNat))) (wI (aQ (f6 x8.toNat)-ar (f4 x9.toNat))) (wI (ca (f6 x8.toNat)-aQ (f4 x9.toNat))))
def wD:Int:=bif bif cN n0 (aa aJ f0) n2 (aa aU f2) n4 (aa aV f4) n6 (aa aH f6) x9 (↑n4:Int)==0 then bif decide (x8<0) then true else decide ((↑n6:Int)<=x8) else false then 4 else bif cN n0 (aa aJ f0) n2 (aa aU f2) n4 (aa aV f4) n6 (aa aH f6) x9 (↑n4:Int)!=0 then cN n0 (aa aJ f0) n2 (aa aU f2) n4 (aa aV f4) n6 (aa aH f6) x9 (↑n4:Int) else 0
def R31:V:=.tup [.bool (r9 n0 f0 n2 f2 n4 f4 n6 f6 x8 x9),vi (wD n0 f0 n2 f2 n4 f4 n6 f6 x8 x9)]
theorem apD (hp:yaa n0 f0/\yaa n6 f6):aR cq (m31 n0 f0 n2 f2 n4 f4 n6 f6 x8 x9) (R31 n0 f0 n2 f2 n4 f4 n6 f6 x8 x9):=evAsm (fun a0=>evObp (by first|assumption|((first|exact hp|exact⟨hp,rfl,by decide⟩))) (evObt (evObi (evObi (evObi (evObi (evAsm (fun a0=>evObi (evObi (evObi (evObi (evObi (evBr (fun h0=>ec (evRet (by unfold R31 r9 wD;try rw[h0];rfl))) (fun h0=>evBr (fun h1=>evRet (by unfold R31 r9 wD;try rw[h0];try rw[h1];rfl)) (fun h1=>aE (by first|assumption|((simp_all [cond_eq_ite]<;>first|omega|exact(k44_4 (by assumption) (by assumption) h0).1|exact(k44_4 (by assumption) (by assumption) h0).2|exact k44_2 (by assumption) h0|exact k44_2 (by assumption) h1|exact k50 h0|exact k50 h1|exact k50 hc.1|exact k44_2 (by assumption) hc))) (aE (by first|assumption|((simp_all [cond_eq_ite]<;>first|omega|exact(k44_4 (by assumption) (by assumption) h0).1|exact(k44_4 (by assumption) (by assumption) h0).2|exact k44_2 (by assumption) h0|exact k44_2 (by assumption) h1|exact k50 h0|exact k50 h1|exact k50 hc.1|exact k44_2 (by assumption) hc))) (evObt (evObt (evObt (evObt (evObt (evObt (aw (evObt (evRet (by unfold R31 r9 wD;try rw[h0];try rw[h1];rfl))))))))))))))))))))))))))
def C31:aB:=bF [.agg [.sl aJ,.sl aU,.sl aV,.sl aH],tI,tI] (fun
 |[.agg [.sl n0 f0,.sl n2 f2,.sl n4 f4,.sl n6 f6],.int _ x8,.int _ x9]=>yaa n0 f0/\yaa n6 f6
 |_=>False) fun
 |[.agg [.sl n0 f0,.sl n2 f2,.sl n4 f4,.sl n6 f6],.int _ x8,.int _ x9]=>R31 n0 f0 n2 f2 n4 f4 n6 f6 x8 x9
 |_=>.any
theorem aje:(vP C31).Ok Tryz.prog 94:=bV zx Tryz.func94 (by kernel_rfl) fun ds hp=>cQ (ajB ..) (apD _ _ _ _ _ _ _ _ _ _ hp)
def m32:RT Empty:=.am n4 (.obp (((yaa n0 f0)/\yaa n6 f6)/\(0:Nat)=(0:Nat)/\(2:Nat)<=(100:Nat)) (.obt (.br (jO n0 (aa aJ f0) n2 (aa aU f2) n4 (aa aV f4) n6 (aa aH f6) 2 (aa ae (bn [vi x8,vi (↑n4:Int)] 0 1))==0) (.ob (decide (0<=x8/\x8<(↑n4:Int))) (.asm (true=true->au (ap (ab (ab (ab (ab (f4 x8.toNat))))))<=9223372036854775807) (.obp (((yaa n0 f0)/\yaa n6 f6)/\(0:Nat)=(0:Nat)/\(2:Nat)<=(100:Nat)) (.obt (.br (jO n0 (aa aJ f0) n2 (aa aU f2) n4 (aa aV f4) n6 (aa aH f6) 2 (aa ae (bn [vi x9,vi (↑(au (ap (ab (ab (ab (ab (f4 x8.toNat))))))):Int)] 0 1))!=0) (.ret (V.tup [V.agg [vi 0,vi 0,vi 0,vi 0,vi 0,vi 0],vi (jO n0 (aa aJ f0) n2 (aa aU f2) n4 (aa aV f4) n6 (aa aH f6) 2 (aa ae (bn [vi x9,vi (↑(au (ap (ab (ab (ab (ab (f4 x8.toNat))))))):Int)] 0 1)))])) (.ob (decide (0<=x8/\x8<(↑n4:Int))) (.ob (decide (0<=x9/\x9<(↑(au (ap (ab (ab (ab (ab (f4 x8.toNat))))))):Int))) (.obt (.obt (.cb (.obt (.obt (.cb (.ret (V.tup [V.agg [vi (F80_0 (ar (f4 x8.toNat)) (ca (f4 x8.toNat)) (ar (aX (ap (ab (ab (ab (ab (f4 x8.toNat)))))) x9.toNat)) (aQ (aX (ap (ab (ab (ab (ab (f4 x8.toNat)))))) x9.toNat))),vi (F80_0 (aQ (f4 x8.toNat)) (bW (f4 x8.toNat)) (ar (aX (ap (ab (ab (ab (ab (f4 x8.toNat)))))) x9.toNat)) (aQ (aX (ap (ab (ab (ab (ab (f4 x8.toNat)))))) x9.toNat))),vi (F80_1 (ar (f4 x8.toNat)) (ca (f4 x8.toNat)) (ar (aX (ap (ab (ab (ab (ab (f4 x8.toNat)))))) x9.toNat)) (aQ (aX (ap (ab (ab (ab (ab (f4 x8.toNat)))))) x9.toNat))),vi (F80_1 (aQ (f4 x8.toNat)) (bW (f4 x8.toNat)) (ar (aX (ap (ab (ab (ab (ab (f4 x8.toNat)))))) x9.toNat)) (aQ (aX (ap (ab (ab (ab (ab (f4 x8.toNat)))))) x9.toNat))),vi (ca (aX (ap (ab (ab (ab (ab (f4 x8.toNat)))))) x9.toNat)),vi (bW (aX (ap (ab (ab (ab (ab (f4 x8.toNat)))))) x9.toNat))],vi 0]))))))))))))))) (.br (jO n0 (aa aJ f0) n2 (aa aU f2) n4 (aa aV f4) n6 (aa aH f6) 2 (aa ae (bn [vi x8,vi (↑n4:Int)] 0 1))!=0) (.ret (V.tup [V.agg [vi 0,vi 0,vi 0,vi 0,vi 0,vi 0],vi (jO n0 (aa aJ f0) n2 (aa aU f2) n4 (aa aV f4) n6 (aa aH f6) 2 (aa ae (bn [vi x8,vi (↑n4:Int)] 0 1)))])) (.ob (decide (0<=x8/\x8<(↑n4:Int))) (.ob (decide (0<=x9/\x9<(↑(au (ap (ab (ab (ab (ab (f4 x8.toNat))))))):Int))) (.obt (.obt (.cb (.obt (.obt (.cb (.ret (V.tup [V.agg [vi (F80_0 (ar (f4 x8.toNat)) (ca (f4 x8.toNat)) (ar (aX (ap (ab (ab (ab (ab (f4 x8.toNat)))))) x9.toNat)) (aQ (aX (ap (ab (ab (ab (ab (f4 x8.toNat)))))) x9.toNat))),vi (F80_0 (aQ (f4 x8.toNat)) (bW (f4 x8.toNat)) (ar (aX (ap (ab (ab (ab (ab (f4 x8.toNat)))))) x9.toNat)) (aQ (aX (ap (ab (ab (ab (ab (f4 x8.toNat)))))) x9.toNat))),vi (F80_1 (ar (f4 x8.toNat)) (ca (f4 x8.toNat)) (ar (aX (ap (ab (ab (ab (ab (f4 x8.toNat)))))) x9.toNat)) (aQ (aX (ap (ab (ab (ab (ab (f4 x8.toNat)))))) x9.toNat))),vi (F80_1 (aQ (f4 x8.toNat)) (bW (f4 x8.toNat)) (ar (aX (ap (ab (ab (ab (ab (f4 x8.toNat)))))) x9.toNat)) (aQ (aX (ap (ab (ab (ab (ab (f4 x8.toNat)))))) x9.toNat))),vi (ca (aX (ap (ab (ab (ab (ab (f4 x8.toNat)))))) x9.toNat)),vi (bW (aX (ap (ab (ab (ab (ab (f4 x8.toNat)))))) x9.toNat))],vi 0]))))))))))))))
theorem ajq:cJ cL (aP JJ BY u0 ao3 [wi n0 f0 n2 f2 n4 f4 n6 f6,vi x8,vi x9]) (m32 n0 f0 n2 f2 n4 f4 n6 f6 x8 x9):=⟨by kernel_rfl,by kernel_rfl⟩
def nR:Int:=bif jO n0 (aa aJ f0) n2 (aa aU f2) n4 (aa aV f4) n6 (aa aH f6) 2 (aa ae (bn [vi x8,vi (↑n4:Int)] 0 1))==0 then bif jO n0 (aa aJ f0) n2 (aa aU f2) n4 (aa aV f4) n6 (aa aH f6) 2 (aa ae (bn [vi x9,vi (↑(au (ap (ab (ab (ab (ab (f4 x8.toNat))))))):Int)] 0 1))!=0 then 0 else F80_0 (ar (f4 x8.toNat)) (ca (f4 x8.toNat)) (ar (aX (ap (ab (ab (ab (ab (f4 x8.toNat)))))) x9.toNat)) (aQ (aX (ap (ab (ab (ab (ab (f4 x8.toNat)))))) x9.toNat)) else bif jO n0 (aa aJ f0) n2 (aa aU f2) n4 (aa aV f4) n6 (aa aH f6) 2 (aa ae (bn [vi x8,vi (↑n4:Int)] 0 1))!=0 then 0 else F80_0 (ar (f4 x8.toNat)) (ca (f4 x8.toNat)) (ar (aX (ap (ab (ab (ab (ab (f4 x8.toNat)))))) x9.toNat)) (aQ (aX (ap (ab (ab (ab (ab (f4 x8.toNat)))))) x9.toNat))
def oz:Int:=bif jO n0 (aa aJ f0) n2 (aa aU f2) n4 (aa aV f4) n6 (aa aH f6) 2 (aa ae (bn [vi x8,vi (↑n4:Int)] 0 1))==0 then bif jO n0 (aa aJ f0) n2 (aa aU f2) n4 (aa aV f4) n6 (aa aH f6) 2 (aa ae (bn [vi x9,vi (↑(au (ap (ab (ab (ab (ab (f4 x8.toNat))))))):Int)] 0 1))!=0 then 0 else F80_0 (aQ (f4 x8.toNat)) (bW (f4 x8.toNat)) (ar (aX (ap (ab (ab (ab (ab (f4 x8.toNat)))))) x9.toNat)) (aQ (aX (ap (ab (ab (ab (ab (f4 x8.toNat)))))) x9.toNat)) else bif jO n0 (aa aJ f0) n2 (aa aU f2) n4 (aa aV f4) n6 (aa aH f6) 2 (aa ae (bn [vi x8,vi (↑n4:Int)] 0 1))!=0 then 0 else F80_0 (aQ (f4 x8.toNat)) (bW (f4 x8.toNat)) (ar (aX (ap (ab (ab (ab (ab (f4 x8.toNat)))))) x9.toNat)) (aQ (aX (ap (ab (ab (ab (ab (f4 x8.toNat)))))) x9.toNat))
def nX:Int:=bif jO n0 (aa aJ f0) n2 (aa aU f2) n4 (aa aV f4) n6 (aa aH f6) 2 (aa ae (bn [vi x8,vi (↑n4:Int)] 0 1))==0 then bif jO n0 (aa aJ f0) n2 (aa aU f2) n4 (aa aV f4) n6 (aa aH f6) 2 (aa ae (bn [vi x9,vi (↑(au (ap (ab (ab (ab (ab (f4 x8.toNat))))))):Int)] 0 1))!=0 then 0 else F80_1 (ar (f4 x8.toNat)) (ca (f4 x8.toNat)) (ar (aX (ap (ab (ab (ab (ab (f4 x8.toNat)))))) x9.toNat)) (aQ (aX (ap (ab (ab (ab (ab (f4 x8.toNat)))))) x9.toNat)) else bif jO n0 (aa aJ f0) n2 (aa aU f2) n4 (aa aV f4) n6 (aa aH f6) 2 (aa ae (bn [vi x8,vi (↑n4:Int)] 0 1))!=0 then 0 else F80_1 (ar (f4 x8.toNat)) (ca (f4 x8.toNat)) (ar (aX (ap (ab (ab (ab (ab (f4 x8.toNat)))))) x9.toNat)) (aQ (aX (ap (ab (ab (ab (ab (f4 x8.toNat)))))) x9.toNat))
def om:Int:=bif jO n0 (aa aJ f0) n2 (aa aU f2) n4 (aa aV f4) n6 (aa aH f6) 2 (aa ae (bn [vi x8,vi (↑n4:Int)] 0 1))==0 then bif jO n0 (aa aJ f0) n2 (aa aU f2) n4 (aa aV f4) n6 (aa aH f6) 2 (aa ae (bn [vi x9,vi (↑(au (ap (ab (ab (ab (ab (f4 x8.toNat))))))):Int)] 0 1))!=0 then 0 else F80_1 (aQ (f4 x8.toNat)) (bW (f4 x8.toNat)) (ar (aX (ap (ab (ab (ab (ab (f4 x8.toNat)))))) x9.toNat)) (aQ (aX (ap (ab (ab (ab (ab (f4 x8.toNat)))))) x9.toNat)) else bif jO n0 (aa aJ f0) n2 (aa aU f2) n4 (aa aV f4) n6 (aa aH f6) 2 (aa ae (bn [vi x8,vi (↑n4:Int)] 0 1))!=0 then 0 else F80_1 (aQ (f4 x8.toNat)) (bW (f4 x8.toNat)) (ar (aX (ap (ab (ab (ab (ab (f4 x8.toNat)))))) x9.toNat)) (aQ (aX (ap (ab (ab (ab (ab (f4 x8.toNat)))))) x9.toNat))
def pH:Int:=bif jO n0 (aa aJ f0) n2 (aa aU f2) n4 (aa aV f4) n6 (aa aH f6) 2 (aa ae (bn [vi x8,vi (↑n4:Int)] 0 1))==0 then bif jO n0 (aa aJ f0) n2 (aa aU f2) n4 (aa aV f4) n6 (aa aH f6) 2 (aa ae (bn [vi x9,vi (↑(au (ap (ab (ab (ab (ab (f4 x8.toNat))))))):Int)] 0 1))!=0 then 0 else ca (aX (ap (ab (ab (ab (ab (f4 x8.toNat)))))) x9.toNat) else bif jO n0 (aa aJ f0) n2 (aa aU f2) n4 (aa aV f4) n6 (aa aH f6) 2 (aa ae (bn [vi x8,vi (↑n4:Int)] 0 1))!=0 then 0 else ca (aX (ap (ab (ab (ab (ab (f4 x8.toNat)))))) x9.toNat)
def qf:Int:=bif jO n0 (aa aJ f0) n2 (aa aU f2) n4 (aa aV f4) n6 (aa aH f6) 2 (aa ae (bn [vi x8,vi (↑n4:Int)] 0 1))==0 then bif jO n0 (aa aJ f0) n2 (aa aU f2) n4 (aa aV f4) n6 (aa aH f6) 2 (aa ae (bn [vi x9,vi (↑(au (ap (ab (ab (ab (ab (f4 x8.toNat))))))):Int)] 0 1))!=0 then 0 else bW (aX (ap (ab (ab (ab (ab (f4 x8.toNat)))))) x9.toNat) else bif jO n0 (aa aJ f0) n2 (aa aU f2) n4 (aa aV f4) n6 (aa aH f6) 2 (aa ae (bn [vi x8,vi (↑n4:Int)] 0 1))!=0 then 0 else bW (aX (ap (ab (ab (ab (ab (f4 x8.toNat)))))) x9.toNat)
def qu:Int:=bif jO n0 (aa aJ f0) n2 (aa aU f2) n4 (aa aV f4) n6 (aa aH f6) 2 (aa ae (bn [vi x8,vi (↑n4:Int)] 0 1))==0 then bif jO n0 (aa aJ f0) n2 (aa aU f2) n4 (aa aV f4) n6 (aa aH f6) 2 (aa ae (bn [vi x9,vi (↑(au (ap (ab (ab (ab (ab (f4 x8.toNat))))))):Int)] 0 1))!=0 then jO n0 (aa aJ f0) n2 (aa aU f2) n4 (aa aV f4) n6 (aa aH f6) 2 (aa ae (bn [vi x9,vi (↑(au (ap (ab (ab (ab (ab (f4 x8.toNat))))))):Int)] 0 1)) else 0 else bif jO n0 (aa aJ f0) n2 (aa aU f2) n4 (aa aV f4) n6 (aa aH f6) 2 (aa ae (bn [vi x8,vi (↑n4:Int)] 0 1))!=0 then jO n0 (aa aJ f0) n2 (aa aU f2) n4 (aa aV f4) n6 (aa aH f6) 2 (aa ae (bn [vi x8,vi (↑n4:Int)] 0 1)) else 0
def R32:V:=.tup [.agg [vi (nR n0 f0 n2 f2 n4 f4 n6 f6 x8 x9),vi (oz n0 f0 n2 f2 n4 f4 n6 f6 x8 x9),vi (nX n0 f0 n2 f2 n4 f4 n6 f6 x8 x9),vi (om n0 f0 n2 f2 n4 f4 n6 f6 x8 x9),vi (pH n0 f0 n2 f2 n4 f4 n6 f6 x8 x9),vi (qf n0 f0 n2 f2 n4 f4 n6 f6 x8 x9)],vi (qu n0 f0 n2 f2 n4 f4 n6 f6 x8 x9)]
theorem apa (hp:yaa n0 f0/\yaa n6 f6):aR cq (m32 n0 f0 n2 f2 n4 f4 n6 f6 x8 x9) (R32 n0 f0 n2 f2 n4 f4 n6 f6 x8 x9):=evAsm (fun a0=>evObp (by first|assumption|((first|exact hp|exact⟨hp,rfl,by decide⟩))) (evObt (evBr (fun h0=>aE (by first|assumption|((simp_all [cond_eq_ite]<;>first|omega|exact(k44_4 (by assumption) (by assumption) h0).1|exact(k44_4 (by assumption) (by assumption) h0).2|exact k44_2 (by assumption) h0|exact k44_2 (by assumption) h1|exact k50 h0|exact k50 h1|exact k50 hc.1|exact k44_2 (by assumption) hc))) (evAsm (fun a1=>evObp (by first|assumption|((first|exact hp|exact⟨hp,rfl,by decide⟩))) (evObt (evBr (fun h1=>evRet (by unfold R32 nR oz nX om pH qf qu;try rw[h0];try rw[h1];rfl)) (fun h1=>aE (by first|assumption|((simp_all [cond_eq_ite]<;>first|omega|exact(k44_4 (by assumption) (by assumption) h0).1|exact(k44_4 (by assumption) (by assumption) h0).2|exact k44_2 (by assumption) h0|exact k44_2 (by assumption) h1|exact k50 h0|exact k50 h1|exact k50 hc.1|exact k44_2 (by assumption) hc))) (aE (by first|assumption|((simp_all [cond_eq_ite]<;>first|omega|exact(k44_4 (by assumption) (by assumption) h0).1|exact(k44_4 (by assumption) (by assumption) h0).2|exact k44_2 (by assumption) h0|exact k44_2 (by assumption) h1|exact k50 h0|exact k50 h1|exact k50 hc.1|exact k44_2 (by assumption) hc))) (evObt (evObt (aw (evObt (evObt (evObt (aw (evObt (evRet (by unfold R32 nR oz nX om pH qf qu;try rw[h0];try rw[h1];rfl))))))))))))))))) (fun h0=>evBr (fun h1=>evRet (by unfold R32 nR oz nX om pH qf qu;try rw[h0];try rw[h1];rfl)) (fun h1=>aE (by first|assumption|((simp_all [cond_eq_ite]<;>first|omega|exact(k44_4 (by assumption) (by assumption) h0).1|exact(k44_4 (by assumption) (by assumption) h0).2|exact k44_2 (by assumption) h0|exact k44_2 (by assumption) h1|exact k50 h0|exact k50 h1|exact k50 hc.1|exact k44_2 (by assumption) hc))) (aE (by first|assumption|((simp_all [cond_eq_ite]<;>first|omega|exact(k44_4 (by assumption) (by assumption) h0).1|exact(k44_4 (by assumption) (by assumption) h0).2|exact k44_2 (by assumption) h0|exact k44_2 (by assumption) h1|exact k50 h0|exact k50 h1|exact k50 hc.1|exact k44_2 (by assumption) hc))) (evObt (evObt (aw (evObt (evObt (evObt (aw (evObt (evRet (by unfold R32 nR oz nX om pH qf qu;try rw[h0];try rw[h1];rfl))))))))))))))))
def C32:aB:=bF [.agg [.sl aJ,.sl aU,.sl aV,.sl aH],tI,tI] (fun
 |[.agg [.sl n0 f0,.sl n2 f2,.sl n4 f4,.sl n6 f6],.int _ x8,.int _ x9]=>yaa n0 f0/\yaa n6 f6
 |_=>False) fun
 |[.agg [.sl n0 f0,.sl n2 f2,.sl n4 f4,.sl n6 f6],.int _ x8,.int _ x9]=>R32 n0 f0 n2 f2 n4 f4 n6 f6 x8 x9
 |_=>.any
theorem aks:(vP C32).Ok Tryz.prog 30:=bV zx Tryz.func30 (by kernel_rfl) fun ds hp=>cQ (ajq ..) (apa _ _ _ _ _ _ _ _ _ _ hp)
def m33:RT Empty:=.am n4 (.obp ((yaa n0 f0)/\yaa n6 f6) (.obt (.iv (.obi (.obj (cN n0 (aa aJ f0) n2 (aa aU f2) n4 (aa aV f4) n6 (aa aH f6) x8 (↑n4:Int)==0&&!decide (x9<0)) (decide (0<=x8/\x8<(↑n4:Int))) (.ii (.obi (.asm ((cN n0 (aa aJ f0) n2 (aa aU f2) n4 (aa aV f4) n6 (aa aH f6) x8 (↑n4:Int)==0&&!decide (x9<0))=true->au (ap (ab (ab (ab (ab (f4 x8.toNat))))))<=9223372036854775807) (.iv (.obi (.br (bif cN n0 (aa aJ f0) n2 (aa aU f2) n4 (aa aV f4) n6 (aa aH f6) x8 (↑n4:Int)==0 then bif decide (x9<0) then true else decide ((↑(au (ap (ab (ab (ab (ab (f4 x8.toNat))))))):Int)<=x9) else false) (.brt (.ret (V.tup [V.agg [vi 0,vi 0,vi 0,vi 0,vi 0,vi 0],vi 4]))) (.br (cN n0 (aa aJ f0) n2 (aa aU f2) n4 (aa aV f4) n6 (aa aH f6) x8 (↑n4:Int)!=0) (.ret (V.tup [V.agg [vi 0,vi 0,vi 0,vi 0,vi 0,vi 0],vi (cN n0 (aa aJ f0) n2 (aa aU f2) n4 (aa aV f4) n6 (aa aH f6) x8 (↑n4:Int))])) (.ob (decide (0<=x8/\x8<(↑n4:Int))) (.ob (decide (0<=x9/\x9<(↑(au (ap (ab (ab (ab (ab (f4 x8.toNat))))))):Int))) (.obt (.obt (.cb (.obt (.obt (.cb (.ret (V.tup [V.agg [vi (F82_0 (ar (f4 x8.toNat)) (ca (f4 x8.toNat)) (ar (aX (ap (ab (ab (ab (ab (f4 x8.toNat)))))) x9.toNat)) (aQ (aX (ap (ab (ab (ab (ab (f4 x8.toNat)))))) x9.toNat))),vi (F82_0 (aQ (f4 x8.toNat)) (bW (f4 x8.toNat)) (ar (aX (ap (ab (ab (ab (ab (f4 x8.toNat)))))) x9.toNat)) (aQ (aX (ap (ab (ab (ab (ab (f4 x8.toNat)))))) x9.toNat))),vi (F82_1 (ar (f4 x8.toNat)) (ca (f4 x8.toNat)) (ar (aX (ap (ab (ab (ab (ab (f4 x8.toNat)))))) x9.toNat)) (aQ (aX (ap (ab (ab (ab (ab (f4 x8.toNat)))))) x9.toNat))),vi (F82_1 (aQ (f4 x8.toNat)) (bW (f4 x8.toNat)) (ar (aX (ap (ab (ab (ab (ab (f4 x8.toNat)))))) x9.toNat)) (aQ (aX (ap (ab (ab (ab (ab (f4 x8.toNat)))))) x9.toNat))),vi (ca (aX (ap (ab (ab (ab (ab (f4 x8.toNat)))))) x9.toNat)),vi (bW (aX (ap (ab (ab (ab (ab (f4 x8.toNat)))))) x9.toNat))],vi 0]))))))))))))))))))))))
theorem akW:cJ cL (aP JJ BY u0 ap1 [wi n0 f0 n2 f2 n4 f4 n6 f6,vi x8,vi x9]) (m33 n0 f0 n2 f2 n4 f4 n6 f6 x8 x9):=⟨by kernel_rfl,by kernel_rfl⟩
def mY:Int:=bif bif cN n0 (aa aJ f0) n2 (aa aU f2) n4 (aa aV f4) n6 (aa aH f6) x8 (↑n4:Int)==0 then bif decide (x9<0) then true else decide ((↑(au (ap (ab (ab (ab (ab (f4 x8.toNat))))))):Int)<=x9) else false then 0 else bif cN n0 (aa aJ f0) n2 (aa aU f2) n4 (aa aV f4) n6 (aa aH f6) x8 (↑n4:Int)!=0 then 0 else F82_0 (ar (f4 x8.toNat)) (ca (f4 x8.toNat)) (ar (aX (ap (ab (ab (ab (ab (f4 x8.toNat)))))) x9.toNat)) (aQ (aX (ap (ab (ab (ab (ab (f4 x8.toNat)))))) x9.toNat))
def mw:Int:=bif bif cN n0 (aa aJ f0) n2 (aa aU f2) n4 (aa aV f4) n6 (aa aH f6) x8 (↑n4:Int)==0 then bif decide (x9<0) then true else decide ((↑(au (ap (ab (ab (ab (ab (f4 x8.toNat))))))):Int)<=x9) else false then 0 else bif cN n0 (aa aJ f0) n2 (aa aU f2) n4 (aa aV f4) n6 (aa aH f6) x8 (↑n4:Int)!=0 then 0 else F82_0 (aQ (f4 x8.toNat)) (bW (f4 x8.toNat)) (ar (aX (ap (ab (ab (ab (ab (f4 x8.toNat)))))) x9.toNat)) (aQ (aX (ap (ab (ab (ab (ab (f4 x8.toNat)))))) x9.toNat))
def mq:Int:=bif bif cN n0 (aa aJ f0) n2 (aa aU f2) n4 (aa aV f4) n6 (aa aH f6) x8 (↑n4:Int)==0 then bif decide (x9<0) then true else decide ((↑(au (ap (ab (ab (ab (ab (f4 x8.toNat))))))):Int)<=x9) else false then 0 else bif cN n0 (aa aJ f0) n2 (aa aU f2) n4 (aa aV f4) n6 (aa aH f6) x8 (↑n4:Int)!=0 then 0 else F82_1 (ar (f4 x8.toNat)) (ca (f4 x8.toNat)) (ar (aX (ap (ab (ab (ab (ab (f4 x8.toNat)))))) x9.toNat)) (aQ (aX (ap (ab (ab (ab (ab (f4 x8.toNat)))))) x9.toNat))
def mS:Int:=bif bif cN n0 (aa aJ f0) n2 (aa aU f2) n4 (aa aV f4) n6 (aa aH f6) x8 (↑n4:Int)==0 then bif decide (x9<0) then true else decide ((↑(au (ap (ab (ab (ab (ab (f4 x8.toNat))))))):Int)<=x9) else false then 0 else bif cN n0 (aa aJ f0) n2 (aa aU f2) n4 (aa aV f4) n6 (aa aH f6) x8 (↑n4:Int)!=0 then 0 else F82_1 (aQ (f4 x8.toNat)) (bW (f4 x8.toNat)) (ar (aX (ap (ab (ab (ab (ab (f4 x8.toNat)))))) x9.toNat)) (aQ (aX (ap (ab (ab (ab (ab (f4 x8.toNat)))))) x9.toNat))
def qc:Int:=bif bif cN n0 (aa aJ f0) n2 (aa aU f2) n4 (aa aV f4) n6 (aa aH f6) x8 (↑n4:Int)==0 then bif decide (x9<0) then true else decide ((↑(au (ap (ab (ab (ab (ab (f4 x8.toNat))))))):Int)<=x9) else false then 0 else bif cN n0 (aa aJ f0) n2 (aa aU f2) n4 (aa aV f4) n6 (aa aH f6) x8 (↑n4:Int)!=0 then 0 else ca (aX (ap (ab (ab (ab (ab (f4 x8.toNat)))))) x9.toNat)
def qo:Int:=bif bif cN n0 (aa aJ f0) n2 (aa aU f2) n4 (aa aV f4) n6 (aa aH f6) x8 (↑n4:Int)==0 then bif decide (x9<0) then true else decide ((↑(au (ap (ab (ab (ab (ab (f4 x8.toNat))))))):Int)<=x9) else false then 0 else bif cN n0 (aa aJ f0) n2 (aa aU f2) n4 (aa aV f4) n6 (aa aH f6) x8 (↑n4:Int)!=0 then 0 else bW (aX (ap (ab (ab (ab (ab (f4 x8.toNat)))))) x9.toNat)
def nW:Int:=bif bif cN n0 (aa aJ f0) n2 (aa aU f2) n4 (aa aV f4) n6 (aa aH f6) x8 (↑n4:Int)==0 then bif decide (x9<0) then true else decide ((↑(au (ap (ab (ab (ab (ab (f4 x8.toNat))))))):Int)<=x9) else false then 4 else bif cN n0 (aa aJ f0) n2 (aa aU f2) n4 (aa aV f4) n6 (aa aH f6) x8 (↑n4:Int)!=0 then cN n0 (aa aJ f0) n2 (aa aU f2) n4 (aa aV f4) n6 (aa aH f6) x8 (↑n4:Int) else 0
def R33:V:=.tup [.agg [vi (mY n0 f0 n2 f2 n4 f4 n6 f6 x8 x9),vi (mw n0 f0 n2 f2 n4 f4 n6 f6 x8 x9),vi (mq n0 f0 n2 f2 n4 f4 n6 f6 x8 x9),vi (mS n0 f0 n2 f2 n4 f4 n6 f6 x8 x9),vi (qc n0 f0 n2 f2 n4 f4 n6 f6 x8 x9),vi (qo n0 f0 n2 f2 n4 f4 n6 f6 x8 x9)],vi (nW n0 f0 n2 f2 n4 f4 n6 f6 x8 x9)]
theorem aov (hp:yaa n0 f0/\yaa n6 f6):aR cq (m33 n0 f0 n2 f2 n4 f4 n6 f6 x8 x9) (R33 n0 f0 n2 f2 n4 f4 n6 f6 x8 x9):=evAsm (fun a0=>evObp (by first|assumption|((first|exact hp|exact⟨hp,rfl,by decide⟩))) (evObt (evObi (evObi (evObi (evObi (evObi (evObj (by first|assumption|((intro hc;simp_all [cond_eq_ite]<;>first|omega|exact(k44_4 (by assumption) (by assumption) h0).1|exact(k44_4 (by assumption) (by assumption) h0).2|exact k44_2 (by assumption) h0|exact k44_2 (by assumption) h1|exact k50 h0|exact k50 h1|exact k50 hc.1|exact k44_2 (by assumption) hc))) (evObi (evObi (evObi (evAsm (fun a0=>evObi (evObi (evObi (evObi (evObi (evBr (fun h0=>ec (evRet (by unfold R33 mY mw mq mS qc qo nW;try rw[h0];rfl))) (fun h0=>evBr (fun h1=>evRet (by unfold R33 mY mw mq mS qc qo nW;try rw[h0];try rw[h1];rfl)) (fun h1=>aE (by first|assumption|((simp_all [cond_eq_ite]<;>first|omega|exact(k44_4 (by assumption) (by assumption) h0).1|exact(k44_4 (by assumption) (by assumption) h0).2|exact k44_2 (by assumption) h0|exact k44_2 (by assumption) h1|exact k50 h0|exact k50 h1|exact k50 hc.1|exact k44_2 (by assumption) hc))) (aE (by first|assumption|((simp_all [cond_eq_ite]<;>first|omega|exact(k44_4 (by assumption) (by assumption) h0).1|exact(k44_4 (by assumption) (by assumption) h0).2|exact k44_2 (by assumption) h0|exact k44_2 (by assumption) h1|exact k50 h0|exact k50 h1|exact k50 hc.1|exact k44_2 (by assumption) hc))) (evObt (evObt (aw (evObt (evObt (evObt (aw (evObt (evRet (by unfold R33 mY mw mq mS qc qo nW;try rw[h0];try rw[h1];rfl)))))))))))))))))))))))))))))))
def C33:aB:=bF [.agg [.sl aJ,.sl aU,.sl aV,.sl aH],tI,tI] (fun
 |[.agg [.sl n0 f0,.sl n2 f2,.sl n4 f4,.sl n6 f6],.int _ x8,.int _ x9]=>yaa n0 f0/\yaa n6 f6
 |_=>False) fun
 |[.agg [.sl n0 f0,.sl n2 f2,.sl n4 f4,.sl n6 f6],.int _ x8,.int _ x9]=>R33 n0 f0 n2 f2 n4 f4 n6 f6 x8 x9
 |_=>.any
theorem ang:(vP C33).Ok Tryz.prog 93:=bV zx Tryz.func93 (by kernel_rfl) fun ds hp=>cQ (akW ..) (aov _ _ _ _ _ _ _ _ _ _ hp)
end
end Go.Dx
namespace Go.Proofs
open Go.RowKit Go.Dx
def xU (b:Int) (i:Int):Bool:=bif !(bif decide (97<=b) then decide (b<=122) else false) then(bif i==0 then true else bif !(bif decide (48<=b) then decide (b<=57) else false) then b != 45 else false) else false
def iI (s:ByteArray):Bool:=cz s.size (fun i=>!xU ((s.data.toList.getD i 0).toNat:Int) i)&&decide (0<s.size/\s.size<=24)
theorem aeO {p:Prop} (h:p):Hid p:=h
theorem Ba (w:World) (e:TypeId) (s:ByteArray):Below w.heap.size w (Lib.bytesWorld w e s):=by
 refine ⟨rfl,rfl,rfl,?_,fun b hb=>Lib.bytesWorld_at_old w e s b hb⟩
 rw [Lib.bytesWorld_size];omega
theorem mT (x k:Nat):xU (x:Int) (k:Int)=true↔¬ (97<=x/\x<=122)/\(k=0∨¬ (48<=x/\x<=57)/\x≠45):=by
 have key:∀ (p1 p2 p3 p4 p5 p6:Bool),(bif !(bif p1 then p2 else false) then(bif p3 then true else bif !(bif p4 then p5 else false) then p6 else false) else false)=true↔¬ (p1=true/\p2=true)/\(p3=true∨¬ (p4=true/\p5=true)/\p6=true):=by decide
 unfold xU
 rw [key]
 simp only [decide_eq_true_eq,beq_iff_eq,bne_iff_ne,ne_eq]
 omega
theorem yaT {s:ByteArray} {k x:Nat} (hk:k<s.size) (hx:(s.data.toList.getD k 0).toNat=x) (h:¬ (97<=x/\x<=122)/\(k=0∨¬ (48<=x/\x<=57)/\x≠45)):iI s=false:=by
 unfold iI
 rw [eY k hk (by rw[hx,(mT x k).2 h];rfl)];rfl
theorem Io {s:ByteArray} {k x:Nat} (hsp:∀ j:Nat,j<k->xU ((s.data.toList.getD j 0).toNat:Int) j=false) (hx:(s.data.toList.getD k 0).toNat=x) (h:¬ (¬ (97<=x/\x<=122)/\(k=0∨¬ (48<=x/\x<=57)/\x≠45))):∀ j:Nat,j<k+1->xU ((s.data.toList.getD j 0).toNat:Int) j=false:=fun j hj=>by
 by_cases e:j=k
 ·subst e
  rw [hx]
  cases hb:xU (x:Int) j with
  |false=>rfl
  |true=>exact(h ((mT x j).1 hb)).elim
 ·exact hsp j (by omega)
theorem Ln {s:ByteArray} (hsp:∀ j:Nat,j<s.size->xU ((s.data.toList.getD j 0).toNat:Int) j=false):iI s=decide (0<s.size/\s.size<=24):=by
 unfold iI
 rw [eu fun i hi=>by rw[hsp i hi];rfl];rfl
theorem ZZ (s:ByteArray):s.toList=[]↔s.size=0:=by
 rw [ByteArray.toList_eq]
 obtain ⟨⟨l⟩⟩:=s
 show l=[]↔l.length=0
 exact List.length_eq_zero_iff.symm
set_option maxHeartbeats 4000000 in
theorem Tryz.name_calls (s:ByteArray) (w:World) (hs:s.size<=9223372036854775807):Calls Tryz.prog 196 #[.string s] w fun e w'=>e=.returned (.bool (iI s))/\Below w.heap.size w w':=by
 have hB:∀ t,t<s.size->(Lib.bytesWorld w 5 s).cell? ⟨w.heap.size,t,none⟩=some (.int .u8 (s.data.toList.getD t 0).toNat):=fun t ht=>Lib.bytesWorld_cell w 5 s t ht
 have hbel:=Ba w 5 s
 go_enter Tryz.func196,Tryz.ntmps196
 go_wp2
 rw [Lib.run_convert_string_bytes w 9 278 5 s (u:=.string) (by kernel_rfl) (by kernel_rfl) (by kernel_rfl)]
 simp only [Result.andThen]
 rw [Oper.upon_value]
 obtain ⟨W1,hW1⟩:∃ W1,W1=Lib.bytesWorld w 5 s:=⟨_,rfl⟩
 rw [← hW1]at hB hbel ⊢
 have HW:=aeO hW1
 have HB:=aeO hB
 clear hW1 hB
 go_wp2
 go_loop [9] (fun i=>∃ k:Nat,k<=s.size/\i=.int .i64 k/\Hid (∀ j:Nat,j<k->xU ((s.data.toList.getD j 0).toNat:Int) j=false)) (fun i=>s.size-(intOf i).toNat)
 case atStart=>exact⟨0,Nat.zero_le _,rfl,fun j hj=>absurd hj (Nat.not_lt_zero _)⟩
 case round =>
  obtain ⟨k,hk,rfl,hsp⟩:=hrel
  by_cases hkn:k<s.size
  ·have hc1:=HB.out k hkn
   generalize hx:(s.data.toList.getD k 0).toNat=x at hc1
   have Hx:=aeO hx
   clear hx
   go_wp2
   all_goals first
    | (go_ret
       have hb:=yaT hkn Hx (by clear HB hsp Hx hc1 HW hbel;try simp only[Bool.not_eq_true',Bool.not_eq_false',decide_eq_false_iff_not,decide_eq_true_eq,beq_iff_eq,bne_iff_ne,ne_eq,beq_eq_false_iff_ne,bne_eq_false_iff_eq]at *;omega)
       rw [hb];exact⟨rfl,hbel⟩)
    |exact⟨⟨k+1,by omega,by first|rfl|(congr 1;omega),Io hsp Hx (by clear HB hsp Hx hc1 HW hbel;try simp only[Bool.not_eq_true',Bool.not_eq_false',decide_eq_false_iff_not,decide_eq_true_eq,beq_iff_eq,bne_iff_ne,ne_eq,beq_eq_false_iff_ne,bne_eq_false_iff_eq]at *;omega)⟩,by simp[intOf];omega⟩
    |skip
   trace_state
  ·obtain rfl:k=s.size:=by omega
   have he:=Ln hsp
   go_wp2
   ·go_ret
    rename_i h _
    rw [(ZZ s).1 h]
    exact ⟨rfl,hbel⟩
   ·go_ret
    rename_i h _
    refine ⟨?_,hbel⟩
    have h0:s.size≠0:=fun e=>h ((ZZ s).2 e)
    have e1:s.toList.isEmpty=false:=by cases hl:s.toList with
     |nil=>exact(h hl).elim
     |cons a l=>rfl
    have e2:decide (0<s.size)=true:=decide_eq_true (by omega)
    have e3:decide ((s.size:Int)<=24)=decide (s.size<=24):=decide_eq_decide.2 (by omega)
    rw [e2]
    show Ending.returned (.bool (!s.toList.isEmpty&&decide ((s.size:Int)<=24)))=_
    rw [e1,e3];rfl
end Go.Proofs
namespace Go.Dx
open Go.Sx Go.Proofs
noncomputable section
def GW:aB:=bF [.str] (fun
 |[.str s]=>s.size<=9223372036854775807
 |_=>False) fun
 |[.str s]=>.bool (iI s)
 |_=>.any
theorem Rm:(vP GW).Ok Tryz.prog 196:=by
 refine ⟨fun B m lh w args vs K hrel hargs hsp=>?_,fun _ _ _ _ _ hk ⟨ds,d,p,r,h1,h2,h3,h4,h5⟩=>⟨ds,d,p,r,h1,h2,h3,h4,hk _ _ h5⟩,fun _ _ _ _ ⟨_,_,_,_,_,_,_,_,h⟩=>h⟩
 obtain ⟨ds,d,p,r,h1,h2,⟨h30,h3⟩,h4,h5⟩:=hsp
 simp only [GW,bF,Option.some.injEq,Prod.mk.injEq]at h2
 obtain ⟨rfl,rfl,rfl⟩:=h2
 have hty:=(iB [.str] ds [] [] rfl h30).1
 simp only [bp,cE]at hty
 obtain ⟨e1,e2,e3⟩:=hty
 rw [e2,e3]at e1
 generalize sv (ap ds)=s at e1
 subst e1
 simp only [jC,Qp]at h3 h4 h5
 simp only [bl,vr]at h1
 obtain ⟨_,_,rfl,rfl,rfl⟩:=h1
 simp only [ay,vrel]at hargs
 obtain ⟨_,_,rfl,rfl,rfl⟩:=hargs
 refine ⟨⟨_,Tryz.func196,by kernel_rfl,by kernel_rfl⟩,(Tryz.name_calls s w h3).mono fun e w' ⟨he,hb⟩=>?_⟩
 exact ⟨_,_,m,lh,he,by simp only[ce,vrel],gJ.refl _ _,aZ.below hrel hb,h5⟩
end
end Go.Dx
namespace Go.Dx
open Go.IntKind (i64 u64 u8)
open Go.Sx Go.Proofs
variable (n0:Nat) (f0:aN) (x0:Int) (s0:ByteArray) (n1:Nat) (f1:aN) (x1:Int) (n2:Nat) (f2:aN) (x2:Int) (s2:ByteArray) (n3:Nat) (f3:aN) (x3:Int) (n4:Nat) (f4:aN) (x4:Int) (n5:Nat) (f5:aN) (x5 x6:Int) (n7:Nat) (f7:aN) (x7 x8 x9 x10 x11 x12 x13:Int) (n14:Nat) (f14:aN) (n16:Nat) (f16:aN)
noncomputable section
def q9:bj:=[(32,.con C30),(94,.con C31),(30,.con C32),(93,.con C33),(171,.con C50),(172,.con C82),(82,.con C80),(81,.con C44),(228,.con C91),(64,.con C24),(60,.con C23),(146,.con C70),(135,.con C62),(141,.con C68),(136,.con C63),(142,.con C69),(211,.inl NF u0),(210,.inl LU u0),(209,.con Tk),(207,.con Vs),(150,.con C73),(253,.con WE),(137,.con C64),(139,.con C66),(205,.con RJ),(138,.con C65),(140,.con C67),(219,.con Pz),(149,.con C72),(206,.con C45),(208,.con C90),(213,.con Qg),(215,.con Kw),(152,.con C99),(252,.con OE),(254,.con Kf),(255,.con Qs),(204,.con NE),(212,.con Oq),(214,.con LB),(147,.con C51),(221,.con Qq),(250,.con NA),(84,.con C78),(83,.con C81),(229,.con C88),(162,.con C84),(163,.con Qm),(161,.con C86),(148,.con C71),(173,.con C79),(309,.con Wn),(251,.con NB),(196,.con GW)]
theorem mb:aW Tryz.prog eqs its q9:=.con ajd (.con aje (.con aks (.con ang (.con aiF (.con abq (.con adw (.con agd (.con adD (.con acU (.con Xw (.con adt (.con aiH (.con agA (.con aft (.con agJ (fZ Tryz.func211 (by kernel_rfl) (fZ Tryz.func210 (by kernel_rfl) (.con LE (.con Qb (.con adW (.con Qn (.con aci (.con aeE (.con Fy (.con Ut (.con WJ (.con H6 (.con WP (.con R5 (.con Vr (.con HF (.con Fu (.con VM (.con EB (.con Gu (.con Fb (.con Gs (.con F4 (.con Hz (.con Uv (.con yaI (.con ET (.con Tl (.con Tc (.con TR (.con UR (.con Hm (.con PV (.con Xk (.con UL (.con ND (.con Nb (.con Rm (.nil))))))))))))))))))))))))))))))))))))))))))))))))))))))
def aac:RT Empty:=.ii (.obi (.ret (V.bool (bif decide (x1<=x0) then decide (x0<=x2) else false))))
theorem SO:cJ cL (aP JJ q9 u0 afw [vi x0,vi x1,vi x2]) (aac x0 x1 x2):=⟨by kernel_rfl,by kernel_rfl⟩
def av:Bool:=bif decide (x1<=x0) then decide (x0<=x2) else false
def M7:V:=.bool (av x0 x1 x2)
theorem acn:aR cq (aac x0 x1 x2) (M7 x0 x1 x2):=evObi (evObi (evObi (evRet (by unfold M7 av;rfl))))
def E9:aB:=bF bQ (fun _=>True) fun
 |[.int _ x0,.int _ x1,.int _ x2]=>M7 x0 x1 x2
 |_=>.any
theorem Ed:(vP E9).Ok Tryz.prog 133:=bV mb Tryz.func133 (by kernel_rfl) fun ds hp=>cQ (SO ..) (acn _ _ _)
def XW:RT Empty:=.iv (.iv (.obi (.ret (V.bool (bif bif decide (x2<=x0) then decide (x0<=x1) else false then decide (x1<=x3) else false)))))
theorem Xs:cJ cL (aP JJ q9 u0 aig [V.agg [vi x0,vi x1],vi x2,vi x3]) (XW x0 x1 x2 x3):=⟨by kernel_rfl,by kernel_rfl⟩
def eS:Bool:=bif bif decide (x2<=x0) then decide (x0<=x1) else false then decide (x1<=x3) else false
def Qx:V:=.bool (eS x0 x1 x2 x3)
theorem aiP:aR cq (XW x0 x1 x2 x3) (Qx x0 x1 x2 x3):=evObi (evObi (evObi (evObi (evObi (evObi (evObi (evObi (evObi (evRet (by unfold Qx eS;rfl))))))))))
def Mb:aB:=bF [.agg bZ,tI,tI] (fun _=>True) fun
 |[.agg [.int _ x0,.int _ x1],.int _ x2,.int _ x3]=>Qx x0 x1 x2 x3
 |_=>.any
theorem LF:(vP Mb).Ok Tryz.prog 134:=bV mb Tryz.func134 (by kernel_rfl) fun ds hp=>cQ (Xs ..) (aiP _ _ _ _)
def Zo:RT Empty:=.ii (.obi (.ret (V.bool (bif decide (x1<=x0) then decide (x0<=x2) else false))))
theorem ybi:cJ cL (aP JJ q9 u0 Mn [vi x0,vi x1,vi x2]) (Zo x0 x1 x2):=⟨by kernel_rfl,by kernel_rfl⟩
def ge:Bool:=bif decide (x1<=x0) then decide (x0<=x2) else false
def LA:V:=.bool (ge x0 x1 x2)
theorem abg:aR cq (Zo x0 x1 x2) (LA x0 x1 x2):=evObi (evObi (evObi (evRet (by unfold LA ge;rfl))))
def Rs:aB:=bF bQ (fun _=>True) fun
 |[.int _ x0,.int _ x1,.int _ x2]=>LA x0 x1 x2
 |_=>.any
theorem Mh:(vP Rs).Ok Tryz.prog 61:=bV mb Tryz.func61 (by kernel_rfl) fun ds hp=>cQ (ybi ..) (abg _ _ _)
def X3:RT Empty:=.ii (.obi (.ret (V.bool (bif decide (x1<=x0) then decide (x0<=x2) else false))))
theorem WK:cJ cL (aP JJ q9 u0 aip [vi x0,vi x1,vi x2]) (X3 x0 x1 x2):=⟨by kernel_rfl,by kernel_rfl⟩
def ci:Bool:=bif decide (x1<=x0) then decide (x0<=x2) else false
def JN:V:=.bool (ci x0 x1 x2)
theorem agZ:aR cq (X3 x0 x1 x2) (JN x0 x1 x2):=evObi (evObi (evObi (evRet (by unfold JN ci;rfl))))
def LI:aB:=bF bQ (fun _=>True) fun
 |[.int _ x0,.int _ x1,.int _ x2]=>JN x0 x1 x2
 |_=>.any
theorem RG:(vP LI).Ok Tryz.prog 65:=bV mb Tryz.func65 (by kernel_rfl) fun ds hp=>cQ (WK ..) (agZ _ _ _)
def YW:RT Empty:=.ii (.obi (.ret (V.bool (bif decide (x1<=x0) then decide (x0<=x2) else false))))
theorem VK:cJ cL (aP JJ q9 u0 adv [vi x0,vi x1,vi x2]) (YW x0 x1 x2):=⟨by kernel_rfl,by kernel_rfl⟩
def aA:Bool:=bif decide (x1<=x0) then decide (x0<=x2) else false
def Nv:V:=.bool (aA x0 x1 x2)
theorem ad2:aR cq (YW x0 x1 x2) (Nv x0 x1 x2):=evObi (evObi (evObi (evRet (by unfold Nv aA;rfl))))
def JG:aB:=bF bQ (fun _=>True) fun
 |[.int _ x0,.int _ x1,.int _ x2]=>Nv x0 x1 x2
 |_=>.any
theorem OI:(vP JG).Ok Tryz.prog 180:=bV mb Tryz.func180 (by kernel_rfl) fun ds hp=>cQ (VK ..) (ad2 _ _ _)
def aas:RT Empty:=dm (n1,f1,n3,f3,n5,f5,x7,x8) (.ret (V.str s0))
theorem S9:cJ cL (aP JJ q9 u0 agp [V.agg [V.str s0,V.sl n1 (aa ae f1),V.sl n3 (aa ae f3),V.sl n5 (aa [Ty.sl ae] f5),vi x7,vi x8]]) (aas s0 n1 f1 n3 f3 n5 f5 x7 x8):=⟨by kernel_rfl,by kernel_rfl⟩
def N1:V:=dm (n1,f1,n3,f3,n5,f5,x7,x8) (.str (s0))
theorem adf:aR cq (aas s0 n1 f1 n3 f3 n5 f5 x7 x8) (N1 s0 n1 f1 n3 f3 n5 f5 x7 x8):=evRet (by unfold N1 ; rfl)
def QL:aB:=bF [.agg ak] (fun _=>True) fun
 |[.agg [.str s0,.sl n1 f1,.sl n3 f3,.sl n5 f5,.int _ x7,.int _ x8]]=>N1 s0 n1 f1 n3 f3 n5 f5 x7 x8
 |_=>.any
theorem OF:(vP QL).Ok Tryz.prog 128:=bV mb Tryz.func128 (by kernel_rfl) fun ds hp=>cQ (S9 ..) (adf _ _ _ _ _ _ _ _ _)
def ZK:RT Empty:=dm (x1,x2,x3,x4,x5,x6,x7,x8,x9,x10,x11,x12,x13) (.ret (V.str s0))
theorem ybk:cJ cL (aP JJ q9 u0 aeV [V.agg [V.str s0,vi x1,vi x2,vi x3,vi x4,vi x5,vi x6,vi x7,vi x8,vi x9,vi x10,vi x11,vi x12,vi x13]]) (ZK s0 x1 x2 x3 x4 x5 x6 x7 x8 x9 x10 x11 x12 x13):=⟨by kernel_rfl,by kernel_rfl⟩
def KT:V:=dm (x1,x2,x3,x4,x5,x6,x7,x8,x9,x10,x11,x12,x13) (.str (s0))
theorem ait:aR cq (ZK s0 x1 x2 x3 x4 x5 x6 x7 x8 x9 x10 x11 x12 x13) (KT s0 x1 x2 x3 x4 x5 x6 x7 x8 x9 x10 x11 x12 x13):=evRet (by unfold KT ; rfl)
def MR:aB:=bF [.agg ah] (fun _=>True) fun
 |[.agg [.str s0,.int _ x1,.int _ x2,.int _ x3,.int _ x4,.int _ x5,.int _ x6,.int _ x7,.int _ x8,.int _ x9,.int _ x10,.int _ x11,.int _ x12,.int _ x13]]=>KT s0 x1 x2 x3 x4 x5 x6 x7 x8 x9 x10 x11 x12 x13
 |_=>.any
theorem Px:(vP MR).Ok Tryz.prog 131:=bV mb Tryz.func131 (by kernel_rfl) fun ds hp=>cQ (ybk ..) (ait _ _ _ _ _ _ _ _ _ _ _ _ _ _)
def aa7:RT Empty:=.ob (decide (x1≠0)) (.br (decide (x0.tmod x1<0)) (.ob (decide (x1≠0)) (.ret (vi (wI (wI (x0.tdiv x1)-1))))) (.ob (decide (x1≠0)) (.ret (vi (wI (x0.tdiv x1))))))
theorem Sa:cJ cL (aP JJ q9 u0 ahs [vi x0,vi x1]) (aa7 x0 x1):=⟨by kernel_rfl,by kernel_rfl⟩
def cw:Int:=bif decide (x0.tmod x1<0) then wI (wI (x0.tdiv x1)-1) else wI (x0.tdiv x1)
def Hh:V:=vi (cw x0 x1)
theorem aeu (hp:x1≠0):aR cq (aa7 x0 x1) (Hh x0 x1):=aE (by first|assumption|(simp[hp])) (evBr (fun h0=>aE (by first|assumption|(simp[hp])) (evRet (by unfold Hh cw;try rw[h0];rfl))) (fun h0=>aE (by first|assumption|(simp[hp])) (evRet (by unfold Hh cw;try rw[h0];rfl))))
def KH:aB:=bF bZ (fun
 |[.int _ x0,.int _ x1]=>x1≠0
 |_=>False) fun
 |[.int _ x0,.int _ x1]=>Hh x0 x1
 |_=>.any
theorem Kb:(vP KH).Ok Tryz.prog 181:=bV mb Tryz.func181 (by kernel_rfl) fun ds hp=>cQ (Sa ..) (aeu _ _ hp)
def YN:RT Empty:=.ob (decide (x1≠0)) (.ob (decide (x1≠0)) (.br (decide (x0.tmod x1<0)) (.ret (vi (wI (wI (x0.tdiv x1)-1)))) (.ret (vi (wI (x0.tdiv x1))))))
theorem XI:cJ cL (aP JJ q9 u0 acq [vi x0,vi x1]) (YN x0 x1):=⟨by kernel_rfl,by kernel_rfl⟩
def ea:Int:=bif decide (x0.tmod x1<0) then wI (wI (x0.tdiv x1)-1) else wI (x0.tdiv x1)
def BN:V:=vi (ea x0 x1)
theorem agV (hp:x1≠0):aR cq (YN x0 x1) (BN x0 x1):=aE (by first|assumption|(simp[hp])) (aE (by first|assumption|(simp[hp])) (evBr (fun h0=>evRet (by unfold BN ea;try rw[h0];rfl)) (fun h0=>evRet (by unfold BN ea;try rw[h0];rfl))))
def OO:aB:=bF bZ (fun
 |[.int _ x0,.int _ x1]=>x1≠0
 |_=>False) fun
 |[.int _ x0,.int _ x1]=>BN x0 x1
 |_=>.any
theorem D2:(vP OO).Ok Tryz.prog 91:=bV mb Tryz.func91 (by kernel_rfl) fun ds hp=>cQ (XI ..) (agV _ _ hp)
def Y4:RT Empty:=.ob (decide (x1≠0)) (.ob (decide (x1≠0)) (.br (decide (x0.tmod x1<0)) (.ret (vi (wI (wI (x0.tdiv x1)-1)))) (.ret (vi (wI (x0.tdiv x1))))))
theorem Tn:cJ cL (aP JJ q9 u0 acF [V.agg [vi x0,vi x1]]) (Y4 x0 x1):=⟨by kernel_rfl,by kernel_rfl⟩
def cP:Int:=bif decide (x0.tmod x1<0) then wI (wI (x0.tdiv x1)-1) else wI (x0.tdiv x1)
def AF:V:=vi (cP x0 x1)
theorem abD (hp:x1≠0):aR cq (Y4 x0 x1) (AF x0 x1):=aE (by first|assumption|(simp[hp])) (aE (by first|assumption|(simp[hp])) (evBr (fun h0=>evRet (by unfold AF cP;try rw[h0];rfl)) (fun h0=>evRet (by unfold AF cP;try rw[h0];rfl))))
def LS:aB:=bF [.agg bZ] (fun
 |[.agg [.int _ x0,.int _ x1]]=>x1≠0
 |_=>False) fun
 |[.agg [.int _ x0,.int _ x1]]=>AF x0 x1
 |_=>.any
theorem CE:(vP LS).Ok Tryz.prog 106:=bV mb Tryz.func106 (by kernel_rfl) fun ds hp=>cQ (Tn ..) (abD _ _ hp)
def Yb:RT Empty:=.ob (decide (x1≠0)) (.br (decide (x0.tmod x1<0)) (.ob (decide (x1≠0)) (.ret (vi (wI (wI (x0.tdiv x1)-1))))) (.ob (decide (x1≠0)) (.ret (vi (wI (x0.tdiv x1))))))
theorem Tg:cJ cL (aP JJ q9 u0 aiN [vi x0,vi x1]) (Yb x0 x1):=⟨by kernel_rfl,by kernel_rfl⟩
def er:Int:=bif decide (x0.tmod x1<0) then wI (wI (x0.tdiv x1)-1) else wI (x0.tdiv x1)
def GA:V:=vi (er x0 x1)
theorem aiA (hp:x1≠0):aR cq (Yb x0 x1) (GA x0 x1):=aE (by first|assumption|(simp[hp])) (evBr (fun h0=>aE (by first|assumption|(simp[hp])) (evRet (by unfold GA er;try rw[h0];rfl))) (fun h0=>aE (by first|assumption|(simp[hp])) (evRet (by unfold GA er;try rw[h0];rfl))))
def Pj:aB:=bF bZ (fun
 |[.int _ x0,.int _ x1]=>x1≠0
 |_=>False) fun
 |[.int _ x0,.int _ x1]=>GA x0 x1
 |_=>.any
theorem MY:(vP Pj).Ok Tryz.prog 120:=bV mb Tryz.func120 (by kernel_rfl) fun ds hp=>cQ (Tg ..) (aiA _ _ hp)
def qD:bj:=(133,.con E9)::(134,.con Mb)::(61,.con Rs)::(65,.con LI)::(180,.con JG)::(128,.con QL)::(131,.con MR)::(181,.con KH)::(91,.con OO)::(106,.con LS)::(120,.con Pj)::q9
theorem ol:aW Tryz.prog eqs its qD:=.con Ed (.con LF (.con Mh (.con RG (.con OI (.con OF (.con Px (.con Kb (.con D2 (.con CE (.con MY (mb)))))))))))
def X5:RT Empty:=.obp (nz x1) (.obt (.ret (vi (wI (0-cw (wI (0-x0)) x1)))))
theorem XB:cJ cL (aP JJ qD u0 aej [vi x0,vi x1]) (X5 x0 x1):=⟨by kernel_rfl,by kernel_rfl⟩
def cX:Int:=wI (0-cw (wI (0-x0)) x1)
def Qu:V:=vi (cX x0 x1)
theorem ah5 (hp:x1≠0):aR cq (X5 x0 x1) (Qu x0 x1):=evObp (by first|assumption|(exact hp)) (evObt (evRet (by unfold Qu cX;rfl)))
def P8:aB:=bF bZ (fun
 |[.int _ x0,.int _ x1]=>x1≠0
 |_=>False) fun
 |[.int _ x0,.int _ x1]=>Qu x0 x1
 |_=>.any
theorem Ko:(vP P8).Ok Tryz.prog 182:=bV ol Tryz.func182 (by kernel_rfl) fun ds hp=>cQ (XB ..) (ah5 _ _ hp)
def aaa:RT Empty:=.obp (nz x1) (.obt (.ret (vi (wI (0-ea (wI (0-x0)) x1)))))
theorem SN:cJ cL (aP JJ qD u0 ac5 [vi x0,vi x1]) (aaa x0 x1):=⟨by kernel_rfl,by kernel_rfl⟩
def fo:Int:=wI (0-ea (wI (0-x0)) x1)
def GG:V:=vi (fo x0 x1)
theorem adB (hp:x1≠0):aR cq (aaa x0 x1) (GG x0 x1):=evObp (by first|assumption|(exact hp)) (evObt (evRet (by unfold GG fo;rfl)))
def N9:aB:=bF bZ (fun
 |[.int _ x0,.int _ x1]=>x1≠0
 |_=>False) fun
 |[.int _ x0,.int _ x1]=>GG x0 x1
 |_=>.any
theorem DC:(vP N9).Ok Tryz.prog 92:=bV ol Tryz.func92 (by kernel_rfl) fun ds hp=>cQ (SN ..) (adB _ _ hp)
def XT:RT Empty:=.obp (nz x1) (.obt (.ret (vi (wI (0-cP (wI (0-x0)) x1)))))
theorem SL:cJ cL (aP JJ qD u0 ae8 [V.agg [vi x0,vi x1]]) (XT x0 x1):=⟨by kernel_rfl,by kernel_rfl⟩
def cH:Int:=wI (0-cP (wI (0-x0)) x1)
def FY:V:=vi (cH x0 x1)
theorem ahe (hp:x1≠0):aR cq (XT x0 x1) (FY x0 x1):=evObp (by first|assumption|(exact hp)) (evObt (evRet (by unfold FY cH;rfl)))
def Ms:aB:=bF [.agg bZ] (fun
 |[.agg [.int _ x0,.int _ x1]]=>x1≠0
 |_=>False) fun
 |[.agg [.int _ x0,.int _ x1]]=>FY x0 x1
 |_=>.any
theorem Cs:(vP Ms).Ok Tryz.prog 108:=bV ol Tryz.func108 (by kernel_rfl) fun ds hp=>cQ (SL ..) (ahe _ _ hp)
def X9:RT Empty:=.obp (nz x1) (.obt (.ret (vi (wI (0-er (wI (0-x0)) x1)))))
theorem WL:cJ cL (aP JJ qD u0 agr [vi x0,vi x1]) (X9 x0 x1):=⟨by kernel_rfl,by kernel_rfl⟩
def cY:Int:=wI (0-er (wI (0-x0)) x1)
def PW:V:=vi (cY x0 x1)
theorem acE (hp:x1≠0):aR cq (X9 x0 x1) (PW x0 x1):=evObp (by first|assumption|(exact hp)) (evObt (evRet (by unfold PW cY;rfl)))
def K2:aB:=bF bZ (fun
 |[.int _ x0,.int _ x1]=>x1≠0
 |_=>False) fun
 |[.int _ x0,.int _ x1]=>PW x0 x1
 |_=>.any
theorem Lr:(vP K2).Ok Tryz.prog 99:=bV ol Tryz.func99 (by kernel_rfl) fun ds hp=>cQ (WL ..) (acE _ _ hp)
def XV:RT Empty:=.obi (.br (decide (x0<=x1)) (.ob (decide (x0<=x1)) (.ob (decide (x0<=x1)) (.ob (decide (x0<=x1)) (.cb (.obi (.br (aA x0 x2 x3) (.ob (aA x0 x2 x3) (.ob (aA x0 x2 x3) (.ob (aA x0 x2 x3) (.cb (.ret (V.bool (aA x1 x2 x3))))))) (.ret (V.kb false)))))))) (.ret (V.kb false)))
theorem TM:cJ cL (aP JJ qD u0 aij [V.agg [vi x0,vi x1],vi x2,vi x3]) (XV x0 x1 x2 x3):=⟨by kernel_rfl,by kernel_rfl⟩
def eb:Bool:=bif decide (x0<=x1) then bif aA x0 x2 x3 then aA x1 x2 x3 else false else false
def A7:V:=.bool (eb x0 x1 x2 x3)
theorem afZ:aR cq (XV x0 x1 x2 x3) (A7 x0 x1 x2 x3):=evObi (evBr (fun h0=>aE (by first|assumption|(fail)) (aE (by first|assumption|(fail)) (aE (by first|assumption|(fail)) (aw (evObt (evObi (evBr (fun h1=>aE (by first|assumption|(fail)) (aE (by first|assumption|(fail)) (aE (by first|assumption|(fail)) (aw (evObt (evRet (by unfold A7 eb;try rw[h0];try rw[h1];rfl))))))) (fun h1=>evRet (by unfold A7 eb;try rw[h0];try rw[h1];rfl))))))))) (fun h0=>evRet (by unfold A7 eb;try rw[h0];rfl)))
def P6:aB:=bF [.agg bZ,tI,tI] (fun _=>True) fun
 |[.agg [.int _ x0,.int _ x1],.int _ x2,.int _ x3]=>A7 x0 x1 x2 x3
 |_=>.any
theorem JA:(vP P6).Ok Tryz.prog 218:=bV ol Tryz.func218 (by kernel_rfl) fun ds hp=>cQ (TM ..) (afZ _ _ _ _)
def aa5:RT Empty:=.cb (.ret (V.bool !av x0 x1 x2))
theorem WY:cJ cL (aP JJ qD u0 Ju [vi x0,V.pd [vi x1],V.pd [vi x2]]) (aa5 x0 x1 x2):=⟨by kernel_rfl,by kernel_rfl⟩
def pT:Bool:=!av x0 x1 x2
def Nh:V:=.bool (pT x0 x1 x2)
theorem adc:aR cq (aa5 x0 x1 x2) (Nh x0 x1 x2):=aw (evObt (evRet (by unfold Nh pT;rfl)))
def QY:aB:=bF [tI,.pd ae,.pd ae] (fun _=>True) fun
 |[.int _ x0,.pd [.int _ x1],.pd [.int _ x2]]=>Nh x0 x1 x2
 |_=>.any
theorem QR:(vP QY).Ok Tryz.prog 222:=bV ol Tryz.func222 (by kernel_rfl) fun ds hp=>cQ (WY ..) (adc _ _ _)
theorem xo (n:Nat) (p:Nat->Bool):cz (n+1) p=bif cz n p then p n else false:=by
 cases h:cz n p with
 | false =>
   cases h2:cz (n+1) p with
   |false=>rfl
   |true=>rw[eu fun i hi=>cS h2 i (by omega)]at h;cases h
 | true =>
   cases h3:p n with
   |false=>rw[eY n (by omega) h3];rfl
   | true=>rw[eu fun i hi=>by
      by_cases e:i=n
      ·subst e;exact h3
      ·exact cS h i (by omega)];rfl
theorem xF {S:Type} {Nx:S->V->Prop} {r:V} {x:RT S} {c:Bool} {i n:Nat} (h:i<n) (hn:n<=9223372036854775807) (hc:c=true->((i:Int)==0)=false) (hx:aR Nx x r):aR Nx (.obj c (decide (0<=wI ((i:Int)-1)/\wI ((i:Int)-1)<(n:Int))) x) r:=⟨fun hb=>by
 have h0:(i:Int)≠0:=by have:=hc hb;simpa using this
 exact dqt (by rw[wrapI (by omega) (by omega)];omega),hx⟩
def R0 (i:Nat):Bool:=bif(i:Int)==0 then true else decide (ar (f0 (wI ((i:Int)-1)).toNat)<ar (f0 (i:Int).toNat))
def rng (i:Nat):Bool:=aA (ar (f0 (i:Int).toNat)) (-5000) 5000
inductive rY where
 |L0 (ia0:Int)
def WO:rY->bz×List O×Option Ex
 |.L0 ia0=>([(3,vi ia0),(2,V.kb false),(0,V.sl n0 (aa ae f0))],[],none)
def aeR:rY->JJ
 |.L0 ia0=>(0,[])
def KW:T (bO JJ):=aP JJ qD u0 aff [V.sl n0 (aa ae f0)]
def Bm (cx:List Cx):Lp JJ:=eR (ej (KW n0 f0) [])
def ab8:JJ->Lp JJ
 |(0,cx)=>Bm n0 f0 cx
 |(_,cx)=>Bm n0 f0 cx
def akn:LD JJ rY:=⟨aeR,ab8 n0 f0,WO n0 f0⟩
def yZ:rY->RT rY
 |.L0 ia0=>.am n0 (.br (decide (ia0<(↑n0:Int))) (.ob (dI (wI (ia0-1)) n0) (.ob (dI ia0 n0) (.br (decide (ar (f0 ia0.toNat)<=ar (f0 (wI (ia0-1)).toNat))) (.ret (V.kb false)) (.next [] (rY.L0 (wI (ia0+1))) [])))) (.ret (V.kb true)))
def Jj:RT rY:=dm (n0,f0) (.enter [] (rY.L0 (1)) [])
theorem Vx:dD qD u0 (akn n0 f0) (KW n0 f0) (Jj n0 f0) (yZ n0 f0):=⟨⟨by kernel_rfl,by kernel_rfl⟩,fun s=>by cases s<;>exact⟨by kernel_rfl,by kernel_rfl⟩⟩
def d0:Bool:=cz n0 (R0 f0)
theorem MP:aR (Ev (yZ n0 f0)) (Jj n0 f0) (.bool (d0 n0 f0)):=by
 have key:=cO (n:=n0) (P:=fun i=>1<=i->(∀ j,j<i->R0 f0 j=true)->Ev (yZ n0 f0) (.L0 i) (.bool (d0 n0 f0))) fun i hi ih h1 hj=>by
  refine Ev.of rfl (bg fun hn=>evBr (fun h=>?_) (fun h=>evRet ?_))
  ·have hlt:i<n0:=by have:=of_decide_eq_true h;omega
   have h0:((i:Int)==0)=false:=by simp;omega
   refine aE (dqt (by rw[wrapI (by omega) (by omega)];omega)) (aE (dqt (by omega)) (evBr (fun hb=>evRet ?_) (fun hb=>aK ?_)))
   ·have hr:R0 f0 i=false:=by unfold R0;rw[h0];exact gx (by have:=of_decide_eq_true hb;omega)
    simp only [ce];unfold d0;rw[eY i hlt hr]
   ·have hr:R0 f0 i=true:=by unfold R0;rw[h0];exact dqt (by have:=of_decide_eq_false hb;omega)
    rw [j7 hlt hn]
    refine ih hlt (by omega) fun j h2=>?_
    by_cases e:j=i
    ·subst e;exact hr
    ·exact hj j (by omega)
  ·have:i=n0:=by have:=of_decide_eq_false h;omega
   subst this
   simp only [ce];unfold d0;rw[eu hj]
 by_cases h0:n0=0
 ·subst h0;exact aF (Ev.of rfl (bg fun _=>ed rfl (evRet rfl)))
 ·exact aF (key 1 (by omega) (by omega) fun j hj=>by
   have:j=0:=by omega
   subst this;rfl)
theorem acD:aR (Ev (yZ n0 f0)) (Jj n0 f0) (.bool (d0 n0 (aa ae f0))):=MP n0 f0
def KQ:aB:=bF [.sl ae] (fun _=>True) fun
 |[.sl n0 f0]=>.bool (d0 n0 f0)
 |_=>.any
theorem Lq:(vP KQ).Ok Tryz.prog 200:=bV ol Tryz.func200 (by kernel_rfl) fun ds hp=>iS (Vx ..) (acD _ _)
inductive sA where
 |L0 (ia0:Int)
def U7:sA->bz×List O×Option Ex
 |.L0 ia0=>([(3,vi ia0),(21,V.kb false),(17,V.bool (bif bif decide ((↑s0.size:Int)<1) then true else decide (24<(↑s0.size:Int)) then true else decide ((↑(s0.data.1.getD 0 0).toNat:Int)<97))),(16,V.bool (bif bif decide ((↑s0.size:Int)<1) then true else decide (24<(↑s0.size:Int)) then true else decide ((↑(s0.data.1.getD 0 0).toNat:Int)<97))),(12,V.bool (bif decide ((↑s0.size:Int)<1) then true else decide (24<(↑s0.size:Int)))),(11,V.bool (bif decide ((↑s0.size:Int)<1) then true else decide (24<(↑s0.size:Int)))),(7,V.bool (decide ((↑s0.size:Int)<1))),(6,V.bool (decide ((↑s0.size:Int)<1))),(5,vi (↑s0.size:Int)),(4,V.str s0),(2,V.kb false),(0,V.str s0)],[],none)
def abc:sA->JJ
 |.L0 ia0=>(0,[])
def Ph:T (bO JJ):=aP JJ qD u0 af8 [V.str s0]
def AH (cx:List Cx):Lp JJ:=eR (ej (Ph s0) [false])
def agS:JJ->Lp JJ
 |(0,cx)=>AH s0 cx
 |(_,cx)=>AH s0 cx
def ali:LD JJ sA:=⟨abc,agS s0,U7 s0⟩
def DR:sA->RT sA
 |.L0 ia0=>.br (decide (ia0<(↑s0.size:Int))) (.ob (decide (0<=ia0/\ia0<(↑s0.size:Int))) (.ii (.obj (decide (97<=(↑(s0.data.1.getD ia0.toNat 0).toNat:Int))) (decide (0<=ia0/\ia0<(↑s0.size:Int))) (.iv (.obj (!bif decide (97<=(↑(s0.data.1.getD ia0.toNat 0).toNat:Int)) then decide ((↑(s0.data.1.getD ia0.toNat 0).toNat:Int)<=122) else false) (decide (0<=ia0/\ia0<(↑s0.size:Int))) (.iv (.obj ((!bif decide (97<=(↑(s0.data.1.getD ia0.toNat 0).toNat:Int)) then decide ((↑(s0.data.1.getD ia0.toNat 0).toNat:Int)<=122) else false)&&decide (48<=(↑(s0.data.1.getD ia0.toNat 0).toNat:Int))) (decide (0<=ia0/\ia0<(↑s0.size:Int))) (.iv (.ii (.obj (!bif bif decide (97<=(↑(s0.data.1.getD ia0.toNat 0).toNat:Int)) then decide ((↑(s0.data.1.getD ia0.toNat 0).toNat:Int)<=122) else false then true else bif decide (48<=(↑(s0.data.1.getD ia0.toNat 0).toNat:Int)) then decide ((↑(s0.data.1.getD ia0.toNat 0).toNat:Int)<=57) else false) (decide (0<=ia0/\ia0<(↑s0.size:Int))) (.ii (.br (!bif bif bif decide (97<=(↑(s0.data.1.getD ia0.toNat 0).toNat:Int)) then decide ((↑(s0.data.1.getD ia0.toNat 0).toNat:Int)<=122) else false then true else bif decide (48<=(↑(s0.data.1.getD ia0.toNat 0).toNat:Int)) then decide ((↑(s0.data.1.getD ia0.toNat 0).toNat:Int)<=57) else false then true else(↑(s0.data.1.getD ia0.toNat 0).toNat:Int)==45) (.ret (V.kb false)) (.next [] (sA.L0 (wI (ia0+1))) []))))))))))))) (.ret (V.kb true))
def Nk:RT sA:=.iv (.obj (!bif decide ((↑s0.size:Int)<1) then true else decide (24<(↑s0.size:Int))) (decide ((0:Int)<=0/\0<(↑s0.size:Int))) (.ii (.obi (.obj (!bif bif decide ((↑s0.size:Int)<1) then true else decide (24<(↑s0.size:Int)) then true else decide ((↑(s0.data.1.getD 0 0).toNat:Int)<97)) (decide ((0:Int)<=0/\0<(↑s0.size:Int))) (.ii (.br (bif bif bif decide ((↑s0.size:Int)<1) then true else decide (24<(↑s0.size:Int)) then true else decide ((↑(s0.data.1.getD 0 0).toNat:Int)<97) then true else decide (122<(↑(s0.data.1.getD 0 0).toNat:Int))) (.ret (V.kb false)) (.enter [] (sA.L0 (0)) [])))))))
theorem XN:dD qD u0 (ali s0) (Ph s0) (Nk s0) (DR s0):=⟨⟨by kernel_rfl,by kernel_rfl⟩,fun s=>by cases s<;>exact⟨by kernel_rfl,by kernel_rfl⟩⟩
def wQ:Bool:=bif bif bif decide ((↑s0.size:Int)<1) then true else decide (24<(↑s0.size:Int)) then true else decide ((↑(s0.data.1.getD 0 0).toNat:Int)<97) then true else decide (122<(↑(s0.data.1.getD 0 0).toNat:Int))
def lg (ii:Nat):Bool:=!bif bif bif decide (97<=(↑(s0.data.1.getD ii 0).toNat:Int)) then decide ((↑(s0.data.1.getD ii 0).toNat:Int)<=122) else false then true else bif decide (48<=(↑(s0.data.1.getD ii 0).toNat:Int)) then decide ((↑(s0.data.1.getD ii 0).toNat:Int)<=57) else false then true else(↑(s0.data.1.getD ii 0).toNat:Int)==45
def j6:Bool:=bif wQ s0 then false else cz s0.size fun i=>!lg s0 i
theorem aqJ {c:Bool} {n:Nat} (h:(!bif decide ((n:Int)<1) then true else c)=true):decide ((0:Int)<=0/\0<(n:Int))=true:=by
 cases hs:decide ((n:Int)<1) with
 |true=>rw[hs]at h;cases h
 |false=>exact dqt ⟨by omega,by have:=of_decide_eq_false hs;omega⟩
theorem aoo {c d:Bool} {n:Nat} (h:(!bif bif decide ((n:Int)<1) then true else c then true else d)=true):decide ((0:Int)<=0/\0<(n:Int))=true:=by
 cases hs:decide ((n:Int)<1) with
 |true=>rw[hs]at h;cases h
 |false=>exact dqt ⟨by omega,by have:=of_decide_eq_false hs;omega⟩
theorem adQ (hp:s0.size<=9223372036854775807):aR (Ev (DR s0)) (Nk s0) (.bool (j6 s0)):=by
 unfold Nk
 repeat (first|refine evObi ?_|refine evObj aqJ ?_|refine evObj aoo ?_)
 refine evBr (fun h=>evRet ?_) (fun h=>aF ?_)
 ·unfold j6;rw[show wQ s0=true from h];rfl
 ·unfold j6;rw[show wQ s0=false from h,cond_false]
  refine iA hp (lg s0) (P:=fun i=>Ev (DR s0) (.L0 i) (.bool (cz s0.size fun i=>!lg s0 i))) (fun i hlt hj next=>Ev.of rfl (cr hlt (b7 hlt (by
   repeat (first|refine evObi ?_|refine ny hlt ?_)
   refine evBr (fun hb=>evRet ?_) (fun hb=>aK (next hb))
   simp only [ce];rw[eY i hlt (by rw[show lg s0 i=true from hb];rfl)]))))
   (fun hj=>Ev.of rfl (ck (evRet ?_)))
  simp only [ce];rw[eu fun i hi=>by rw[hj i hi];rfl]
def Pk:aB:=bF [.str] (fun
 |[.str s0]=>s0.size<=9223372036854775807
 |_=>False) fun
 |[.str s0]=>.bool (j6 s0)
 |_=>.any
theorem Jx:(vP Pk).Ok Tryz.prog 216:=bV ol Tryz.func216 (by kernel_rfl) fun ds hp=>iS (XN ..) (adQ _ hp)
inductive qN where
 |L0 (ia0:Int) (ba1:Bool) (ba2:Bool)
def Ts:qN->bz×List O×Option Ex
 |.L0 ia0 ba1 ba2=>([(5,vi ia0),(4,V.bool ba1),(3,V.bool ba2),(2,V.bool (aA (↑n0:Int) 2 12)),(8,V.bool (aA (↑n0:Int) 2 12)),(7,vi (↑n0:Int)),(6,V.sl n0 (aa ae f0)),(0,V.sl n0 (aa ae f0))],[],none)
def aiy:qN->JJ
 |.L0 ia0 ba1 ba2=>(0,[])
def Ld:T (bO JJ):=aP JJ qD u0 ags [V.sl n0 (aa ae f0)]
def Bh (cx:List Cx):Lp JJ:=eR (ej (Ld n0 f0) [])
def afD:JJ->Lp JJ
 |(0,cx)=>Bh n0 f0 cx
 |(_,cx)=>Bh n0 f0 cx
def ajs:LD JJ qN:=⟨aiy,afD n0 f0,Ts n0 f0⟩
def uS:qN->RT qN
 |.L0 ia0 ba1 ba2=>.am n0 (.br (decide (ia0<(↑n0:Int))) (.ii (.obj (ba2) (dI ia0 n0) (.obi (.br (ba2) (.ob (ba2) (.cb (.iv (.obj (ba1&&!ia0==0) (dI ia0 n0) (.iv (.obj (ba1&&!ia0==0) (dI (wI (ia0-1)) n0) (.iv (.ii (.next [] (qN.L0 (wI (ia0+1)) (bif ba1 then bif ia0==0 then true else decide (ar (f0 (wI (ia0-1)).toNat)<ar (f0 ia0.toNat)) else false) (aA (ar (f0 ia0.toNat)) (-5000) 5000)) []))))))))) (.iv (.obj (ba1&&!ia0==0) (dI ia0 n0) (.iv (.obj (ba1&&!ia0==0) (dI (wI (ia0-1)) n0) (.iv (.ii (.next [] (qN.L0 (wI (ia0+1)) (bif ba1 then bif ia0==0 then true else decide (ar (f0 (wI (ia0-1)).toNat)<ar (f0 ia0.toNat)) else false) (false)) []))))))))))) (.ret (V.tup [V.bool (aA (↑n0:Int) 2 12),V.bool ba2,V.bool ba1])))
def OG:RT qN:=dm f0 (.am n0 (.cb (.enter [] (qN.L0 (0) (true) (true)) [])))
theorem TC:dD qD u0 (ajs n0 f0) (Ld n0 f0) (OG n0 f0) (uS n0 f0):=⟨⟨by kernel_rfl,by kernel_rfl⟩,fun s=>by cases s<;>exact⟨by kernel_rfl,by kernel_rfl⟩⟩
def jA:Bool:=cz n0 (rng f0)
theorem P1 (n0:Nat) (f0:aN):aR (Ev (uS n0 f0)) (OG n0 f0) (.tup [.bool (aA (n0:Int) 2 12),.bool (jA n0 f0),.bool (d0 n0 f0)]):=by
 refine bg fun hn=>aw (evObt (aF (Bv hn (P:=fun x=>Ev (uS n0 f0) (.L0 x (cz x.toNat (R0 f0)) (cz x.toNat (rng f0))) (.tup [.bool (aA (n0:Int) 2 12),.bool (jA n0 f0),.bool (d0 n0 f0)])) (fun i hlt nx=>?_) (Ev.of rfl (evAsm fun _=>ck (evRet (by simp only[Int.toNat_natCast];rfl)))))))
 have nx':Ev (uS n0 f0) (.L0 (wI ((i:Int)+1)) (bif cz i (R0 f0) then R0 f0 i else false) (bif cz i (rng f0) then rng f0 i else false)) (.tup [.bool (aA (n0:Int) 2 12),.bool (jA n0 f0),.bool (d0 n0 f0)]):=by
  have:=nx
  rw [show(wI ((i:Int)+1)).toNat=i+1 by rw[j7 hlt hn];rfl,xo,xo]at this
  exact this
 simp only [Int.toNat_natCast]
 have hcc:∀ b:Bool,(b&&!(i:Int)==0)=true->((i:Int)==0)=false:=fun b h=>by cases b<;>cases he:((i:Int)==0)<;>simp_all
 refine Ev.of rfl (evAsm fun _=>cr hlt (evObi (evObi (ny hlt (evObi (evBr (fun hb=>aE hb (aw (evObt ?_))) (fun hb=>?_)))))))
 ·repeat (first|refine evObi ?_|refine ny hlt ?_|refine xF hlt hn (hcc _) ?_)
  rw [hb,cond_true]at nx'
  exact aK nx'
 ·repeat (first|refine evObi ?_|refine ny hlt ?_|refine xF hlt hn (hcc _) ?_)
  rw [hb,cond_false]at nx'
  exact aK nx' 
theorem aic (n0:Nat) (f0:aN):aR (Ev (uS n0 f0)) (OG n0 f0) (.tup [.bool (aA (n0:Int) 2 12),.bool (jA n0 (aa ae f0)),.bool (d0 n0 (aa ae f0))]):=P1 n0 f0
def Qc:aB:=bF [.sl ae] (fun _=>True) fun
 |[.sl n0 f0]=>.tup [.bool (aA (n0:Int) 2 12),.bool (jA n0 f0),.bool (d0 n0 f0)]
 |_=>.any
theorem JZ:(vP Qc).Ok Tryz.prog 217:=bV ol Tryz.func217 (by kernel_rfl) fun ds hp=>iS (TC ..) (aic _ _)
def SA:bj:=(182,.con P8)::(92,.con N9)::(108,.con Ms)::(99,.con K2)::(218,.con P6)::(222,.con QY)::(200,.con KQ)::(216,.con Pk)::(217,.con Qc)::qD
theorem Yi:aW Tryz.prog eqs its SA:=.con Ko (.con DC (.con Cs (.con Lr (.con JA (.con QR (.con Lq (.con Jx (.con JZ (ol)))))))))
inductive r8 where
 |L0 (ia0:Int)
def Wr:r8->bz×List O×Option Ex
 |.L0 ia0=>([(8,vi ia0),(7,vi (↑n0:Int)),(6,V.sl n0 (aa ae f0)),(4,vi 0),(0,V.sl n0 (aa ae f0)),(1,V.fn 222 [] [V.pd [vi x2],V.pd [vi x3]])],[],none)
def agO:r8->JJ
 |.L0 ia0=>(0,[])
def Jw:T (bO JJ):=aP JJ SA u0 Mm [V.sl n0 (aa ae f0),V.fn 222 [] [V.pd [vi x2],V.pd [vi x3]]]
def AQ (cx:List Cx):Lp JJ:=eR (ej (Jw n0 f0 x2 x3) [])
def adX:JJ->Lp JJ
 |(0,cx)=>AQ n0 f0 x2 x3 cx
 |(_,cx)=>AQ n0 f0 x2 x3 cx
def aju:LD JJ r8:=⟨agO,adX n0 f0 x2 x3,Wr n0 f0 x2 x3⟩
def yau:r8->RT r8
 |.L0 ia0=>.br (decide (ia0<(↑n0:Int))) (.ob (dI ia0 n0) (.cb (.br (pT (ar (f0 ia0.toNat)) x2 x3) (.ret (vi ia0)) (.next [] (r8.L0 (wI (ia0+1))) [])))) (.ret (vi (-1)))
def La:RT r8:=dm (f0,x2,x3) (.am n0 (.enter [] (r8.L0 (0)) []))
theorem Tw:dD SA u0 (aju n0 f0 x2 x3) (Jw n0 f0 x2 x3) (La n0 f0 x2 x3) (yau n0 f0 x2 x3):=⟨⟨by kernel_rfl,by kernel_rfl⟩,fun s=>by cases s<;>exact⟨by kernel_rfl,by kernel_rfl⟩⟩
def Ah:Int  :=zV n0 fun ii=>pT (ar (f0 ii)) x2 x3
theorem QV:aR (Ev (yau n0 f0 x2 x3)) (La n0 f0 x2 x3) (vi (Ah n0 f0 x2 x3)):=bg fun hn=>aF (rA hn fun i=>rfl)
theorem afg:aR (Ev (yau n0 f0 x2 x3)) (La n0 f0 x2 x3) (vi (Ah n0 (aa ae f0) x2 x3)):=QV n0 f0 x2 x3
def J2:aB:=bF [.sl ae,.fn 222 [] [.pd ae,.pd ae]] (fun _=>True) fun
 |[.sl n0 f0,.fn _ [] [.pd [.int _ x2],.pd [.int _ x3]]]=>vi (Ah n0 f0 x2 x3)
 |_=>.any
theorem JK:(vP J2).Ok Tryz.prog 221:=bV Yi Tryz.func221 (by kernel_rfl) fun ds hp=>iS (Tw ..) (afg _ _ _ _)
def aiG:bj:=(221,.con J2)::SA
theorem Ya:aW Tryz.prog eqs its aiG:=.con JK (Yi)
def ani:RT Empty:=.cb (.ret (V.bool (decide (0<=Ah n0 (aa ae f0) x2 x3))))
theorem acf:cJ cL (aP JJ aiG u0 aii [V.sl n0 (aa ae f0),V.fn 222 [] [V.pd [vi x2],V.pd [vi x3]]]) (ani n0 f0 x2 x3):=⟨by kernel_rfl,by kernel_rfl⟩
def yi:Bool:=decide (0<=Ah n0 (aa ae f0) x2 x3)
def air:V:=.bool (yi n0 f0 x2 x3)
theorem ajn:aR cq (ani n0 f0 x2 x3) (air n0 f0 x2 x3):=aw (evObt (evRet (by unfold air yi;rfl)))
def ad8:aB:=bF [.sl ae,.fn 222 [] [.pd ae,.pd ae]] (fun _=>True) fun
 |[.sl n0 f0,.fn _ [] [.pd [.int _ x2],.pd [.int _ x3]]]=>air n0 f0 x2 x3
 |_=>.any
theorem Z2:(vP ad8).Ok Tryz.prog 152:=bV Ya Tryz.func152 (by kernel_rfl) fun ds hp=>cQ (acf ..) (ajn _ _ _ _)
def ad5:bj:=(152,.con ad8)::aiG
theorem aa9:aW Tryz.prog eqs its ad5:=.con Z2 (Ya)
def aaF:RT Empty:=.cb (.ret (V.bool !yi n0 (aa ae f0) x2 x3))
theorem Uw:cJ cL (aP JJ ad5 u0 Pp [V.sl n0 (aa ae f0),vi x2,vi x3]) (aaF n0 f0 x2 x3):=⟨by kernel_rfl,by kernel_rfl⟩
def dF:Bool:=!yi n0 (aa ae f0) x2 x3
def Kz:V:=.bool (dF n0 f0 x2 x3)
theorem ab1:aR cq (aaF n0 f0 x2 x3) (Kz n0 f0 x2 x3):=aw (evObt (evRet (by unfold Kz dF;rfl)))
def KD:aB:=bF [.sl ae,tI,tI] (fun _=>True) fun
 |[.sl n0 f0,.int _ x2,.int _ x3]=>Kz n0 f0 x2 x3
 |_=>.any
theorem PI:(vP KD).Ok Tryz.prog 164:=bV aa9 Tryz.func164 (by kernel_rfl) fun ds hp=>cQ (Uw ..) (ab1 _ _ _ _)
def NQ:bj:=(164,.con KD)::ad5
theorem EH:aW Tryz.prog eqs its NQ:=.con PI (aa9)
def ZE:RT Empty:=dm (f0,s2,n3,f3,f5,n7,f7,x9,x10) (.am n0 (.am n5 (.ret (V.bool ((↑n0:Int)!=(↑n5:Int))))))
theorem Xb:cJ cL (aP JJ NQ u0 aeT [V.sl n0 (aa ae f0),V.pd [V.str s2,V.sl n3 (aa ae f3),V.sl n5 (aa ae f5),V.sl n7 (aa [Ty.sl ae] f7),vi x9,vi x10]]) (ZE n0 f0 s2 n3 f3 n5 f5 n7 f7 x9 x10):=⟨by kernel_rfl,by kernel_rfl⟩
def tq:Bool:=(↑n0:Int)!=(↑n5:Int)
def yaM:V:=dm (f0,s2,n3,f3,f5,n7,f7,x9,x10) (.bool (tq n0 n5))
theorem agY:aR cq (ZE n0 f0 s2 n3 f3 n5 f5 n7 f7 x9 x10) (yaM n0 f0 s2 n3 f3 n5 f5 n7 f7 x9 x10):=evAsm (fun a0=>evAsm (fun a0=>evRet (by unfold yaM tq;rfl)))
def Gk:aB:=bF [.sl ae,.pd ak] (fun _=>True) fun
 |[.sl n0 f0,.pd [.str s2,.sl n3 f3,.sl n5 f5,.sl n7 f7,.int _ x9,.int _ x10]]=>yaM n0 f0 s2 n3 f3 n5 f5 n7 f7 x9 x10
 |_=>.any
theorem D6:(vP Gk).Ok Tryz.prog 198:=bV EH Tryz.func198 (by kernel_rfl) fun ds hp=>cQ (Xb ..) (agY _ _ _ _ _ _ _ _ _ _ _)
def Z9:RT Empty:=.cb (.ret (V.bool !dF n0 (aa ae f0) 0 10000000))
theorem Vh:cJ cL (aP JJ NQ u0 abI [V.sl n0 (aa ae f0)]) (Z9 n0 f0):=⟨by kernel_rfl,by kernel_rfl⟩
def gS:Bool:=!dF n0 (aa ae f0) 0 10000000
def Qy:V:=.bool (gS n0 f0)
theorem ada:aR cq (Z9 n0 f0) (Qy n0 f0):=aw (evObt (evRet (by unfold Qy gS;rfl)))
def FO:aB:=bF [.sl ae] (fun _=>True) fun
 |[.sl n0 f0]=>Qy n0 f0
 |_=>.any
theorem Dt:(vP FO).Ok Tryz.prog 199:=bV EH Tryz.func199 (by kernel_rfl) fun ds hp=>cQ (Vh ..) (ada _ _)
def Jy:bj:=(248,.inl ach u0)::(201,.inl af4 u0)::(198,.con Gk)::(199,.con FO)::NQ
theorem al1:aW Tryz.prog eqs its Jy:=fZ Tryz.func248 (by kernel_rfl) (fZ Tryz.func201 (by kernel_rfl) (.con D6 (.con Dt (EH))))
inductive l7 where
 |L0 (ia0:Int)
 |L2 (ic0 ic1:Int)
 |L3 (id0 id1:Int)
def yJ:l7->bz×List O×Option Ex
 |.L0 ia0=>([(8,vi ia0),(7,vi (↑n5:Int)),(0,V.sl n5 (aa [Ty.sl ae] f5)),(1,V.fn 198 [] [V.pl 0 0])],[O.cells [V.str s0,V.sl n1 (aa ae f1),V.sl n3 (aa ae f3),V.sl n5 (aa [Ty.sl ae] f5),vi x7,vi x8] 126],none)
 |.L2 ic0 ic1=>([(8,vi ic0),(7,vi (↑n5:Int)),(0,V.sl n5 (aa [Ty.sl ae] f5)),(1,V.fn 199 [] [])],[O.cells [V.str s0,V.sl n1 (aa ae f1),V.sl n3 (aa ae f3),V.sl n5 (aa [Ty.sl ae] f5),vi x7,vi x8] 126],none)
 |.L3 id0 id1=>([(8,vi id0),(7,vi (↑n5:Int)),(0,V.sl n5 (aa [Ty.sl ae] f5)),(1,V.fn 199 [] [])],[O.cells [V.str s0,V.sl n1 (aa ae f1),V.sl n3 (aa ae f3),V.sl n5 (aa [Ty.sl ae] f5),vi x7,vi x8] 126],none)
def abQ:l7->JJ
 |.L0 ia0=>(0,[])
 |.L2 ic0 ic1=>(2,[Cx.i ic1])
 |.L3 id0 id1=>(3,[Cx.i id1])
def O6:T (bO JJ):=aP JJ Jy u0 agP [V.agg [V.str s0,V.sl n1 (aa ae f1),V.sl n3 (aa ae f3),V.sl n5 (aa [Ty.sl ae] f5),vi x7,vi x8]]
def qM (cx:List Cx):Lp JJ:=eR (ej (O6 s0 n1 f1 n3 f3 n5 f5 x7 x8) [true,false,true,false,true,false,true])
def NH (cx:List Cx):Lp JJ:=eR (ej (vX Jy u0 (0,[]) (qM s0 n1 f1 n3 f3 n5 f5 x7 x8 []) (yJ s0 n1 f1 n3 f3 n5 f5 x7 x8 (.L0 (Kx cx 0)))) [true,true,false])
def OV (cx:List Cx):Lp JJ:=eR (ej (vX Jy u0 (0,[]) (qM s0 n1 f1 n3 f3 n5 f5 x7 x8 []) (yJ s0 n1 f1 n3 f3 n5 f5 x7 x8 (.L0 (Kx cx 0)))) [false,false])
def abZ:JJ->Lp JJ
 |(0,cx)=>qM s0 n1 f1 n3 f3 n5 f5 x7 x8 cx
 |(2,cx)=>NH s0 n1 f1 n3 f3 n5 f5 x7 x8 cx
 |(3,cx)=>OV s0 n1 f1 n3 f3 n5 f5 x7 x8 cx
 |(_,cx)=>qM s0 n1 f1 n3 f3 n5 f5 x7 x8 cx
def ald:LD JJ l7:=⟨abQ,abZ s0 n1 f1 n3 f3 n5 f5 x7 x8,yJ s0 n1 f1 n3 f3 n5 f5 x7 x8⟩
def o6 (s0:ByteArray) (n1:Nat) (f1:aN) (n3:Nat) (f3:aN) (n5:Nat) (f5:aN) (x7 x8:Int):l7->RT l7
 |.L0 ia0=>.br (decide (ia0<(↑n5:Int))) (.ob (dI ia0 n5) (.cb (.br (tq (au (ap (f5 ia0.toNat))) n3) (.br (decide (0<=ia0)) (.ret (vi 6)) (.am n5 (.enter [some (some 0)] (l7.L2 (0) (ia0)) []))) (.next [some (some 0)] (l7.L0 (wI (ia0+1))) [])))) (.brf (.am n5 (.enter [some (some 0)] (l7.L3 (0) (ia0)) [])))
 |.L2 ic0 ic1=>.br (decide (ic0<(↑n5:Int))) (.ob (dI ic0 n5) (.cb (.br (gS (au (ap (f5 ic0.toNat))) fun i=>al ae (aX (ap (f5 ic0.toNat)) i)) (.ii (.br (!decide (0<=ic0)) (.ob (!decide (0<=ic0)) (.ob (!decide (0<=ic0)) (.ob (!decide (0<=ic0)) (.cb (.br (gS 2 (aa ae (bn [vi x7,vi x8] 0 1))) (.ret (vi 7)) (.ret (vi 0))))))) (.ret (vi 7)))) (.next [some (some 0)] (l7.L2 (wI (ic0+1)) (ic1)) [])))) (.obt (.obt (.brt (.obt (.obt (.obt (.cb (.br (gS 2 (aa ae (bn [vi x7,vi x8] 0 1))) (.ret (vi 7)) (.ret (vi 0))))))))))
 |.L3 id0 id1=>.br (decide (id0<(↑n5:Int))) (.ob (dI id0 n5) (.cb (.br (gS (au (ap (f5 id0.toNat))) fun i=>al ae (aX (ap (f5 id0.toNat)) i)) (.ii (.br (!decide (0<=id0)) (.ob (!decide (0<=id0)) (.ob (!decide (0<=id0)) (.ob (!decide (0<=id0)) (.cb (.br (gS 2 (aa ae (bn [vi x7,vi x8] 0 1))) (.ret (vi 7)) (.ret (vi 0))))))) (.ret (vi 7)))) (.next [some (some 0)] (l7.L3 (wI (id0+1)) (id1)) [])))) (.obt (.obt (.brt (.obt (.obt (.obt (.cb (.br (gS 2 (aa ae (bn [vi x7,vi x8] 0 1))) (.ret (vi 7)) (.ret (vi 0))))))))))
def Rq:RT l7:=dm (s0,f5,x7,x8) (.am n1 (.cb (.ii (.asm ((!!av (↑n1:Int) 2 12)=true->n3<=9223372036854775807) (.br (!!av (↑n1:Int) 2 12) (.ob (!!av (↑n1:Int) 2 12) (.cb (.br (!av (↑n3:Int) 2 12) (.ret (vi 3)) (.cb (.obi (.br (!!dF n1 (aa ae f1) (-5000) 5000) (.ob (!!dF n1 (aa ae f1) (-5000) 5000) (.cb (.br (!dF n3 (aa ae f3) (-5000) 5000) (.ret (vi 7)) (.cb (.obi (.br (!!d0 n1 (aa ae f1)) (.ob (!!d0 n1 (aa ae f1)) (.cb (.br (!d0 n3 (aa ae f3)) (.ret (vi 2)) (.am n5 (.am n1 (.obi (.br (!(↑n5:Int)!=(↑n1:Int)) (.ob (!(↑n5:Int)!=(↑n1:Int)) (.ob (!(↑n5:Int)!=(↑n1:Int)) (.am n5 (.enter [some (some 0)] (l7.L0 (0)) [])))) (.ret (vi 6))))))))) (.ret (vi 2)))))))) (.ret (vi 7)))))))) (.ret (vi 3)))))))
theorem VQ:dD Jy u0 (ald s0 n1 f1 n3 f3 n5 f5 x7 x8) (O6 s0 n1 f1 n3 f3 n5 f5 x7 x8) (Rq s0 n1 f1 n3 f3 n5 f5 x7 x8) (o6 s0 n1 f1 n3 f3 n5 f5 x7 x8):=⟨⟨by kernel_rfl,by kernel_rfl⟩,fun s=>by cases s<;>exact⟨by kernel_rfl,by kernel_rfl⟩⟩
def sho (i:Nat):Bool:=tq (au (ap (f5 i))) n3
def wil (i:Nat):Bool:=gS (au (ap (f5 i))) fun j=>al ae (aX (ap (f5 i)) j)
def VA:Bool:=gS 2 (aa ae (bn [vi x7,vi x8] 0 1))
def pQ:Int:=bif jh n5 (wil f5) then 7 else bif VA x7 x8 then 7 else 0
def mt (n1:Nat) (f1:aN) (n3:Nat) (f3:aN) (n5:Nat) (f5:aN) (x7 x8:Int):Int :=
 bif !(av (n1:Int) 2 12&&av (n3:Int) 2 12) then 3 else bif !(dF n1 f1 (-5000) 5000&&dF n3 f3 (-5000) 5000) then 7 else bif !(d0 n1 f1&&d0 n3 f3) then 2 else bif(n5:Int)!=(n1:Int) then 6 else bif jh n5 (sho n3 f5) then 6 else pQ n5 f5 x7 x8
theorem ev2 {S:Type} {Nx:S->V->Prop} {c d:Bool} {v r:V} {X:RT S} (h1:(c&&d)=false->ce v=ce r) (h2:(c&&d)=true->aR Nx X r):aR Nx (.br (!!c) (.ob (!!c) (.obc (.obt (.br (!d) (.ret v) X)))) (.ret v)) r:=by
 cases c<;>cases d
 ·exact evBr (fun h=>by cases h) (fun _=>evRet (h1 rfl))
 ·exact evBr (fun h=>by cases h) (fun _=>evRet (h1 rfl))
 ·exact evBr (fun h=>aE h (aw (evObt (evBr (fun _=>evRet (h1 rfl)) (fun k=>by cases k))))) (fun k=>by cases k)
 ·exact evBr (fun h=>aE h (aw (evObt (evBr (fun k=>by cases k) (fun _=>h2 rfl))))) (fun k=>by cases k)
theorem Wl (hn:n5<=9223372036854775807) (t:Int):Ev (o6 s0 n1 f1 n3 f3 n5 f5 x7 x8) (.L3 0 t) (vi (pQ n5 f5 x7 x8)):=by
 refine iA hn (wil f5) (P:=fun x=>Ev (o6 s0 n1 f1 n3 f3 n5 f5 x7 x8) (.L3 x t) (vi (pQ n5 f5 x7 x8))) (fun i hlt hj next=>Ev.of rfl (cr hlt (b7 hlt (aw (evObt (evBr (fun hb=>evObi (evObi (ed (by rw[dqt (Int.natCast_nonneg i)];rfl) (evRet ?_)))) (fun hb=>aK (next hb)))))))) (fun hj=>Ev.of rfl (ck (evObt (evObt (ec (evObt (evObt (evObt (aw (evObt (evBr (fun hb=>evRet ?_) (fun hb=>evRet ?_))))))))))))
 ·unfold pQ;rw[cn i hlt hb];rfl
 ·unfold pQ;rw[b8 hj,show VA x7 x8=true from hb];rfl
 ·unfold pQ;rw[b8 hj,show VA x7 x8=false from hb];rfl
theorem Sn (hn:n5<=9223372036854775807):Ev (o6 s0 n1 f1 n3 f3 n5 f5 x7 x8) (.L0 0) (vi (bif jh n5 (sho n3 f5) then 6 else pQ n5 f5 x7 x8)):=by
 refine iA hn (sho n3 f5) (P:=fun x=>Ev (o6 s0 n1 f1 n3 f3 n5 f5 x7 x8) (.L0 x) (vi (bif jh n5 (sho n3 f5) then 6 else pQ n5 f5 x7 x8))) (fun i hlt hj next=>Ev.of rfl (cr hlt (b7 hlt (aw (evObt (evBr (fun hb=>eG (dqt (Int.natCast_nonneg i)) (evRet ?_)) (fun hb=>aK (next hb)))))))) (fun hj=>Ev.of rfl (ck (lZ (evAsm fun _=>aF ?_))))
 ·rw[cn i hlt hb];rfl
 ·rw[b8 hj];exact Wl s0 n1 f1 n3 f3 n5 f5 x7 x8 hn _
theorem Lc:aR (Ev (o6 s0 n1 f1 n3 f3 n5 f5 x7 x8)) (Rq s0 n1 f1 n3 f3 n5 f5 x7 x8) (vi (mt n1 f1 n3 f3 n5 f5 x7 x8)):=by
 unfold mt
 refine evAsm fun _=>aw (evObt (evObi (evObi (evAsm fun _=>ev2 (fun h=>by rw[h];rfl) (fun h=>?_)))))
 rw [h]
 refine aw (evObt (evObi (ev2 (fun h=>by rw[show(dF n1 f1 (-5000) 5000&&dF n3 f3 (-5000) 5000)=false from h];rfl) (fun h=>?_))))
 rw [show(dF n1 f1 (-5000) 5000&&dF n3 f3 (-5000) 5000)=true from h]
 refine aw (evObt (evObi (ev2 (fun h=>by rw[show(d0 n1 f1&&d0 n3 f3)=false from h];rfl) (fun h=>?_))))
 rw [show(d0 n1 f1&&d0 n3 f3)=true from h]
 refine evAsm fun _=>evAsm fun _=>evObi (evBr (fun h=>aE h (aE h (bg fun hn=>aF ?_))) (fun h=>evRet ?_))
 ·rw[R1 h];exact Sn s0 n1 f1 n3 f3 n5 f5 x7 x8 hn
 ·rw[yd h];rfl
theorem ybl:aR (Ev (o6 s0 n1 f1 n3 f3 n5 f5 x7 x8)) (Rq s0 n1 f1 n3 f3 n5 f5 x7 x8) (vi (mt n1 (aa ae f1) n3 (aa ae f3) n5 (aa [.sl ae] f5) x7 x8)):=Lc s0 n1 f1 n3 f3 n5 f5 x7 x8
def Mj:aB:=bF [.agg ak] (fun _=>True) fun
 |[.agg [.str s0,.sl n1 f1,.sl n3 f3,.sl n5 f5,.int _ x7,.int _ x8]]=>vi (mt n1 f1 n3 f3 n5 f5 x7 x8)
 |_=>.any
theorem Mt:(vP Mj).Ok Tryz.prog 129:=bV al1 Tryz.func129 (by kernel_rfl) fun ds hp=>iS (VQ ..) (ybl _ _ _ _ _ _ _ _ _)
def Uy:bj:=(129,.con Mj)::(198,.con Gk)::(199,.con FO)::NQ
theorem RU:aW Tryz.prog eqs its Uy:=.con Mt (.con D6 (.con Dt (EH)))
def Yg:RT Empty:=dm (s0,f14,n16,f16) (.cb (.obi (.br (av x3 1 1000000) (.ob (av x3 1 1000000) (.cb (.ii (.br (av x4 1 5000000) (.ob (av x4 1 5000000) (.ob (av x4 1 5000000) (.cb (.obi (.br (av x5 0 x4) (.ob (av x5 0 x4) (.cb (.obi (.br (av x6 0 1000) (.ob (av x6 0 1000) (.cb (.obi (.br (eS x7 x8 0 1000) (.ob (eS x7 x8 0 1000) (.cb (.obi (.br (eS x9 x10 0 1000) (.ob (eS x9 x10 0 1000) (.cb (.obi (.br (av x11 1 200000) (.ob (av x11 1 200000) (.cb (.obi (.br (av x12 0 1000) (.ob (av x12 0 1000) (.cb (.am n14 (.cb (.br (!av x1 0 (wI ((↑n14:Int)-1))) (.ret (vi 4)) (.cb (.br (!av x2 1 3) (.ret (vi 2)) (.br (!av x13 0 3600) (.ret (vi 7)) (.ii (.obi (.br (bif x2==1 then decide (0<x13) else false) (.ret (vi 2)) (.ret (vi 0))))))))))))) (.am n14 (.cb (.br (!av x1 0 (wI ((↑n14:Int)-1))) (.ret (vi 4)) (.cb (.br (!av x2 1 3) (.ret (vi 2)) (.ret (vi 7))))))))))) (.am n14 (.cb (.br (!av x1 0 (wI ((↑n14:Int)-1))) (.ret (vi 4)) (.cb (.br (!av x2 1 3) (.ret (vi 2)) (.ret (vi 7))))))))))) (.am n14 (.cb (.br (!av x1 0 (wI ((↑n14:Int)-1))) (.ret (vi 4)) (.cb (.br (!av x2 1 3) (.ret (vi 2)) (.ret (vi 7))))))))))) (.am n14 (.cb (.br (!av x1 0 (wI ((↑n14:Int)-1))) (.ret (vi 4)) (.cb (.br (!av x2 1 3) (.ret (vi 2)) (.ret (vi 7))))))))))) (.am n14 (.cb (.br (!av x1 0 (wI ((↑n14:Int)-1))) (.ret (vi 4)) (.cb (.br (!av x2 1 3) (.ret (vi 2)) (.ret (vi 7))))))))))) (.am n14 (.cb (.br (!av x1 0 (wI ((↑n14:Int)-1))) (.ret (vi 4)) (.cb (.br (!av x2 1 3) (.ret (vi 2)) (.ret (vi 7)))))))))))) (.am n14 (.cb (.br (!av x1 0 (wI ((↑n14:Int)-1))) (.ret (vi 4)) (.cb (.br (!av x2 1 3) (.ret (vi 2)) (.ret (vi 7))))))))))) (.am n14 (.cb (.br (!av x1 0 (wI ((↑n14:Int)-1))) (.ret (vi 4)) (.cb (.br (!av x2 1 3) (.ret (vi 2)) (.ret (vi 7))))))))))
theorem ybd:cJ cL (aP JJ Uy u0 aeI [V.agg [V.str s0,vi x1,vi x2,vi x3,vi x4,vi x5,vi x6,vi x7,vi x8,vi x9,vi x10,vi x11,vi x12,vi x13],V.pd [V.sl n14 (aa ak f14),V.sl n16 (aa ah f16)]]) (Yg s0 x1 x2 x3 x4 x5 x6 x7 x8 x9 x10 x11 x12 x13 n14 f14 n16 f16):=⟨by kernel_rfl,by kernel_rfl⟩
def anX:Int:=bif av x3 1 1000000 then bif av x4 1 5000000 then bif av x5 0 x4 then bif av x6 0 1000 then bif eS x7 x8 0 1000 then bif eS x9 x10 0 1000 then bif av x11 1 200000 then bif av x12 0 1000 then bif !av x1 0 (wI ((↑n14:Int)-1)) then 4 else bif !av x2 1 3 then 2 else bif !av x13 0 3600 then 7 else bif bif x2==1 then decide (0<x13) else false then 2 else 0 else bif !av x1 0 (wI ((↑n14:Int)-1)) then 4 else bif !av x2 1 3 then 2 else 7 else bif !av x1 0 (wI ((↑n14:Int)-1)) then 4 else bif !av x2 1 3 then 2 else 7 else bif !av x1 0 (wI ((↑n14:Int)-1)) then 4 else bif !av x2 1 3 then 2 else 7 else bif !av x1 0 (wI ((↑n14:Int)-1)) then 4 else bif !av x2 1 3 then 2 else 7 else bif !av x1 0 (wI ((↑n14:Int)-1)) then 4 else bif !av x2 1 3 then 2 else 7 else bif !av x1 0 (wI ((↑n14:Int)-1)) then 4 else bif !av x2 1 3 then 2 else 7 else bif !av x1 0 (wI ((↑n14:Int)-1)) then 4 else bif !av x2 1 3 then 2 else 7 else bif !av x1 0 (wI ((↑n14:Int)-1)) then 4 else bif !av x2 1 3 then 2 else 7
def IG (a k num q:Bool):Int:=bif !a then 4 else bif !k then 2 else bif !num then 7 else bif q then 2 else 0
def Sm:Bool:=bif x2==1 then decide (0<x13) else false
def asD:Bool:=av x3 1 1000000&&(av x4 1 5000000&&(av x5 0 x4&&(av x6 0 1000&&(eS x7 x8 0 1000&&(eS x9 x10 0 1000&&(av x11 1 200000&&(av x12 0 1000&&(av x13 0 3600))))))))
def pE (x1 x2 x3 x4 x5 x6 x7 x8 x9 x10 x11 x12 x13:Int) (n14:Nat):Int:=IG (av x1 0 (wI ((n14:Int)-1))) (av x2 1 3) (av x3 1 1000000&&(av x4 1 5000000&&(av x5 0 x4&&(av x6 0 1000&&(eS x7 x8 0 1000&&(eS x9 x10 0 1000&&(av x11 1 200000&&(av x12 0 1000&&(av x13 0 3600))))))))) (Sm x2 x13)
section
variable {S:Type} {Nx:S->V->Prop} {r:V} {X Y:RT S} {c:Bool}
section
variable (h1:c=false->aR Nx Y r) (h2:c=true->aR Nx X r)
include h1 h2
theorem pk:aR Nx (.br c (.ob c X) Y) r:=evBr (fun h=>aE h (h2 h)) h1
theorem adO:aR Nx (.br c (.ob c (.ob c X)) Y) r:=evBr (fun h=>aE h (aE h (h2 h))) h1
end
theorem AX {a k q:Bool} {p:Prop}:aR Nx (.asm p (.obc (.obt (.br (!a) (.ret (vi 4)) (.obc (.obt (.br (!k) (.ret (vi 2)) (.ret (vi 7)))))))) ) (vi (IG a k false q)) :=
 evAsm fun _=>aw (evObt (evBr (fun h=>evRet (by rw[R1 h];rfl)) fun h=>aw (evObt (evBr (fun h2=>evRet (by rw[yd h,R1 h2];rfl)) fun h2=>evRet (by rw[yd h,yd h2];rfl)))))
end
theorem ah9:aR cq (Yg s0 x1 x2 x3 x4 x5 x6 x7 x8 x9 x10 x11 x12 x13 n14 f14 n16 f16) (vi (pE x1 x2 x3 x4 x5 x6 x7 x8 x9 x10 x11 x12 x13 n14)):=by
 unfold pE
 refine aw (evObt ?_)
 repeat refine evObi ?_
 refine pk (fun h=>by rw[h];exact AX) (fun h=>?_)
 rw [h]
 refine aw (evObt ?_)
 repeat refine evObi ?_
 refine adO (fun h=>by rw[h];exact AX) (fun h=>?_)
 rw [h]
 refine aw (evObt ?_)
 repeat refine evObi ?_
 refine pk (fun h=>by rw[h];exact AX) (fun h=>?_)
 rw [h]
 refine aw (evObt ?_)
 repeat refine evObi ?_
 refine pk (fun h=>by rw[h];exact AX) (fun h=>?_)
 rw [h]
 refine aw (evObt ?_)
 repeat refine evObi ?_
 refine pk (fun h=>by rw[h];exact AX) (fun h=>?_)
 rw [h]
 refine aw (evObt ?_)
 repeat refine evObi ?_
 refine pk (fun h=>by rw[h];exact AX) (fun h=>?_)
 rw [h]
 refine aw (evObt ?_)
 repeat refine evObi ?_
 refine pk (fun h=>by rw[h];exact AX) (fun h=>?_)
 rw [h]
 refine aw (evObt ?_)
 repeat refine evObi ?_
 refine pk (fun h=>by rw[h];exact AX) (fun h=>?_)
 rw [h]
 refine aw (evObt ?_)
 exact evAsm fun _=>aw (evObt (evBr (fun h=>evRet (by rw[R1 h];rfl)) fun h=>aw (evObt (evBr (fun h2=>evRet (by rw[yd h,R1 h2];rfl)) fun h2=>evBr (fun h3=>evRet (by rw[yd h,yd h2,R1 h3];rfl)) fun h3=>evObi (evObi (evObi (evBr (fun h4=>evRet (by rw[yd h,yd h2,yd h3,show Sm x2 x13=true from h4];rfl)) fun h4=>evRet (by rw[yd h,yd h2,yd h3,show Sm x2 x13=false from h4];rfl))))))))
def Ha:aB:=bF [.agg ah,.pd [.sl ak,.sl ah]] (fun _=>True) fun
 |[.agg [.str s0,.int _ x1,.int _ x2,.int _ x3,.int _ x4,.int _ x5,.int _ x6,.int _ x7,.int _ x8,.int _ x9,.int _ x10,.int _ x11,.int _ x12,.int _ x13],.pd [.sl n14 f14,.sl n16 f16]]=>vi (pE x1 x2 x3 x4 x5 x6 x7 x8 x9 x10 x11 x12 x13 n14)
 |_=>.any
theorem Ce:(vP Ha).Ok Tryz.prog 132:=bV RU Tryz.func132 (by kernel_rfl) fun ds hp=>cQ (ybd ..) (ah9 _ _ _ _ _ _ _ _ _ _ _ _ _ _ _ _ _ _)
def CZ:bj:=(202,.inl agF u0)::(249,.inl acv u0)::(203,.inl ahx u0)::(195,.inl ahK u0)::(247,.inl afa u0)::(197,.inl ahu u0)::(132,.con Ha)::Uy
theorem aaH:aW Tryz.prog eqs its CZ:=fZ Tryz.func202 (by kernel_rfl) (fZ Tryz.func249 (by kernel_rfl) (fZ Tryz.func203 (by kernel_rfl) (fZ Tryz.func195 (by kernel_rfl) (fZ Tryz.func247 (by kernel_rfl) (fZ Tryz.func197 (by kernel_rfl) (.con Ce (RU)))))))
inductive mH where
 |L0 (ia0:Int)
 |L2 (ic0 ic1:Int) (nc2:Nat) (sc3:ByteArray) (nc4:Nat) (fc5:Nat->List V) (nc6:Nat) (fc7:Nat->List V) (nc8:Nat) (fc9:Nat->List V) (ic10 ic11 ic12:Int)
def E7:mH->bz×List O×Option Ex
 |.L0 ia0=>([(14,vi ia0),(13,vi (↑n0:Int)),(12,V.sl n0 (aa ak f0)),(4,V.pl 0 0),(0,V.sl n0 (aa ak f0)),(2,V.fn 129 [] [])],[O.cells [V.fn 128 [] []] 194],none)
 |.L2 ic0 ic1 nc2 sc3 nc4 fc5 nc6 fc7 nc8 fc9 ic10 ic11 ic12=>([(8,vi ic0),(7,vi ic1),(0,V.sl nc2 fun i=>aa ak f0 (0+i)),(1,V.fn 195 [] [V.pl 0 0,V.pl 1 0])],[O.cells [V.fn 128 [] []] 194,O.cells [V.str sc3,V.sl nc4 (aa ae fc5),V.sl nc6 (aa ae fc7),V.sl nc8 (aa [Ty.sl ae] fc9),vi ic10,vi ic11] 126],none)
def acm:mH->JJ
 |.L0 ia0=>(0,[])
 |.L2 ic0 ic1 nc2 sc3 nc4 fc5 nc6 fc7 nc8 fc9 ic10 ic11 ic12=>(2,[Cx.i ic12])
def Mr:T (bO JJ):=aP JJ CZ u0 ag1 [V.sl n0 (aa ak f0),V.fn 128 [] [],V.fn 129 [] []]
def tF (cx:List Cx):Lp JJ:=eR (ej (Mr n0 f0) [])
def LC (cx:List Cx):Lp JJ:=eR (ej (vX CZ u0 (0,[]) (tF n0 f0 []) (E7 n0 f0 (.L0 (Kx cx 0)))) [true,false])
def aev:JJ->Lp JJ
 |(0,cx)=>tF n0 f0 cx
 |(2,cx)=>LC n0 f0 cx
 |(_,cx)=>tF n0 f0 cx
def amR:LD JJ mH:=⟨acm,aev n0 f0,E7 n0 f0⟩
def o8:mH->RT mH
 |.L0 ia0=>.br (decide (ia0<(↑n0:Int))) (.ob (dI ia0 n0) (.cb (.cb (.obp ((sv (ap (f0 ia0.toNat))).size<=(9223372036854775807:Nat)) (.obt (.br (!iI (sv (ap (f0 ia0.toNat)))) (.brt (.ret (V.tup [vi ia0,vi 6]))) (.ob (decide (0<=ia0/\ia0<=(↑n0:Int))) (.asm (true=true->ia0.toNat-0<=9223372036854775807) (.enter [some (some 0),some (some 1)] (mH.L2 (0) ((↑(ia0.toNat-0):Int)) (ia0.toNat-0) (sv (ap (f0 ia0.toNat))) (au (ap (ab (f0 ia0.toNat)))) (fun i=>al ae (aX (ap (ab (f0 ia0.toNat))) i)) (au (ap (ab (ab (f0 ia0.toNat))))) (fun i=>al ae (aX (ap (ab (ab (f0 ia0.toNat)))) i)) (au (ap (ab (ab (ab (f0 ia0.toNat)))))) (fun i=>al [Ty.sl ae] (aX (ap (ab (ab (ab (f0 ia0.toNat))))) i)) (db (f0 ia0.toNat)) (bf (f0 ia0.toNat)) (ia0)) []))))))))) (.ret (V.tup [vi 0,vi 0]))
 |.L2 ic0 ic1 nc2 sc3 nc4 fc5 nc6 fc7 nc8 fc9 ic10 ic11 ic12=>.br (decide (ic0<ic1)) (.ob (dI ic0 nc2) (.cb (.cb (.br ((sv (ap (f0 (0+ic0.toNat)))).toList==sc3.toList) (.br (decide (0<=ic0)) (.brt (.ret (V.tup [vi ic12,vi 5]))) (.br (mt (au (ap (ab (f0 ic12.toNat)))) (fun i=>al ae (aX (ap (ab (f0 ic12.toNat))) i)) (au (ap (ab (ab (f0 ic12.toNat))))) (fun i=>al ae (aX (ap (ab (ab (f0 ic12.toNat)))) i)) (au (ap (ab (ab (ab (f0 ic12.toNat)))))) (fun i=>al [Ty.sl ae] (aX (ap (ab (ab (ab (f0 ic12.toNat))))) i)) (db (f0 ic12.toNat)) (bf (f0 ic12.toNat))!=0) (.ret (V.tup [vi ic12,vi (mt (au (ap (ab (f0 ic12.toNat)))) (fun i=>al ae (aX (ap (ab (f0 ic12.toNat))) i)) (au (ap (ab (ab (f0 ic12.toNat))))) (fun i=>al ae (aX (ap (ab (ab (f0 ic12.toNat)))) i)) (au (ap (ab (ab (ab (f0 ic12.toNat)))))) (fun i=>al [Ty.sl ae] (aX (ap (ab (ab (ab (f0 ic12.toNat))))) i)) (db (f0 ic12.toNat)) (bf (f0 ic12.toNat)))])) (.next [some (some 0)] (mH.L0 (wI (ic12+1))) []))) (.next [some (some 0),some (some 1)] (mH.L2 (wI (ic0+1)) (ic1) (nc2) (sc3) (nc4) (fc5) (nc6) (fc7) (nc8) (fc9) (ic10) (ic11) (ic12)) []))))) (.brf (.br (mt (au (ap (ab (f0 ic12.toNat)))) (fun i=>al ae (aX (ap (ab (f0 ic12.toNat))) i)) (au (ap (ab (ab (f0 ic12.toNat))))) (fun i=>al ae (aX (ap (ab (ab (f0 ic12.toNat)))) i)) (au (ap (ab (ab (ab (f0 ic12.toNat)))))) (fun i=>al [Ty.sl ae] (aX (ap (ab (ab (ab (f0 ic12.toNat))))) i)) (db (f0 ic12.toNat)) (bf (f0 ic12.toNat))!=0) (.ret (V.tup [vi ic12,vi (mt (au (ap (ab (f0 ic12.toNat)))) (fun i=>al ae (aX (ap (ab (f0 ic12.toNat))) i)) (au (ap (ab (ab (f0 ic12.toNat))))) (fun i=>al ae (aX (ap (ab (ab (f0 ic12.toNat)))) i)) (au (ap (ab (ab (ab (f0 ic12.toNat)))))) (fun i=>al [Ty.sl ae] (aX (ap (ab (ab (ab (f0 ic12.toNat))))) i)) (db (f0 ic12.toNat)) (bf (f0 ic12.toNat)))])) (.next [some (some 0)] (mH.L0 (wI (ic12+1))) [])))
def K6:RT mH:=dm f0 (.am n0 (.enter [some (some 0)] (mH.L0 (0)) []))
theorem XO:dD CZ u0 (amR n0 f0) (Mr n0 f0) (K6 n0 f0) (o8 n0 f0):=⟨⟨by kernel_rfl,by kernel_rfl⟩,fun s=>by cases s<;>exact⟨by kernel_rfl,by kernel_rfl⟩⟩
def zA (a:Nat):Int:=mt (au (ap (ab (f0 a)))) (fun i=>al ae (aX (ap (ab (f0 a))) i)) (au (ap (ab (ab (f0 a))))) (fun i=>al ae (aX (ap (ab (ab (f0 a)))) i)) (au (ap (ab (ab (ab (f0 a)))))) (fun i=>al [Ty.sl ae] (aX (ap (ab (ab (ab (f0 a))))) i)) (db (f0 a)) (bf (f0 a))
def zi (i j:Nat):Bool:=(sv (ap (f0 (0+j)))).toList==(sv (ap (f0 i))).toList
def iO (i:Nat):Int:=bif !iI (sv (ap (f0 i))) then 6 else bif jh i (zi f0 i) then 5 else zA f0 i
def eT:Int:=eZ n0 (iO f0)
def dU:Int:=dw n0 (iO f0)
theorem ajN (hn:n0<=9223372036854775807) (a:Nat) (hi:a<n0) (hj:∀ j,j<a->(iO f0 j != 0)=false) (h1:iI (sv (ap (f0 a)))=true) (hx:(iO f0 a != 0)=false->Ev (o8 n0 f0) (.L0 (wI ((a:Int)+1))) (.tup [vi (eT n0 f0),vi (dU n0 f0)])):Ev (o8 n0 f0) (.L2 0 ((↑(a-0):Int)) (a-0) (sv (ap (f0 a))) (au (ap (ab (f0 a)))) (fun i=>al ae (aX (ap (ab (f0 a))) i)) (au (ap (ab (ab (f0 a))))) (fun i=>al ae (aX (ap (ab (ab (f0 a)))) i)) (au (ap (ab (ab (ab (f0 a)))))) (fun i=>al [Ty.sl ae] (aX (ap (ab (ab (ab (f0 a))))) i)) (db (f0 a)) (bf (f0 a)) ((a:Int))) (.tup [vi (eT n0 f0),vi (dU n0 f0)]):=by
 refine iA (n:=a) (by omega) (zi f0 a) (P:=fun x=>Ev (o8 n0 f0) (.L2 x ((↑(a-0):Int)) (a-0) (sv (ap (f0 a))) (au (ap (ab (f0 a)))) (fun i=>al ae (aX (ap (ab (f0 a))) i)) (au (ap (ab (ab (f0 a))))) (fun i=>al ae (aX (ap (ab (ab (f0 a)))) i)) (au (ap (ab (ab (ab (f0 a)))))) (fun i=>al [Ty.sl ae] (aX (ap (ab (ab (ab (f0 a))))) i)) (db (f0 a)) (bf (f0 a)) ((a:Int))) (.tup [vi (eT n0 f0),vi (dU n0 f0)])) (fun j hlt hq next=>Ev.of rfl (cr hlt (b7 hlt (aw (evObt (aw (evObt (evBr (fun hb=>eG (dqt (Int.natCast_nonneg j)) (ec (evRet ?_))) (fun hb=>aK (next hb)))))))))) (fun hq=>Ev.of rfl (ck (lZ (evBr (fun hb=>evRet ?_) (fun hb=>aK (hx ?_))))))
 ·have hc:iO f0 a=5:=by unfold iO;rw[h1,cn j hlt hb];rfl
  unfold eT dU;rw[(cu hi (by rw[hc];rfl) hj).1,(cu hi (by rw[hc];rfl) hj).2,hc]
 ·have hc:iO f0 a=zA f0 a:=by unfold iO;rw[h1,b8 hq];rfl
  unfold eT dU;rw[(cu hi (by rw[hc];exact hb) hj).1,(cu hi (by rw[hc];exact hb) hj).2,hc];rfl
 ·have hc:iO f0 a=zA f0 a:=by unfold iO;rw[h1,b8 hq];rfl
  rw [hc];exact hb
theorem QB (hp:yaa n0 f0):aR (Ev (o8 n0 f0)) (K6 n0 f0) (.tup [vi (eT n0 f0),vi (dU n0 f0)]):=by
 refine bg fun hn=>aF (iA hn (fun i=>iO f0 i != 0) (P:=fun x=>Ev (o8 n0 f0) (.L0 x) (.tup [vi (eT n0 f0),vi (dU n0 f0)])) (fun i hlt hj next=>Ev.of rfl (cr hlt (b7 hlt (aw (evObt (aw (evObt (evObp (hp i hlt) (evObt (evBr (fun hb=>ec (evRet ?_)) (fun hb=>aE (dqt (by omega)) (evAsm fun _=>aF (ajN n0 f0 hn i hlt hj (yd hb) next))))))))))))) (fun hj=>Ev.of rfl (ck (evRet ?_))))
 ·have hc:iO f0 i=6:=by unfold iO;rw[show(!iI (sv (ap (f0 i))))=true from hb];rfl
  unfold eT dU;rw[(cu hlt (by rw[hc];rfl) hj).1,(cu hlt (by rw[hc];rfl) hj).2,hc]
 ·unfold eT dU;rw[(fR hj).1,(fR hj).2]
theorem adE (hp:yaa n0 (aa ak f0)):aR (Ev (o8 n0 f0)) (K6 n0 f0) (.tup [vi (eT n0 (aa ak f0)),vi (dU n0 (aa ak f0))]):=QB n0 f0 hp
def JQ:aB:=bF [.sl ak,.fn 128 [] [],.fn 129 [] []] (fun
 |[.sl n0 f0,.fn _ [] [],.fn _ [] []]=>yaa n0 f0
 |_=>False) fun
 |[.sl n0 f0,.fn _ [] [],.fn _ [] []]=>.tup [vi (eT n0 f0),vi (dU n0 f0)]
 |_=>.any
theorem O3:(vP JQ).Ok Tryz.prog 127:=bV aaH Tryz.func127 (by kernel_rfl) fun ds hp=>iS (XO ..) (adE _ _ hp)
inductive mD where
 |L0 (ia0:Int)
 |L2 (ic0 ic1:Int) (nc2:Nat) (sc3:ByteArray) (ic4 ic5 ic6 ic7 ic8 ic9 ic10 ic11 ic12 ic13 ic14 ic15 ic16 ic17:Int)
def Gj:mD->bz×List O×Option Ex
 |.L0 ia0=>([(14,vi ia0),(13,vi (↑n0:Int)),(12,V.sl n0 (aa ah f0)),(4,V.pl 0 0),(0,V.sl n0 (aa ah f0)),(2,V.fn 132 [] [V.pd [V.sl n2 (aa ak f2),V.sl n4 (aa ah f4)]])],[O.cells [V.fn 131 [] []] 197],none)
 |.L2 ic0 ic1 nc2 sc3 ic4 ic5 ic6 ic7 ic8 ic9 ic10 ic11 ic12 ic13 ic14 ic15 ic16 ic17=>([(8,vi ic0),(7,vi ic1),(0,V.sl nc2 fun i=>aa ah f0 (0+i)),(1,V.fn 202 [] [V.pl 0 0,V.pl 1 0])],[O.cells [V.fn 131 [] []] 197,O.cells [V.str sc3,vi ic4,vi ic5,vi ic6,vi ic7,vi ic8,vi ic9,vi ic10,vi ic11,vi ic12,vi ic13,vi ic14,vi ic15,vi ic16] 128],none)
def ain:mD->JJ
 |.L0 ia0=>(0,[])
 |.L2 ic0 ic1 nc2 sc3 ic4 ic5 ic6 ic7 ic8 ic9 ic10 ic11 ic12 ic13 ic14 ic15 ic16 ic17=>(2,[Cx.i ic17])
def PD:T (bO JJ):=aP JJ CZ u0 agC [V.sl n0 (aa ah f0),V.fn 131 [] [],V.fn 132 [] [V.pd [V.sl n2 (aa ak f2),V.sl n4 (aa ah f4)]]]
def uV (cx:List Cx):Lp JJ:=eR (ej (PD n0 f0 n2 f2 n4 f4) [])
def Nw (cx:List Cx):Lp JJ:=eR (ej (vX CZ u0 (0,[]) (uV n0 f0 n2 f2 n4 f4 []) (Gj n0 f0 n2 f2 n4 f4 (.L0 (Kx cx 0)))) [true,false])
def abK:JJ->Lp JJ
 |(0,cx)=>uV n0 f0 n2 f2 n4 f4 cx
 |(2,cx)=>Nw n0 f0 n2 f2 n4 f4 cx
 |(_,cx)=>uV n0 f0 n2 f2 n4 f4 cx
def ako:LD JJ mD:=⟨ain,abK n0 f0 n2 f2 n4 f4,Gj n0 f0 n2 f2 n4 f4⟩
def oZ (n0:Nat) (f0:aN) (n2:Nat) (f2:aN) (n4:Nat) (f4:aN):mD->RT mD
 |.L0 ia0=>.br (decide (ia0<(↑n0:Int))) (.ob (dI ia0 n0) (.cb (.cb (.obp ((sv (ap (f0 ia0.toNat))).size<=(9223372036854775807:Nat)) (.obt (.br (!iI (sv (ap (f0 ia0.toNat)))) (.brt (.ret (V.tup [vi ia0,vi 6]))) (.ob (decide (0<=ia0/\ia0<=(↑n0:Int))) (.asm (true=true->ia0.toNat-0<=9223372036854775807) (.enter [some (some 0),some (some 1)] (mD.L2 (0) ((↑(ia0.toNat-0):Int)) (ia0.toNat-0) (sv (ap (f0 ia0.toNat))) (aQ (f0 ia0.toNat)) (ca (f0 ia0.toNat)) (bW (f0 ia0.toNat)) (db (f0 ia0.toNat)) (bf (f0 ia0.toNat)) (bf (ab (f0 ia0.toNat))) (bf (ab (ab (f0 ia0.toNat)))) (bf (ab (ab (ab (f0 ia0.toNat))))) (bf (ab (ab (ab (ab (f0 ia0.toNat)))))) (bf (ab (ab (ab (ab (ab (f0 ia0.toNat))))))) (bf (ab (ab (ab (ab (ab (ab (f0 ia0.toNat)))))))) (bf (ab (ab (ab (ab (ab (ab (ab (f0 ia0.toNat))))))))) (bf (ab (ab (ab (ab (ab (ab (ab (ab (f0 ia0.toNat)))))))))) (ia0)) []))))))))) (.ret (V.tup [vi 0,vi 0]))
 |.L2 ic0 ic1 nc2 sc3 ic4 ic5 ic6 ic7 ic8 ic9 ic10 ic11 ic12 ic13 ic14 ic15 ic16 ic17=>.br (decide (ic0<ic1)) (.ob (dI ic0 nc2) (.cb (.cb (.br ((sv (ap (f0 (0+ic0.toNat)))).toList==sc3.toList) (.br (decide (0<=ic0)) (.brt (.ret (V.tup [vi ic17,vi 5]))) (.br (pE (aQ (f0 ic17.toNat)) (ca (f0 ic17.toNat)) (bW (f0 ic17.toNat)) (db (f0 ic17.toNat)) (bf (f0 ic17.toNat)) (bf (ab (f0 ic17.toNat))) (bf (ab (ab (f0 ic17.toNat)))) (bf (ab (ab (ab (f0 ic17.toNat))))) (bf (ab (ab (ab (ab (f0 ic17.toNat)))))) (bf (ab (ab (ab (ab (ab (f0 ic17.toNat))))))) (bf (ab (ab (ab (ab (ab (ab (f0 ic17.toNat)))))))) (bf (ab (ab (ab (ab (ab (ab (ab (f0 ic17.toNat))))))))) (bf (ab (ab (ab (ab (ab (ab (ab (ab (f0 ic17.toNat)))))))))) n2 != 0) (.ret (V.tup [vi ic17,vi (pE (aQ (f0 ic17.toNat)) (ca (f0 ic17.toNat)) (bW (f0 ic17.toNat)) (db (f0 ic17.toNat)) (bf (f0 ic17.toNat)) (bf (ab (f0 ic17.toNat))) (bf (ab (ab (f0 ic17.toNat)))) (bf (ab (ab (ab (f0 ic17.toNat))))) (bf (ab (ab (ab (ab (f0 ic17.toNat)))))) (bf (ab (ab (ab (ab (ab (f0 ic17.toNat))))))) (bf (ab (ab (ab (ab (ab (ab (f0 ic17.toNat)))))))) (bf (ab (ab (ab (ab (ab (ab (ab (f0 ic17.toNat))))))))) (bf (ab (ab (ab (ab (ab (ab (ab (ab (f0 ic17.toNat)))))))))) n2)])) (.next [some (some 0)] (mD.L0 (wI (ic17+1))) []))) (.next [some (some 0),some (some 1)] (mD.L2 (wI (ic0+1)) (ic1) (nc2) (sc3) (ic4) (ic5) (ic6) (ic7) (ic8) (ic9) (ic10) (ic11) (ic12) (ic13) (ic14) (ic15) (ic16) (ic17)) []))))) (.brf (.br (pE (aQ (f0 ic17.toNat)) (ca (f0 ic17.toNat)) (bW (f0 ic17.toNat)) (db (f0 ic17.toNat)) (bf (f0 ic17.toNat)) (bf (ab (f0 ic17.toNat))) (bf (ab (ab (f0 ic17.toNat)))) (bf (ab (ab (ab (f0 ic17.toNat))))) (bf (ab (ab (ab (ab (f0 ic17.toNat)))))) (bf (ab (ab (ab (ab (ab (f0 ic17.toNat))))))) (bf (ab (ab (ab (ab (ab (ab (f0 ic17.toNat)))))))) (bf (ab (ab (ab (ab (ab (ab (ab (f0 ic17.toNat))))))))) (bf (ab (ab (ab (ab (ab (ab (ab (ab (f0 ic17.toNat)))))))))) n2 != 0) (.ret (V.tup [vi ic17,vi (pE (aQ (f0 ic17.toNat)) (ca (f0 ic17.toNat)) (bW (f0 ic17.toNat)) (db (f0 ic17.toNat)) (bf (f0 ic17.toNat)) (bf (ab (f0 ic17.toNat))) (bf (ab (ab (f0 ic17.toNat)))) (bf (ab (ab (ab (f0 ic17.toNat))))) (bf (ab (ab (ab (ab (f0 ic17.toNat)))))) (bf (ab (ab (ab (ab (ab (f0 ic17.toNat))))))) (bf (ab (ab (ab (ab (ab (ab (f0 ic17.toNat)))))))) (bf (ab (ab (ab (ab (ab (ab (ab (f0 ic17.toNat))))))))) (bf (ab (ab (ab (ab (ab (ab (ab (ab (f0 ic17.toNat)))))))))) n2)])) (.next [some (some 0)] (mD.L0 (wI (ic17+1))) [])))
def Np:RT mD:=dm (f0,n2,f2,n4,f4) (.am n0 (.enter [some (some 0)] (mD.L0 (0)) []))
theorem VT:dD CZ u0 (ako n0 f0 n2 f2 n4 f4) (PD n0 f0 n2 f2 n4 f4) (Np n0 f0 n2 f2 n4 f4) (oZ n0 f0 n2 f2 n4 f4):=⟨⟨by kernel_rfl,by kernel_rfl⟩,fun s=>by cases s<;>exact⟨by kernel_rfl,by kernel_rfl⟩⟩
def y8 (n2 a:Nat):Int:=pE (aQ (f0 a)) (ca (f0 a)) (bW (f0 a)) (db (f0 a)) (bf (f0 a)) (bf (ab (f0 a))) (bf (ab (ab (f0 a)))) (bf (ab (ab (ab (f0 a))))) (bf (ab (ab (ab (ab (f0 a)))))) (bf (ab (ab (ab (ab (ab (f0 a))))))) (bf (ab (ab (ab (ab (ab (ab (f0 a)))))))) (bf (ab (ab (ab (ab (ab (ab (ab (f0 a))))))))) (bf (ab (ab (ab (ab (ab (ab (ab (ab (f0 a)))))))))) n2
def yx (i j:Nat):Bool:=(sv (ap (f0 (0+j)))).toList==(sv (ap (f0 i))).toList
def iL (n2 i:Nat):Int:=bif !iI (sv (ap (f0 i))) then 6 else bif jh i (yx f0 i) then 5 else y8 f0 n2 i
def eQ:Int:=eZ n0 (iL f0 n2)
def dR:Int:=dw n0 (iL f0 n2)
theorem alU (hn:n0<=9223372036854775807) (a:Nat) (hi:a<n0) (hj:∀ j,j<a->(iL f0 n2 j != 0)=false) (h1:iI (sv (ap (f0 a)))=true) (hx:(iL f0 n2 a != 0)=false->Ev (oZ n0 f0 n2 f2 n4 f4) (.L0 (wI ((a:Int)+1))) (.tup [vi (eQ n0 f0 n2),vi (dR n0 f0 n2)])):Ev (oZ n0 f0 n2 f2 n4 f4) (.L2 0 ((↑(a-0):Int)) (a-0) (sv (ap (f0 a))) (aQ (f0 a)) (ca (f0 a)) (bW (f0 a)) (db (f0 a)) (bf (f0 a)) (bf (ab (f0 a))) (bf (ab (ab (f0 a)))) (bf (ab (ab (ab (f0 a))))) (bf (ab (ab (ab (ab (f0 a)))))) (bf (ab (ab (ab (ab (ab (f0 a))))))) (bf (ab (ab (ab (ab (ab (ab (f0 a)))))))) (bf (ab (ab (ab (ab (ab (ab (ab (f0 a))))))))) (bf (ab (ab (ab (ab (ab (ab (ab (ab (f0 a)))))))))) ((a:Int))) (.tup [vi (eQ n0 f0 n2),vi (dR n0 f0 n2)]):=by
 refine iA (n:=a) (by omega) (yx f0 a) (P:=fun x=>Ev (oZ n0 f0 n2 f2 n4 f4) (.L2 x ((↑(a-0):Int)) (a-0) (sv (ap (f0 a))) (aQ (f0 a)) (ca (f0 a)) (bW (f0 a)) (db (f0 a)) (bf (f0 a)) (bf (ab (f0 a))) (bf (ab (ab (f0 a)))) (bf (ab (ab (ab (f0 a))))) (bf (ab (ab (ab (ab (f0 a)))))) (bf (ab (ab (ab (ab (ab (f0 a))))))) (bf (ab (ab (ab (ab (ab (ab (f0 a)))))))) (bf (ab (ab (ab (ab (ab (ab (ab (f0 a))))))))) (bf (ab (ab (ab (ab (ab (ab (ab (ab (f0 a)))))))))) ((a:Int))) (.tup [vi (eQ n0 f0 n2),vi (dR n0 f0 n2)])) (fun j hlt hq next=>Ev.of rfl (cr hlt (b7 hlt (aw (evObt (aw (evObt (evBr (fun hb=>eG (dqt (Int.natCast_nonneg j)) (ec (evRet ?_))) (fun hb=>aK (next hb)))))))))) (fun hq=>Ev.of rfl (ck (lZ (evBr (fun hb=>evRet ?_) (fun hb=>aK (hx ?_))))))
 ·have hc:iL f0 n2 a=5:=by unfold iL;rw[h1,cn j hlt hb];rfl
  unfold eQ dR;rw[(cu hi (by rw[hc];rfl) hj).1,(cu hi (by rw[hc];rfl) hj).2,hc]
 ·have hc:iL f0 n2 a=y8 f0 n2 a:=by unfold iL;rw[h1,b8 hq];rfl
  unfold eQ dR;rw[(cu hi (by rw[hc];exact hb) hj).1,(cu hi (by rw[hc];exact hb) hj).2,hc];rfl
 ·have hc:iL f0 n2 a=y8 f0 n2 a:=by unfold iL;rw[h1,b8 hq];rfl
  rw [hc];exact hb
theorem Pg (hp:yaa n0 f0):aR (Ev (oZ n0 f0 n2 f2 n4 f4)) (Np n0 f0 n2 f2 n4 f4) (.tup [vi (eQ n0 f0 n2),vi (dR n0 f0 n2)]):=by
 refine bg fun hn=>aF (iA hn (fun i=>iL f0 n2 i != 0) (P:=fun x=>Ev (oZ n0 f0 n2 f2 n4 f4) (.L0 x) (.tup [vi (eQ n0 f0 n2),vi (dR n0 f0 n2)])) (fun i hlt hj next=>Ev.of rfl (cr hlt (b7 hlt (aw (evObt (aw (evObt (evObp (hp i hlt) (evObt (evBr (fun hb=>ec (evRet ?_)) (fun hb=>aE (dqt (by omega)) (evAsm fun _=>aF (alU n0 f0 n2 f2 n4 f4 hn i hlt hj (yd hb) next))))))))))))) (fun hj=>Ev.of rfl (ck (evRet ?_))))
 ·have hc:iL f0 n2 i=6:=by unfold iL;rw[show(!iI (sv (ap (f0 i))))=true from hb];rfl
  unfold eQ dR;rw[(cu hlt (by rw[hc];rfl) hj).1,(cu hlt (by rw[hc];rfl) hj).2,hc]
 ·unfold eQ dR;rw[(fR hj).1,(fR hj).2]
theorem adq (hp:yaa n0 (aa ah f0)):aR (Ev (oZ n0 f0 n2 f2 n4 f4)) (Np n0 f0 n2 f2 n4 f4) (.tup [vi (eQ n0 (aa ah f0) n2),vi (dR n0 (aa ah f0) n2)]):=Pg n0 f0 n2 f2 n4 f4 hp
def Oj:aB:=bF [.sl ah,.fn 131 [] [],.fn 132 [] [.pd [.sl ak,.sl ah]]] (fun
 |[.sl n0 f0,.fn _ [] [],.fn _ [] [.pd [.sl n2 f2,.sl n4 f4]]]=>yaa n0 f0
 |_=>False) fun
 |[.sl n0 f0,.fn _ [] [],.fn _ [] [.pd [.sl n2 f2,.sl n4 f4]]]=>.tup [vi (eQ n0 f0 n2),vi (dR n0 f0 n2)]
 |_=>.any
theorem RS:(vP Oj).Ok Tryz.prog 130:=bV aaH Tryz.func130 (by kernel_rfl) fun ds hp=>iS (VT ..) (adq _ _ _ _ _ _ hp)
def oa:bj:=(127,.con JQ)::(130,.con Oj)::(132,.con Ha)::Uy
theorem yf:aW Tryz.prog eqs its oa:=.con O3 (.con RS (.con Ce (RU)))
def YY:RT Empty:=.am n0 (.ii (.asm ((!decide (10<(↑n0:Int)))=true->n2<=9223372036854775807) (.ii (.br (bif decide (10<(↑n0:Int)) then true else decide (20<(↑n2:Int))) (.ret (V.tup [vi 0,vi 0,vi 3])) (.obp (yaa n0 f0) (.obt (.br (dU n0 (aa ak f0)!=0) (.ret (V.tup [vi 1,vi (eT n0 (aa ak f0)),vi (dU n0 (aa ak f0))])) (.obp (yaa n2 f2) (.obt (.br (dR n2 (aa ah f2) n0 != 0) (.ret (V.tup [vi 2,vi (eQ n2 (aa ah f2) n0),vi (dR n2 (aa ah f2) n0)])) (.ret (V.tup [vi 0,vi 0,vi 0]))))))))))))
theorem Ul:cJ cL (aP JJ oa u0 ah8 [V.agg [V.sl n0 (aa ak f0),V.sl n2 (aa ah f2)]]) (YY n0 f0 n2 f2):=⟨by kernel_rfl,by kernel_rfl⟩
def lA:Int:=bif bif decide (10<(↑n0:Int)) then true else decide (20<(↑n2:Int)) then 0 else bif dU n0 (aa ak f0)!=0 then 1 else bif dR n2 (aa ah f2) n0 != 0 then 2 else 0
def lc:Int:=bif bif decide (10<(↑n0:Int)) then true else decide (20<(↑n2:Int)) then 0 else bif dU n0 (aa ak f0)!=0 then eT n0 (aa ak f0) else bif dR n2 (aa ah f2) n0 != 0 then eQ n2 (aa ah f2) n0 else 0
def bI:Int:=bif bif decide (10<(↑n0:Int)) then true else decide (20<(↑n2:Int)) then 3 else bif dU n0 (aa ak f0)!=0 then dU n0 (aa ak f0) else bif dR n2 (aa ah f2) n0 != 0 then dR n2 (aa ah f2) n0 else 0
def xg:V:=.tup [vi (lA n0 f0 n2 f2),vi (lc n0 f0 n2 f2),vi (bI n0 f0 n2 f2)]
theorem aep (hp:yaa n0 f0/\yaa n2 f2):aR cq (YY n0 f0 n2 f2) (xg n0 f0 n2 f2):=evAsm (fun a0=>evObi (evObi (evAsm (fun a0=>evObi (evObi (evBr (fun h0=>evRet (by unfold xg lA lc bI;try rw[h0];rfl)) (fun h0=>evObp (by first|assumption|(first|exact hp.1|exact hp.2)) (evObt (evBr (fun h1=>evRet (by unfold xg lA lc bI;try rw[h0];try rw[h1];rfl)) (fun h1=>evObp (by first|assumption|(first|exact hp.1|exact hp.2)) (evObt (evBr (fun h2=>evRet (by unfold xg lA lc bI;try rw[h0];try rw[h1];try rw[h2];rfl)) (fun h2=>evRet (by unfold xg lA lc bI;try rw[h0];try rw[h1];try rw[h2];rfl))))))))))))))
def Nc:aB:=bF [.agg [.sl ak,.sl ah]] (fun
 |[.agg [.sl n0 f0,.sl n2 f2]]=>yaa n0 f0/\yaa n2 f2
 |_=>False) fun
 |[.agg [.sl n0 f0,.sl n2 f2]]=>xg n0 f0 n2 f2
 |_=>.any
theorem D9:(vP Nc).Ok Tryz.prog 59:=bV yf Tryz.func59 (by kernel_rfl) fun ds hp=>cQ (Ul ..) (aep _ _ _ _ hp)
inductive iM where
 |L0 (ia0:Int)
 |L1 (ib0:Int) (bb1:Bool) (ib2:Int)
 |L2 (ic0 ic1:Int) (bc2:Bool) (ic3:Int)
 |L3 (id0 id1 id2:Int) (bd3:Bool) (id4:Int)
def yI (l:List O):List O:=dm (n0,n2,f2) (O.cells [V.str (sv (ap (f0 x4.toNat))),V.sl (au (ap (ab (f0 x4.toNat)))) fun i=>al ae (aX (ap (ab (f0 x4.toNat))) i),V.sl (au (ap (ab (ab (f0 x4.toNat))))) fun i=>al ae (aX (ap (ab (ab (f0 x4.toNat)))) i),V.sl (au (ap (ab (ab (ab (f0 x4.toNat)))))) fun i=>al [Ty.sl ae] (aX (ap (ab (ab (ab (f0 x4.toNat))))) i),vi (db (f0 x4.toNat)),vi (bf (f0 x4.toNat))] 126::l)
def tn:iM->bz×List O×Option Ex
 |.L0 ia0=>([(6,vi ia0),(5,V.pl 0 0),(2,V.pl 1 0),(1,vi x4)],yI n0 f0 n2 f2 x4 [O.cells [V.sl n0 (aa ak f0),V.sl n2 (aa ah f2)] 25],none)
 |.L1 ib0 bb1 ib2=>([(14,vi ib0),(13,V.bool bb1),(6,vi ib2),(5,V.pl 0 0),(2,V.pl 1 0),(1,vi x4)],yI n0 f0 n2 f2 x4 [O.cells [V.sl n0 (aa ak f0),V.sl n2 (aa ah f2)] 25],none)
 |.L2 ic0 ic1 bc2 ic3=>([(15,vi ic0),(14,vi ic1),(13,V.bool bc2),(6,vi ic3),(5,V.pl 0 0),(2,V.pl 1 0),(1,vi x4)],yI n0 f0 n2 f2 x4 [O.cells [V.sl n0 (aa ak f0),V.sl n2 (aa ah f2)] 25],none)
 |.L3 id0 id1 id2 bd3 id4=>([(16,vi id0),(15,vi id1),(14,vi id2),(13,V.bool bd3),(6,vi id4),(5,V.pl 0 0),(2,V.pl 1 0),(1,vi x4)],yI n0 f0 n2 f2 x4 [O.cells [V.sl n0 (aa ak f0),V.sl n2 (aa ah f2)] 25],none)
def adY:iM->JJ
 |.L0 ia0=>(0,[])
 |.L1 ib0 bb1 ib2=>(1,[])
 |.L2 ic0 ic1 bc2 ic3=>(2,[])
 |.L3 id0 id1 id2 bd3 id4=>(3,[])
def LO:T (bO JJ):=aP JJ oa u0 adx [V.agg [V.sl n0 (aa ak f0),V.sl n2 (aa ah f2)],vi x4]
def uU (cx:List Cx):Lp JJ:=eR (ej (LO n0 f0 n2 f2 x4) [false])
def BL (cx:List Cx):Lp JJ:=eR (ej (vX oa u0 (0,[]) (uU n0 f0 n2 f2 x4 []) (tn n0 f0 n2 f2 x4 (.L0 (0:Int)))) [false,false,false,false,false,true])
def Bj (cx:List Cx):Lp JJ:=eR (ej (vX oa u0 (1,[]) (BL n0 f0 n2 f2 x4 []) (tn n0 f0 n2 f2 x4 (.L1 (0:Int) false (0:Int)))) [false])
def OS (cx:List Cx):Lp JJ:=eR (ej (vX oa u0 (2,[]) (Bj n0 f0 n2 f2 x4 []) (tn n0 f0 n2 f2 x4 (.L2 (0:Int) (0:Int) false (0:Int)))) [true])
def ad3:JJ->Lp JJ
 |(0,cx)=>uU n0 f0 n2 f2 x4 cx
 |(1,cx)=>BL n0 f0 n2 f2 x4 cx
 |(2,cx)=>Bj n0 f0 n2 f2 x4 cx
 |(3,cx)=>OS n0 f0 n2 f2 x4 cx
 |(_,cx)=>uU n0 f0 n2 f2 x4 cx
def akQ:LD JJ iM:=⟨adY,ad3 n0 f0 n2 f2 x4,tn n0 f0 n2 f2 x4⟩
def gM (n0:Nat) (f0:aN) (n2:Nat) (f2:aN) (x4:Int):iM->RT iM
 |.L0 ia0=>.br (decide (ia0<x4)) (.ob (dI ia0 n0) (.br ((sv (ap (f0 ia0.toNat))).toList==(sv (ap (f0 x4.toNat))).toList) (.ret (vi 5)) (.next [some (some 0),some (some 1)] (iM.L0 (wI (ia0+1))) []))) (.cb (.cb (.ii (.br (bif !aA (↑(au (ap (ab (f0 x4.toNat)))):Int) 2 12 then true else !aA (↑(au (ap (ab (ab (f0 x4.toNat))))):Int) 2 12) (.ret (vi 3)) (.ii (.br (bif !jA (au (ap (ab (f0 x4.toNat)))) fun i=>al ae (aX (ap (ab (f0 x4.toNat))) i) then true else !jA (au (ap (ab (ab (f0 x4.toNat))))) fun i=>al ae (aX (ap (ab (ab (f0 x4.toNat)))) i)) (.ret (vi 7)) (.ii (.br (bif !d0 (au (ap (ab (f0 x4.toNat)))) fun i=>al ae (aX (ap (ab (f0 x4.toNat))) i) then true else !d0 (au (ap (ab (ab (f0 x4.toNat))))) fun i=>al ae (aX (ap (ab (ab (f0 x4.toNat)))) i)) (.ret (vi 2)) (.asm (true=true->au (ap (ab (ab (ab (f0 x4.toNat)))))<=9223372036854775807) (.asm (true=true->au (ap (ab (f0 x4.toNat)))<=9223372036854775807) (.br ((↑(au (ap (ab (ab (ab (f0 x4.toNat)))))):Int)!=(↑(au (ap (ab (f0 x4.toNat)))):Int)) (.ret (vi 6)) (.cb (.obi (.br (aA (db (f0 x4.toNat)) 0 10000000) (.ob (aA (db (f0 x4.toNat)) 0 10000000) (.cb (.enter [some (some 0),some (some 1)] (iM.L1 (0) (aA (bf (f0 x4.toNat)) 0 10000000) (ia0)) []))) (.enter [some (some 0),some (some 1)] (iM.L1 (0) (false) (ia0)) [])))))))))))))))
 |.L1 ib0 bb1 ib2=>.asm (true=true->au (ap (ab (ab (ab (f0 x4.toNat)))))<=9223372036854775807) (.br (decide (ib0<(↑(au (ap (ab (ab (ab (f0 x4.toNat)))))):Int))) (.ob (decide (0<=ib0/\ib0<(↑(au (ap (ab (ab (ab (f0 x4.toNat)))))):Int))) (.asm (true=true->au (ap (aX (ap (ab (ab (ab (f0 x4.toNat))))) ib0.toNat))<=9223372036854775807) (.asm (true=true->au (ap (ab (ab (f0 x4.toNat))))<=9223372036854775807) (.br ((↑(au (ap (aX (ap (ab (ab (ab (f0 x4.toNat))))) ib0.toNat))):Int)!=(↑(au (ap (ab (ab (f0 x4.toNat))))):Int)) (.ret (vi 6)) (.next [some (some 0),some (some 1)] (iM.L1 (wI (ib0+1)) (bb1) (ib2)) []))))) (.enter [some (some 0),some (some 1)] (iM.L2 (0) (ib0) (bb1) (ib2)) []))
 |.L2 ic0 ic1 bc2 ic3=>.asm (true=true->au (ap (ab (ab (ab (f0 x4.toNat)))))<=9223372036854775807) (.br (decide (ic0<(↑(au (ap (ab (ab (ab (f0 x4.toNat)))))):Int))) (.enter [some (some 0),some (some 1)] (iM.L3 (0) (ic0) (ic1) (bc2) (ic3)) []) (.br (!bc2) (.ret (vi 7)) (.ret (vi 0))))
 |.L3 id0 id1 id2 bd3 id4=>.asm (true=true->au (ap (ab (ab (f0 x4.toNat))))<=9223372036854775807) (.br (decide (id0<(↑(au (ap (ab (ab (f0 x4.toNat))))):Int))) (.ii (.obi (.obj (bd3) (decide (0<=id1/\id1<(↑(au (ap (ab (ab (ab (f0 x4.toNat)))))):Int))) (.ii (.obi (.obj (bd3) (decide (0<=id0/\id0<(↑(au (ap (aX (ap (ab (ab (ab (f0 x4.toNat))))) id1.toNat))):Int))) (.obi (.br (bd3) (.ob (bd3) (.cb (.next [some (some 0),some (some 1)] (iM.L3 (wI (id0+1)) (id1) (id2) (aA (ar (aX (ap (aX (ap (ab (ab (ab (f0 x4.toNat))))) id1.toNat)) id0.toNat)) 0 10000000) (id4)) []))) (.next [some (some 0),some (some 1)] (iM.L3 (wI (id0+1)) (id1) (id2) (false) (id4)) []))))))))) (.next [some (some 0),some (some 1)] (iM.L2 (wI (id1+1)) (id2) (bd3) (id4)) []))
def Rl:RT iM:=dm (n2,f2) (.ob (dI x4 n0) (.obp ((sv (ap (f0 x4.toNat))).size<=(9223372036854775807:Nat)) (.obt (.br (!j6 (sv (ap (f0 x4.toNat)))) (.ret (vi 6)) (.enter [some (some 1),some (some 0)] (iM.L0 (0)) [])))))
theorem U3:dD oa u0 (akQ n0 f0 n2 f2 x4) (LO n0 f0 n2 f2 x4) (Rl n0 f0 n2 f2 x4) (gM n0 f0 n2 f2 x4):=⟨⟨by kernel_rfl,by kernel_rfl⟩,fun s=>by cases s<;>exact⟨by kernel_rfl,by kernel_rfl⟩⟩
def qv (n3:Nat) (f5:aN) (i:Nat):Bool:=(au (ap (f5 i)):Int)!=(n3:Int)
def my (i j:Nat):Bool:=aA (ar (aX (ap (f5 i)) j)) 0 10000000
def gG (i:Nat):Bool:=cz n3 (my f5 i)
def ku:Bool:=bif aA x7 0 10000000 then aA x8 0 10000000 else false
def Ji (a b:Bool):Bool:=bif !a then true else !b
def CJ (n1:Nat) (f1:aN) (n3:Nat) (f3:aN) (n5:Nat) (f5:aN) (x7 x8:Int):Int :=
 bif Ji (aA (n1:Int) 2 12) (aA (n3:Int) 2 12) then 3 else bif Ji (jA n1 f1) (jA n3 f3) then 7 else bif Ji (d0 n1 f1) (d0 n3 f3) then 2 else bif(n5:Int)!=(n1:Int) then 6 else bif jh n5 (qv n3 f5) then 6 else bif !(ku x7 x8&&cz n5 (gG n3 f5)) then 7 else 0
section
variable (a:Nat)
include a
def Bp (j:Nat):Bool:=(sv (ap (f0 j))).toList==(sv (ap (f0 a))).toList
def gf:Int:=bif !j6 (sv (ap (f0 a))) then 6 else bif jh a (Bp f0 a) then 5 else CJ (au (ap (ab (f0 a)))) (fun i=>al ae (aX (ap (ab (f0 a))) i)) (au (ap (ab (ab (f0 a))))) (fun i=>al ae (aX (ap (ab (ab (f0 a)))) i)) (au (ap (ab (ab (ab (f0 a)))))) (aX (ap (ab (ab (ab (f0 a)))))) (db (f0 a)) (bf (f0 a))
def t44 (g:Bool):Int:=bif !(g&&cz (au (ap (ab (ab (ab (f0 a)))))) (gG (au (ap (ab (ab (f0 a))))) (aX (ap (ab (ab (ab (f0 a)))))))) then 7 else 0
theorem SZ (r:V) (i:Nat) (hi:i<(au (ap (ab (ab (ab (f0 a))))))) (h3:(au (ap (ab (ab (f0 a)))))<=9223372036854775807) (hrow:∀ i,i<(au (ap (ab (ab (ab (f0 a))))))->(au (ap ((aX (ap (ab (ab (ab (f0 a)))))) i)):Int)=((au (ap (ab (ab (f0 a))))):Int)) (g:Bool) (t t':Int) (hx:Ev (gM n0 f0 n2 f2 (a:Int)) (.L2 (wI ((i:Int)+1)) t (g&&gG (au (ap (ab (ab (f0 a))))) (aX (ap (ab (ab (ab (f0 a)))))) i) t') r):Ev (gM n0 f0 n2 f2 (a:Int)) (.L3 0 i t g t') r:=by
 have key:=Bv h3 (P:=fun x=>Ev (gM n0 f0 n2 f2 (a:Int)) (.L3 x i t (g&&cz x.toNat (my (aX (ap (ab (ab (ab (f0 a)))))) i)) t') r) (fun j hlt nx=>?_) (Ev.of rfl (evAsm fun _=>ck (aK hx)))
 ·simpa[cz] using key
 ·have hj:(j:Int)<(au (ap ((aX (ap (ab (ab (ab (f0 a)))))) i)):Int):=by rw[hrow i hi];omega
  simp only [Int.toNat_natCast]
  rw [show(wI ((j:Int)+1)).toNat=j+1 by rw[j7 hlt h3];rfl]at nx
  refine Ev.of rfl (evAsm fun _=>cr hlt (evObi (evObi (evObi (evObj (fun _=>dqt ⟨by omega,by show(i:Int)<((au (ap (ab (ab (ab (f0 a)))))):Int);omega⟩) (evObi (evObi (evObi (evObj (fun _=>dqt ⟨by omega,hj⟩) (evObi (evBr (fun hb=>aE hb (aw (evObt (aK ?_)))) (fun hb=>aK ?_))))))))))))
  ·have e:(g&&cz (j+1) (my (aX (ap (ab (ab (ab (f0 a)))))) i))=my (aX (ap (ab (ab (ab (f0 a)))))) i j:=by
    have hb':(g&&cz j (my (aX (ap (ab (ab (ab (f0 a)))))) i))=true:=hb
    show (g&&(cz j (my (aX (ap (ab (ab (ab (f0 a)))))) i)&&my (aX (ap (ab (ab (ab (f0 a)))))) i j))=_
    rw [← Bool.and_assoc,hb',Bool.true_and]
   rw [e]at nx;exact nx
  ·have e:(g&&cz (j+1) (my (aX (ap (ab (ab (ab (f0 a)))))) i))=false:=by
    have hb':(g&&cz j (my (aX (ap (ab (ab (ab (f0 a)))))) i))=false:=hb
    show (g&&(cz j (my (aX (ap (ab (ab (ab (f0 a)))))) i)&&my (aX (ap (ab (ab (ab (f0 a)))))) i j))=_
    rw [← Bool.and_assoc,hb',Bool.false_and]
   rw [e]at nx;exact nx
theorem U5 (h5:(au (ap (ab (ab (ab (f0 a))))))<=9223372036854775807) (hrow:∀ i,i<(au (ap (ab (ab (ab (f0 a))))))->(au (ap ((aX (ap (ab (ab (ab (f0 a)))))) i)):Int)=((au (ap (ab (ab (f0 a))))):Int)) (g:Bool) (t t':Int):Ev (gM n0 f0 n2 f2 (a:Int)) (.L2 0 t g t') (vi (t44 f0 a g)):=by
 by_cases h3:(au (ap (ab (ab (f0 a)))))<=9223372036854775807
 ·have key:=Bv h5 (P:=fun x=>Ev (gM n0 f0 n2 f2 (a:Int)) (.L2 x t (g&&cz x.toNat (gG (au (ap (ab (ab (f0 a))))) (aX (ap (ab (ab (ab (f0 a)))))))) t') (vi (t44 f0 a g))) (fun i hlt nx=>?_) (Ev.of rfl (evAsm fun _=>ck ?_))
  ·simpa[cz] using key
  ·simp only[Int.toNat_natCast]
   rw [show(wI ((i:Int)+1)).toNat=i+1 by rw[j7 hlt h5];rfl]at nx
   refine Ev.of rfl (evAsm fun _=>cr hlt (aF (SZ n0 f0 n2 f2 a _ i hlt h3 hrow _ t t' ?_)))
   rw [Bool.and_assoc];exact nx
  ·simp only[Int.toNat_natCast]
   unfold t44
   refine evBr (fun h=>evRet ?_) (fun h=>evRet ?_)
   ·rw[show(!(g&&cz (au (ap (ab (ab (ab (f0 a)))))) (gG (au (ap (ab (ab (f0 a))))) (aX (ap (ab (ab (ab (f0 a)))))))))=true from h];rfl
   ·rw[show(!(g&&cz (au (ap (ab (ab (ab (f0 a)))))) (gG (au (ap (ab (ab (f0 a))))) (aX (ap (ab (ab (ab (f0 a)))))))))=false from h];rfl
 ·have key:=Bv h5 (P:=fun x=>Ev (gM n0 f0 n2 f2 (a:Int)) (.L2 x t (g&&cz x.toNat (gG (au (ap (ab (ab (f0 a))))) (aX (ap (ab (ab (ab (f0 a)))))))) t') (vi (t44 f0 a g))) (fun i hlt nx=>?_) (Ev.of rfl (evAsm fun _=>ck ?_))
  ·simpa[cz] using key
  ·exact Ev.of rfl (evAsm fun _=>cr hlt (aF (Ev.of rfl (evAsm fun h=>absurd (h rfl) h3))))
  ·simp only[Int.toNat_natCast]
   unfold t44
   refine evBr (fun h=>evRet ?_) (fun h=>evRet ?_)
   ·rw[show(!(g&&cz (au (ap (ab (ab (ab (f0 a)))))) (gG (au (ap (ab (ab (f0 a))))) (aX (ap (ab (ab (ab (f0 a)))))))))=true from h];rfl
   ·rw[show(!(g&&cz (au (ap (ab (ab (ab (f0 a)))))) (gG (au (ap (ab (ab (f0 a))))) (aX (ap (ab (ab (ab (f0 a)))))))))=false from h];rfl
theorem HS (g:Bool) (t':Int):Ev (gM n0 f0 n2 f2 (a:Int)) (.L1 0 g t') (vi (bif jh (au (ap (ab (ab (ab (f0 a)))))) (qv (au (ap (ab (ab (f0 a))))) (aX (ap (ab (ab (ab (f0 a))))))) then 6 else t44 f0 a g)):=by
 by_cases h5:(au (ap (ab (ab (ab (f0 a))))))<=9223372036854775807
 ·refine iA h5 (qv (au (ap (ab (ab (f0 a))))) (aX (ap (ab (ab (ab (f0 a))))))) (P:=fun x=>Ev (gM n0 f0 n2 f2 (a:Int)) (.L1 x g t') (vi (bif jh (au (ap (ab (ab (ab (f0 a)))))) (qv (au (ap (ab (ab (f0 a))))) (aX (ap (ab (ab (ab (f0 a))))))) then 6 else t44 f0 a g))) (fun i hlt hj next=>Ev.of rfl (evAsm fun _=>cr hlt (b7 hlt (evAsm fun _=>evAsm fun _=>evBr (fun hb=>evRet ?_) (fun hb=>aK (next hb)))))) (fun hj=>Ev.of rfl (evAsm fun _=>ck (aF ?_)))
  ·rw[cn i hlt hb];rfl
  ·rw[b8 hj]
   exact U5 n0 f0 n2 f2 a h5 (fun i hi=>by have:=hj i hi;unfold qv at this;simpa using this) g _ t'
 ·exact Ev.of rfl (evAsm fun h=>absurd (h rfl) h5)
theorem Sy (ha:a<n0) (hn:n0<=9223372036854775807):Ev (gM n0 f0 n2 f2 (a:Int)) (.L0 0) (vi (bif jh a (Bp f0 a) then 5 else CJ (au (ap (ab (f0 a)))) (fun i=>al ae (aX (ap (ab (f0 a))) i)) (au (ap (ab (ab (f0 a))))) (fun i=>al ae (aX (ap (ab (ab (f0 a)))) i)) (au (ap (ab (ab (ab (f0 a)))))) (aX (ap (ab (ab (ab (f0 a)))))) (db (f0 a)) (bf (f0 a)))):=by
 refine iA (n:=a) (by omega) (Bp f0 a) (P:=fun x=>Ev (gM n0 f0 n2 f2 (a:Int)) (.L0 x) _) (fun j hlt hj next=>Ev.of rfl (cr hlt (b7 (by omega) (evBr (fun hb=>evRet ?_) (fun hb=>aK (next hb)))))) (fun hj=>Ev.of rfl (ck ?_))
 ·rw[cn j hlt hb];rfl
 ·rw [b8 hj,cond_false]
  unfold CJ
  refine aw (evObt (aw (evObt (evObi (evObi (evBr (fun h=>evRet (by rw[show Ji (aA ((au (ap (ab (f0 a)))):Int) 2 12) (aA ((au (ap (ab (ab (f0 a))))):Int) 2 12)=true from h];rfl)) (fun h=>?_)))))))
  rw [show Ji (aA ((au (ap (ab (f0 a)))):Int) 2 12) (aA ((au (ap (ab (ab (f0 a))))):Int) 2 12)=false from h]
  refine evObi (evObi (evBr (fun h=>evRet (by rw[show Ji (jA (au (ap (ab (f0 a)))) (fun i=>al ae (aX (ap (ab (f0 a))) i))) (jA (au (ap (ab (ab (f0 a))))) (fun i=>al ae (aX (ap (ab (ab (f0 a)))) i)))=true from h];rfl)) (fun h=>?_)))
  rw [show Ji (jA (au (ap (ab (f0 a)))) (fun i=>al ae (aX (ap (ab (f0 a))) i))) (jA (au (ap (ab (ab (f0 a))))) (fun i=>al ae (aX (ap (ab (ab (f0 a)))) i)))=false from h]
  refine evObi (evObi (evBr (fun h=>evRet (by rw[show Ji (d0 (au (ap (ab (f0 a)))) (fun i=>al ae (aX (ap (ab (f0 a))) i))) (d0 (au (ap (ab (ab (f0 a))))) (fun i=>al ae (aX (ap (ab (ab (f0 a)))) i)))=true from h];rfl)) (fun h=>?_)))
  rw [show Ji (d0 (au (ap (ab (f0 a)))) (fun i=>al ae (aX (ap (ab (f0 a))) i))) (d0 (au (ap (ab (ab (f0 a))))) (fun i=>al ae (aX (ap (ab (ab (f0 a)))) i)))=false from h]
  refine evAsm fun _=>evAsm fun _=>evBr (fun h=>evRet (by rw[show(((au (ap (ab (ab (ab (f0 a)))))):Int)!=((au (ap (ab (f0 a)))):Int))=true from h];rfl)) (fun h=>?_)
  rw [show(((au (ap (ab (ab (ab (f0 a)))))):Int)!=((au (ap (ab (f0 a)))):Int))=false from h]
  refine aw (evObt (evObi (evBr (fun hg=>aE hg (aw (evObt (aF ?_)))) (fun hg=>aF ?_))))
  ·have e:ku (db (f0 a)) (bf (f0 a))=aA (bf (f0 a)) 0 10000000:=by unfold ku;rw[show aA (db (f0 a)) 0 10000000=true from hg];rfl
   rw [e];exact HS n0 f0 n2 f2 a _ _
  ·have e:ku (db (f0 a)) (bf (f0 a))=false:=by unfold ku;rw[show aA (db (f0 a)) 0 10000000=false from hg];rfl
   rw [e];exact HS n0 f0 n2 f2 a _ _
end
theorem JU (hp:0<=x4/\x4<n0/\n0<=9223372036854775807/\yaa n0 f0):aR (Ev (gM n0 f0 n2 f2 x4)) (Rl n0 f0 n2 f2 x4) (vi (gf f0 x4.toNat)):=by
 obtain ⟨h0,h1,h2,h3⟩:=hp
 obtain ⟨a,rfl⟩:∃ a:Nat,x4=(a:Int):=⟨x4.toNat,by omega⟩
 have ha:a<n0:=by omega
 unfold gf
 simp only [Int.toNat_natCast]
 refine b7 ha (evObp (h3 a ha) (evObt (evBr (fun h=>evRet (by rw[show(!j6 (sv (ap (f0 a))))=true from h];rfl)) (fun h=>aF ?_))))
 rw [show(!j6 (sv (ap (f0 a))))=false from h]
 exact Sy n0 f0 n2 f2 a ha h2
theorem ahM (hp:0<=x4/\x4<n0/\n0<=9223372036854775807/\yaa n0 (aa ak f0)):aR (Ev (gM n0 f0 n2 f2 x4)) (Rl n0 f0 n2 f2 x4) (vi (gf (aa ak f0) x4.toNat)):=JU n0 f0 n2 f2 x4 hp
def RN:aB:=bF [.agg [.sl ak,.sl ah],tI] (fun
 |[.agg [.sl n0 f0,.sl n2 f2],.int _ x4]=>0<=x4/\x4<n0/\n0<=9223372036854775807/\yaa n0 f0
 |_=>False) fun
 |[.agg [.sl n0 f0,.sl n2 f2],.int _ x4]=>vi (gf f0 x4.toNat)
 |_=>.any
theorem LR:(vP RN).Ok Tryz.prog 144:=bV yf Tryz.func144 (by kernel_rfl) fun ds hp=>iS (U3 ..) (ahM _ _ _ _ _ hp)
inductive sF where
 |L0 (ia0:Int)
def XH:sF->bz×List O×Option Ex
 |.L0 ia0=>([(6,vi ia0),(5,V.pl 0 0),(2,V.pl 1 0),(1,vi x4)],[O.cells [V.str (sv (ap (f2 x4.toNat))),vi (aQ (f2 x4.toNat)),vi (ca (f2 x4.toNat)),vi (bW (f2 x4.toNat)),vi (db (f2 x4.toNat)),vi (bf (f2 x4.toNat)),vi (bf (ab (f2 x4.toNat))),vi (bf (ab (ab (f2 x4.toNat)))),vi (bf (ab (ab (ab (f2 x4.toNat))))),vi (bf (ab (ab (ab (ab (f2 x4.toNat)))))),vi (bf (ab (ab (ab (ab (ab (f2 x4.toNat))))))),vi (bf (ab (ab (ab (ab (ab (ab (f2 x4.toNat)))))))),vi (bf (ab (ab (ab (ab (ab (ab (ab (f2 x4.toNat))))))))),vi (bf (ab (ab (ab (ab (ab (ab (ab (ab (f2 x4.toNat))))))))))] 128,O.cells [V.sl n0 (aa ak f0),V.sl n2 (aa ah f2)] 25],none)
def ahh:sF->JJ
 |.L0 ia0=>(0,[])
def Oo:T (bO JJ):=aP JJ oa u0 afj [V.agg [V.sl n0 (aa ak f0),V.sl n2 (aa ah f2)],vi x4]
def By (cx:List Cx):Lp JJ:=eR (ej (Oo n0 f0 n2 f2 x4) [false])
def aeq:JJ->Lp JJ
 |(0,cx)=>By n0 f0 n2 f2 x4 cx
 |(_,cx)=>By n0 f0 n2 f2 x4 cx
def anq:LD JJ sF:=⟨ahh,aeq n0 f0 n2 f2 x4,XH n0 f0 n2 f2 x4⟩
def tS (n0:Nat) (f0:aN) (n2:Nat) (f2:aN) (x4:Int):sF->RT sF
 |.L0 ia0=>.br (decide (ia0<x4)) (.ob (dI ia0 n2) (.br ((sv (ap (f2 ia0.toNat))).toList==(sv (ap (f2 x4.toNat))).toList) (.ret (vi 5)) (.next [some (some 0),some (some 1)] (sF.L0 (wI (ia0+1))) []))) (.am n0 (.cb (.br (!aA (aQ (f2 x4.toNat)) 0 (wI ((↑n0:Int)-1))) (.ret (vi 4)) (.cb (.br (!aA (ca (f2 x4.toNat)) 1 3) (.ret (vi 2)) (.cb (.obi (.br (!!aA (bW (f2 x4.toNat)) 1 1000000) (.ob (!!aA (bW (f2 x4.toNat)) 1 1000000) (.cb (.ii (.br (!!aA (db (f2 x4.toNat)) 1 5000000) (.ob (!!aA (db (f2 x4.toNat)) 1 5000000) (.ob (!!aA (db (f2 x4.toNat)) 1 5000000) (.cb (.obi (.br (!!aA (bf (f2 x4.toNat)) 0 (db (f2 x4.toNat))) (.ob (!!aA (bf (f2 x4.toNat)) 0 (db (f2 x4.toNat))) (.cb (.br (!aA (bf (ab (f2 x4.toNat))) 0 1000) (.ret (vi 7)) (.cb (.obi (.br (!!eb (bf (ab (ab (f2 x4.toNat)))) (bf (ab (ab (ab (f2 x4.toNat))))) 0 1000) (.ob (!!eb (bf (ab (ab (f2 x4.toNat)))) (bf (ab (ab (ab (f2 x4.toNat))))) 0 1000) (.cb (.obi (.br (!!eb (bf (ab (ab (ab (ab (f2 x4.toNat)))))) (bf (ab (ab (ab (ab (ab (f2 x4.toNat))))))) 0 1000) (.ob (!!eb (bf (ab (ab (ab (ab (f2 x4.toNat)))))) (bf (ab (ab (ab (ab (ab (f2 x4.toNat))))))) 0 1000) (.cb (.obi (.br (!!aA (bf (ab (ab (ab (ab (ab (ab (f2 x4.toNat)))))))) 1 200000) (.ob (!!aA (bf (ab (ab (ab (ab (ab (ab (f2 x4.toNat)))))))) 1 200000) (.cb (.obi (.br (!!aA (bf (ab (ab (ab (ab (ab (ab (ab (f2 x4.toNat))))))))) 0 1000) (.ob (!!aA (bf (ab (ab (ab (ab (ab (ab (ab (f2 x4.toNat))))))))) 0 1000) (.cb (.br (!aA (bf (ab (ab (ab (ab (ab (ab (ab (ab (f2 x4.toNat)))))))))) 0 3600) (.ret (vi 7)) (.ii (.obi (.br (bif ca (f2 x4.toNat)==1 then bf (ab (ab (ab (ab (ab (ab (ab (ab (f2 x4.toNat)))))))))!=0 else false) (.ret (vi 2)) (.ret (vi 0)))))))) (.ret (vi 7)))))) (.ret (vi 7)))))) (.ret (vi 7)))))) (.ret (vi 7)))))))) (.ret (vi 7))))))) (.ret (vi 7)))))) (.ret (vi 7))))))))))
def Nq:RT sF:=dm (n0,f0) (.ob (dI x4 n2) (.obp ((sv (ap (f2 x4.toNat))).size<=(9223372036854775807:Nat)) (.obt (.br (!j6 (sv (ap (f2 x4.toNat)))) (.ret (vi 6)) (.enter [some (some 1),some (some 0)] (sF.L0 (0)) [])))))
theorem U0:dD oa u0 (anq n0 f0 n2 f2 x4) (Oo n0 f0 n2 f2 x4) (Nq n0 f0 n2 f2 x4) (tS n0 f0 n2 f2 x4):=⟨⟨by kernel_rfl,by kernel_rfl⟩,fun s=>by cases s<;>exact⟨by kernel_rfl,by kernel_rfl⟩⟩
def HM:Bool:=bif x2==1 then x13 != 0 else false
def Ak (a j:Nat):Bool:=(sv (ap (f2 j))).toList==(sv (ap (f2 a))).toList
def OQ (n0:Nat) (f2:aN) (a:Nat):Int:=IG (aA (aQ (f2 a)) 0 (wI ((n0:Int)-1))) (aA (ca (f2 a)) 1 3) (aA (bW (f2 a)) 1 1000000&&(aA (db (f2 a)) 1 5000000&&(aA (bf (f2 a)) 0 (db (f2 a))&&(aA (bf (ab (f2 a))) 0 1000&&(eb (bf (ab (ab (f2 a)))) (bf (ab (ab (ab (f2 a))))) 0 1000&&(eb (bf (ab (ab (ab (ab (f2 a)))))) (bf (ab (ab (ab (ab (ab (f2 a))))))) 0 1000&&(aA (bf (ab (ab (ab (ab (ab (ab (f2 a)))))))) 1 200000&&(aA (bf (ab (ab (ab (ab (ab (ab (ab (f2 a))))))))) 0 1000&&(aA (bf (ab (ab (ab (ab (ab (ab (ab (ab (f2 a)))))))))) 0 3600))))))))) (HM (ca (f2 a)) (bf (ab (ab (ab (ab (ab (ab (ab (ab (f2 a)))))))))))
def jR (a:Nat):Int:=bif !j6 (sv (ap (f2 a))) then 6 else bif jh a (Ak f2 a) then 5 else OQ n0 f2 a
section
variable {S:Type} {Nx:S->V->Prop} {r:V} {X Y:RT S} {c:Bool}
theorem nn1 (h:(!!c)=true):c=true:=by cases c;cases h;rfl
theorem nn0 (h:(!!c)=false):c=false:=by cases c;rfl;cases h
section
variable (h2:(!!c)=true->aR Nx X r) (h1:(!!c)=false->aR Nx Y r)
include h2 h1
theorem xC:aR Nx (.br (!!c) (.ob (!!c) X) Y) r:=evBr (fun h=>aE h (h2 h)) h1
theorem aly:aR Nx (.br (!!c) (.ob (!!c) (.ob (!!c) X)) Y) r:=evBr (fun h=>aE h (aE h (h2 h))) h1
end
end
theorem S6 (a:Nat) (ha:a<n2) (hn:n2<=9223372036854775807):Ev (tS n0 f0 n2 f2 (a:Int)) (.L0 0) (vi (bif jh a (Ak f2 a) then 5 else OQ n0 f2 a)):=by
 refine iA (n:=a) (by omega) (Ak f2 a) (P:=fun x=>Ev (tS n0 f0 n2 f2 (a:Int)) (.L0 x) _) (fun j hlt hj next=>Ev.of rfl (cr hlt (b7 (by omega) (evBr (fun hb=>evRet ?_) (fun hb=>aK (next hb)))))) (fun hj=>Ev.of rfl (ck ?_))
 ·rw[cn j hlt hb];rfl
 rw [b8 hj,cond_false]
 unfold OQ
 refine evAsm fun _=>aw (evObt (evBr (fun h=>evRet (by rw[show aA (aQ (f2 a)) 0 (wI ((n0:Int)-1))=false from R1 h];rfl)) (fun h=>?_)))
 rw [show aA (aQ (f2 a)) 0 (wI ((n0:Int)-1))=true from yd h]
 refine aw (evObt (evBr (fun h=>evRet (by rw[show aA (ca (f2 a)) 1 3=false from R1 h];rfl)) (fun h=>?_)))
 rw [show aA (ca (f2 a)) 1 3=true from yd h]
 refine aw (evObt ?_)
 repeat refine evObi ?_
 refine xC (fun h=>?_) (fun h=>evRet (by rw[show aA (bW (f2 a)) 1 1000000=false from nn0 h];rfl))
 rw [show aA (bW (f2 a)) 1 1000000=true from nn1 h]
 refine aw (evObt ?_)
 repeat refine evObi ?_
 refine aly (fun h=>?_) (fun h=>evRet (by rw[show aA (db (f2 a)) 1 5000000=false from nn0 h];rfl))
 rw [show aA (db (f2 a)) 1 5000000=true from nn1 h]
 refine aw (evObt ?_)
 repeat refine evObi ?_
 refine xC (fun h=>?_) (fun h=>evRet (by rw[show aA (bf (f2 a)) 0 (db (f2 a))=false from nn0 h];rfl))
 rw [show aA (bf (f2 a)) 0 (db (f2 a))=true from nn1 h]
 refine aw (evObt ?_)
 refine evBr (fun h=>evRet (by rw[show aA (bf (ab (f2 a))) 0 1000=false from R1 h];rfl)) (fun h=>?_)
 rw [show aA (bf (ab (f2 a))) 0 1000=true from yd h]
 refine aw (evObt ?_)
 repeat refine evObi ?_
 refine xC (fun h=>?_) (fun h=>evRet (by rw[show eb (bf (ab (ab (f2 a)))) (bf (ab (ab (ab (f2 a))))) 0 1000=false from nn0 h];rfl))
 rw [show eb (bf (ab (ab (f2 a)))) (bf (ab (ab (ab (f2 a))))) 0 1000=true from nn1 h]
 refine aw (evObt ?_)
 repeat refine evObi ?_
 refine xC (fun h=>?_) (fun h=>evRet (by rw[show eb (bf (ab (ab (ab (ab (f2 a)))))) (bf (ab (ab (ab (ab (ab (f2 a))))))) 0 1000=false from nn0 h];rfl))
 rw [show eb (bf (ab (ab (ab (ab (f2 a)))))) (bf (ab (ab (ab (ab (ab (f2 a))))))) 0 1000=true from nn1 h]
 refine aw (evObt ?_)
 repeat refine evObi ?_
 refine xC (fun h=>?_) (fun h=>evRet (by rw[show aA (bf (ab (ab (ab (ab (ab (ab (f2 a)))))))) 1 200000=false from nn0 h];rfl))
 rw [show aA (bf (ab (ab (ab (ab (ab (ab (f2 a)))))))) 1 200000=true from nn1 h]
 refine aw (evObt ?_)
 repeat refine evObi ?_
 refine xC (fun h=>?_) (fun h=>evRet (by rw[show aA (bf (ab (ab (ab (ab (ab (ab (ab (f2 a))))))))) 0 1000=false from nn0 h];rfl))
 rw [show aA (bf (ab (ab (ab (ab (ab (ab (ab (f2 a))))))))) 0 1000=true from nn1 h]
 refine aw (evObt ?_)
 refine evBr (fun h=>evRet (by rw[show aA (bf (ab (ab (ab (ab (ab (ab (ab (ab (f2 a)))))))))) 0 3600=false from R1 h];rfl)) (fun h=>?_)
 rw [show aA (bf (ab (ab (ab (ab (ab (ab (ab (ab (f2 a)))))))))) 0 3600=true from yd h]
 repeat refine evObi ?_
 exact evBr (fun h=>evRet (by rw[show HM (ca (f2 a)) (bf (ab (ab (ab (ab (ab (ab (ab (ab (f2 a))))))))))=true from h];rfl)) (fun h=>evRet (by rw[show HM (ca (f2 a)) (bf (ab (ab (ab (ab (ab (ab (ab (ab (f2 a))))))))))=false from h];rfl))
theorem Mw (hp:0<=x4/\x4<n2/\n2<=9223372036854775807/\yaa n2 f2):aR (Ev (tS n0 f0 n2 f2 x4)) (Nq n0 f0 n2 f2 x4) (vi (jR n0 f2 x4.toNat)):=by
 obtain ⟨h0,h1,h2,h3⟩:=hp
 obtain ⟨a,rfl⟩:∃ a:Nat,x4=(a:Int):=⟨x4.toNat,by omega⟩
 have ha:a<n2:=by omega
 unfold jR
 simp only [Int.toNat_natCast]
 refine b7 ha (evObp (h3 a ha) (evObt (evBr (fun h=>evRet (by rw[show(!j6 (sv (ap (f2 a))))=true from h];rfl)) (fun h=>aF ?_))))
 rw [show(!j6 (sv (ap (f2 a))))=false from h]
 exact S6 n0 f0 n2 f2 a ha h2
theorem afW (hp:0<=x4/\x4<n2/\n2<=9223372036854775807/\yaa n2 (aa ah f2)):aR (Ev (tS n0 f0 n2 f2 x4)) (Nq n0 f0 n2 f2 x4) (vi (jR n0 (aa ah f2) x4.toNat)):=Mw n0 f0 n2 f2 x4 hp
def OA:aB:=bF [.agg [.sl ak,.sl ah],tI] (fun
 |[.agg [.sl n0 f0,.sl n2 f2],.int _ x4]=>0<=x4/\x4<n2/\n2<=9223372036854775807/\yaa n2 f2
 |_=>False) fun
 |[.agg [.sl n0 f0,.sl n2 f2],.int _ x4]=>vi (jR n0 f2 x4.toNat)
 |_=>.any
theorem Qe:(vP OA).Ok Tryz.prog 145:=bV yf Tryz.func145 (by kernel_rfl) fun ds hp=>iS (U0 ..) (afW _ _ _ _ _ hp)
def AL:bj:=(59,.con Nc)::(144,.con RN)::(145,.con OA)::oa
theorem Qt:aW Tryz.prog eqs its AL:=.con D9 (.con LR (.con Qe (yf)))
inductive oE where
 |L0 (ia0:Int)
 |L1 (ib0 ib1:Int)
def Hg:oE->bz×List O×Option Ex
 |.L0 ia0=>([(5,vi ia0),(1,V.pl 0 0)],[O.cells [V.sl n0 (aa ak f0),V.sl n2 (aa ah f2)] 25],none)
 |.L1 ib0 ib1=>([(7,vi ib0),(5,vi ib1),(1,V.pl 0 0)],[O.cells [V.sl n0 (aa ak f0),V.sl n2 (aa ah f2)] 25],none)
def adG:oE->JJ
 |.L0 ia0=>(0,[])
 |.L1 ib0 ib1=>(1,[])
def Rc:T (bO JJ):=aP JJ AL u0 ahm [V.agg [V.sl n0 (aa ak f0),V.sl n2 (aa ah f2)]]
def uQ (cx:List Cx):Lp JJ:=eR (ej (Rc n0 f0 n2 f2) [false])
def Rz (cx:List Cx):Lp JJ:=eR (ej (vX AL u0 (0,[]) (uQ n0 f0 n2 f2 []) (Hg n0 f0 n2 f2 (.L0 (0:Int)))) [false])
def acj:JJ->Lp JJ
 |(0,cx)=>uQ n0 f0 n2 f2 cx
 |(1,cx)=>Rz n0 f0 n2 f2 cx
 |(_,cx)=>uQ n0 f0 n2 f2 cx
def anb:LD JJ oE:=⟨adG,acj n0 f0 n2 f2,Hg n0 f0 n2 f2⟩
def oY:oE->RT oE
 |.L0 ia0=>.am n0 (.br (decide (ia0<(↑n0:Int))) (.obp ((0:Int)<=ia0/\ia0<(↑n0:Int)/\n0<=(9223372036854775807:Nat)/\yaa n0 f0) (.obt (.br (gf (aa ak f0) ia0.toNat != 0) (.ret (V.tup [vi 1,vi ia0,vi (gf (aa ak f0) ia0.toNat)])) (.next [some (some 0)] (oE.L0 (wI (ia0+1))) [])))) (.enter [some (some 0)] (oE.L1 (0) (ia0)) []))
 |.L1 ib0 ib1=>.am n2 (.br (decide (ib0<(↑n2:Int))) (.obp ((0:Int)<=ib0/\ib0<(↑n2:Int)/\n2<=(9223372036854775807:Nat)/\yaa n2 f2) (.obt (.br (jR n0 (aa ah f2) ib0.toNat != 0) (.ret (V.tup [vi 2,vi ib0,vi (jR n0 (aa ah f2) ib0.toNat)])) (.next [some (some 0)] (oE.L1 (wI (ib0+1)) (ib1)) [])))) (.ret (V.tup [vi 0,vi 0,vi 0])))
def KV:RT oE:=dm (f0,f2) (.am n0 (.ii (.asm ((!decide (10<(↑n0:Int)))=true->n2<=9223372036854775807) (.ii (.br (bif decide (10<(↑n0:Int)) then true else decide (20<(↑n2:Int))) (.ret (V.tup [vi 0,vi 0,vi 3])) (.enter [some (some 0)] (oE.L0 (0)) []))))))
theorem Wx:dD AL u0 (anb n0 f0 n2 f2) (Rc n0 f0 n2 f2) (KV n0 f0 n2 f2) (oY n0 f0 n2 f2):=⟨⟨by kernel_rfl,by kernel_rfl⟩,fun s=>by cases s<;>exact⟨by kernel_rfl,by kernel_rfl⟩⟩
def zL:Int×Int×Int:=wS n2 (jR n0 (aa ah f2)) 2 (0,0,0)
def vR (n0:Nat) (f0:aN) (n2:Nat) (f2:aN):Int×Int×Int:=bif(bif decide (10<(n0:Int)) then true else decide (20<(n2:Int))) then(0,0,3) else wS n0 (gf (aa ak f0)) 1 (zL n0 n2 f2)
theorem Xz (hs:yaa n2 f2) (t:Int):Ev (oY n0 f0 n2 f2) (.L1 0 t) (Ja (zL n0 n2 f2)):=by
 by_cases hn:n2<=9223372036854775807
 ·refine iA (n:=n2) hn (fun i=>jR n0 (aa ah f2) i != 0) (P:=fun i=>Ev (oY n0 f0 n2 f2) (.L1 i t) _) (fun i hlt hj next=>Ev.of rfl (evAsm fun _=>cr hlt (evObp ⟨by omega,by omega,hn,hs⟩ (evObt (evBr (fun hb=>evRet ?_) (fun hb=>aK (next hb))))))) (fun hj=>Ev.of rfl (evAsm fun _=>ck (evRet ?_)))
  ·unfold zL;rw[i6 2 _ hlt hb hj];rfl
  ·unfold zL;rw[jY 2 _ hj];rfl
 ·exact Ev.of rfl (evAsm fun h=>absurd (h rfl) hn)
theorem Vd (h0:yaa n0 f0) (hs:yaa n2 f2):Ev (oY n0 f0 n2 f2) (.L0 0) (Ja (wS n0 (gf (aa ak f0)) 1 (zL n0 n2 f2))):=by
 by_cases hn:n0<=9223372036854775807
 ·refine iA (n:=n0) hn (fun i=>gf (aa ak f0) i != 0) (P:=fun i=>Ev (oY n0 f0 n2 f2) (.L0 i) _) (fun i hlt hj next=>Ev.of rfl (evAsm fun _=>cr hlt (evObp ⟨by omega,by omega,hn,h0⟩ (evObt (evBr (fun hb=>evRet ?_) (fun hb=>aK (next hb))))))) (fun hj=>Ev.of rfl (evAsm fun _=>ck (aF ?_)))
  ·rw[i6 1 _ hlt hb hj];rfl
  ·rw[jY 1 _ hj];exact Xz n0 f0 n2 f2 hs _
 ·exact Ev.of rfl (evAsm fun h=>absurd (h rfl) hn)
def tg:Int:=(vR n0 f0 n2 f2).1
def yam:Int:=(vR n0 f0 n2 f2).2.1
def cg:Int:=(vR n0 f0 n2 f2).2.2
theorem MH (hp:yaa n0 f0/\yaa n2 f2):aR (Ev (oY n0 f0 n2 f2)) (KV n0 f0 n2 f2) (.tup [vi (tg n0 f0 n2 f2),vi (yam n0 f0 n2 f2),vi (cg n0 f0 n2 f2)]):=by
 unfold tg yam cg vR
 refine evAsm fun _=>evObi (evObi (evAsm fun _=>evObi (evObi (evBr (fun h=>evRet (by rw[h];rfl)) (fun h=>aF ?_)))))
 rw [h]
 exact Vd n0 f0 n2 f2 hp.1 hp.2
theorem acr (hp:yaa n0 (aa ak f0)/\yaa n2 (aa ah f2)):aR (Ev (oY n0 f0 n2 f2)) (KV n0 f0 n2 f2) (.tup [vi (tg n0 (aa ak f0) n2 (aa ah f2)),vi (yam n0 (aa ak f0) n2 (aa ah f2)),vi (cg n0 (aa ak f0) n2 (aa ah f2))]):=MH n0 f0 n2 f2 hp
def Q1:aB:=bF [.agg [.sl ak,.sl ah]] (fun
 |[.agg [.sl n0 f0,.sl n2 f2]]=>yaa n0 f0/\yaa n2 f2
 |_=>False) fun
 |[.agg [.sl n0 f0,.sl n2 f2]]=>.tup [vi (tg n0 f0 n2 f2),vi (yam n0 f0 n2 f2),vi (cg n0 f0 n2 f2)]
 |_=>.any
theorem JY:(vP Q1).Ok Tryz.prog 63:=bV Qt Tryz.func63 (by kernel_rfl) fun ds hp=>iS (Wx ..) (acr _ _ _ _ hp)
theorem u7 {n:Nat} {p q:Nat->Bool} (h:∀ i,i<n->p i=q i):cz n p=cz n q:=by
 cases hq:cz n q with
 |true=>exact eu fun i hi=>by rw[h i hi];exact cS hq i hi
 | false =>
   cases hp:cz n p with
   |false=>rfl
   |true=>rw[eu fun i hi=>by rw[← h i hi];exact cS hp i hi]at hq;cases hq
theorem nE (n:Nat) (f:Nat->List V) (lo hi:Int):dF n f lo hi=cz n fun i=>aA (ar (f i)) lo hi:=by
 show (!(decide (0<=zV n fun ii=>pT (ar (f ii)) lo hi)))=_
 rw [nA]
 unfold jh
 rw [Bool.not_not]
 exact u7 fun i _=>by
  show (!(!av (ar (f i)) lo hi))=av (ar (f i)) lo hi
  rw [Bool.not_not]
theorem Dy (a b:Bool):Ji a b=!(a&&b):=by cases a<;>cases b<;>rfl
theorem sc (s:ByteArray) (i:Nat):lg s i=true↔¬ (97<=(s.data.toList.getD i 0).toNat/\(s.data.toList.getD i 0).toNat<=122)/\¬ (48<=(s.data.toList.getD i 0).toNat/\(s.data.toList.getD i 0).toNat<=57)/\(s.data.toList.getD i 0).toNat≠45:=by
 have key:∀ (p1 p2 p4 p5 p6:Bool),(!bif bif bif p1 then p2 else false then true else bif p4 then p5 else false then true else p6)=true↔¬ (p1=true/\p2=true)/\¬ (p4=true/\p5=true)/\¬ (p6=true):=by decide
 unfold lg
 rw [key]
 simp only [decide_eq_true_eq,beq_iff_eq]
 omega
theorem wz (s:ByteArray):wQ s=false↔(1<=s.size/\s.size<=24)/\97<=(s.data.toList.getD 0 0).toNat/\(s.data.toList.getD 0 0).toNat<=122:=by
 have key:∀ (p1 p2 p4 p5:Bool),(bif bif bif p1 then true else p2 then true else p4 then true else p5)=false↔¬ (p1=true)/\¬ (p2=true)/\¬ (p4=true)/\¬ (p5=true):=by decide
 unfold wQ
 rw [key]
 simp only [decide_eq_true_eq]
 omega
theorem HX (s:ByteArray):j6 s=iI s:=by
 rw [Bool.eq_iff_iff]
 unfold j6 iI
 simp only [Bool.and_eq_true,decide_eq_true_eq,xb,Bool.not_eq_true']
 constructor
 ·intro h
  cases hc:wQ s with
  |true=>rw[hc]at h;cases h
  | false =>
    rw [hc,cond_false]at h
    have h1:=(wz s).1 hc
    refine ⟨fun i hi=>?_,by omega,by omega⟩
    have h2:=cS h i hi
    cases hb:xU ((s.data.toList.getD i 0).toNat:Int) (i:Int) with
    |false=>rfl
    | true =>
      obtain ⟨g1,g2⟩:=(mT _ i).1 hb
      rcases g2 with e|⟨g3,g4⟩
      ·subst e;exact(g1 h1.2).elim
      ·rw[(sc s i).2 ⟨g1,g3,g4⟩]at h2;cases h2
 ·rintro ⟨h1,h2,h3⟩
  have h0:=h1 0 h2
  have hl:97<=(s.data.toList.getD 0 0).toNat/\(s.data.toList.getD 0 0).toNat<=122:=by
   apply Classical.byContradiction
   intro hn
   rw [(mT _ 0).2 ⟨hn,.inl rfl⟩]at h0;cases h0
  rw [(wz s).2 ⟨⟨by omega,h3⟩,hl⟩,cond_false]
  refine eu fun i hi=>?_
  cases hb:lg s i with
  |false=>rfl
  | true =>
    obtain ⟨g1,g2,g3⟩:=(sc s i).1 hb
    have:=h1 i hi
    rw [(mT _ i).2 ⟨g1,.inr ⟨g2,g3⟩⟩]at this;cases this
theorem Jr:mt n1 f1 n3 f3 n5 f5 x7 x8=CJ n1 f1 n3 f3 n5 f5 x7 x8:=by
 have e1:∀ n f,dF n f (-5000) 5000=jA n f:=fun n f=>nE n f _ _
 unfold mt CJ
 rw [Dy,Dy,Dy,e1,e1]
 have e2:(jh n5 (sho n3 f5))=jh n5 (qv n3 f5):=rfl
 rw [e2]
 cases he:jh n5 (qv n3 f5) with
 |true=>rfl
 | false =>
   have hrow:∀ i,i<n5->au (ap (f5 i))=n3:=fun i hi=>by
    cases hb:qv n3 f5 i with
    |true=>rw[cn i hi hb]at he;cases he
    |false=>unfold qv at hb;simp at hb;omega
   have e3:jh n5 (wil f5)=!cz n5 (gG n3 f5):=by
    unfold jh
    rw [u7 (q:=gG n3 f5) fun i hi=>by
     show (!(!dF (au (ap (f5 i))) (aa ae fun j=>al ae (aX (ap (f5 i)) j)) 0 10000000))=_
     rw [Bool.not_not,nE,hrow i hi];rfl]
   have e4:VA x7 x8=!ku x7 x8:=by
    show (!dF 2 _ 0 10000000)=_
    rw [nE]
    show (!((true&&aA x7 0 10000000)&&aA x8 0 10000000))=_
    unfold ku
    cases aA x7 0 10000000<;>cases aA x8 0 10000000<;>rfl
   unfold pQ
   rw [e3,e4]
   show (bif _ then _ else bif _ then _ else bif _ then _ else bif _ then _ else _)=(bif _ then _ else bif _ then _ else bif _ then _ else bif _ then _ else _)
   cases ku x7 x8<;>cases cz n5 (gG n3 f5)<;>rfl
theorem af0 (f:Nat->List V) (a:Nat):iO f a=gf f a:=by
 unfold iO gf
 rw [HX,show zi f a=Bp f a from funext fun j=>by unfold zi Bp;rw[Nat.zero_add]]
 unfold zA
 rw [Jr]
 rfl
theorem wN:eS x7 x8 0 1000=eb x7 x8 0 1000:=by
 unfold eS eb aA
 by_cases h1:(0:Int)<=x7<;>by_cases h2:x7<=x8<;>by_cases h3:x8<=1000<;>by_cases h4:x7<=1000<;>by_cases h5:(0:Int)<=x8<;>simp only[h1,h2,h3,h4,h5,decide_true,decide_false,cond_true,cond_false]<;>omega
theorem ae0 {a k num q q':Bool} (h:num=true->q=q'):IG a k num q=IG a k num q':=by
 cases num with
 |false=>rfl
 |true=>rw[h rfl]
theorem agM (f:Nat->List V) (n a:Nat):iL f n a=jR n f a:=by
 unfold iL jR
 rw [HX,show yx f a=Ak f a from funext fun j=>by unfold yx Ak;rw[Nat.zero_add]]
 unfold y8 pE OQ
 rw [wN,wN]
 congr 2
 refine ae0 fun h=>?_
 simp only [Bool.and_eq_true]at h
 have h13:=h.2.2.2.2.2.2.2.2
 unfold Sm HM
 unfold av at h13
 generalize bf (ab (ab (ab (ab (ab (ab (ab (ab (f a)))))))))=x at h13 ⊢
 have hx:0<=x:=by
  by_cases h0:(0:Int)<=x
  ·exact h0
  ·rw[gx h0]at h13;cases h13
 congr 1
 by_cases e:x=0
 ·subst e;rfl
 ·rw[dqt (by omega)];simp[e]
theorem nu:(lA n0 f0 n2 f2,lc n0 f0 n2 f2,bI n0 f0 n2 f2)=vR n0 f0 n2 f2:=by
 have e1:∀ f,iO f=gf f:=fun f=>funext fun a=>af0 f a
 have e2:∀ f n,iL f n=jR n f:=fun f n=>funext fun a=>agM f n a
 unfold lA lc bI vR zL wS eT dU eQ dR
 rw [e1,e2]
 cases (bif decide (10<(n0:Int)) then true else decide (20<(n2:Int))) with
 |true=>rfl
 | false =>
   simp only [cond_false]
   generalize dw n0 _=x
   generalize eZ n0 _=y
   generalize dw n2 _=z
   generalize eZ n2 _=u
   cases x != 0<;>cases z != 0<;>rfl
def gA:bj:=(63,.con Q1)::AL
theorem iy:aW Tryz.prog eqs its gA:=.con JY (Qt)
def YZ:RT Empty:=.ret (vi (wI (wI (x2*x0)+wI (x3*x1))))
theorem Uj:cJ cL (aP JJ gA u0 Ot [V.agg [vi x0,vi x1],vi x2,vi x3]) (YZ x0 x1 x2 x3):=⟨by kernel_rfl,by kernel_rfl⟩
def aM:Int:=wI (wI (x2*x0)+wI (x3*x1))
def O5:V:=vi (aM x0 x1 x2 x3)
theorem afK:aR cq (YZ x0 x1 x2 x3) (O5 x0 x1 x2 x3):=evRet (by unfold O5 aM;rfl)
def MX:aB:=bF [.agg bZ,tI,tI] (fun _=>True) fun
 |[.agg [.int _ x0,.int _ x1],.int _ x2,.int _ x3]=>O5 x0 x1 x2 x3
 |_=>.any
theorem Le:(vP MX).Ok Tryz.prog 154:=bV iy Tryz.func154 (by kernel_rfl) fun ds hp=>cQ (Uj ..) (afK _ _ _ _)
def Zb:RT Empty:=.ret (vi (wI (wI (x2*x1)-wI (x3*x0))))
theorem T8:cJ cL (aP JJ gA u0 Jv [V.agg [vi x0,vi x1],vi x2,vi x3]) (Zb x0 x1 x2 x3):=⟨by kernel_rfl,by kernel_rfl⟩
def aL:Int:=wI (wI (x2*x1)-wI (x3*x0))
def JP:V:=vi (aL x0 x1 x2 x3)
theorem af5:aR cq (Zb x0 x1 x2 x3) (JP x0 x1 x2 x3):=evRet (by unfold JP aL;rfl)
def JD:aB:=bF [.agg bZ,tI,tI] (fun _=>True) fun
 |[.agg [.int _ x0,.int _ x1],.int _ x2,.int _ x3]=>JP x0 x1 x2 x3
 |_=>.any
theorem Nn:(vP JD).Ok Tryz.prog 155:=bV iy Tryz.func155 (by kernel_rfl) fun ds hp=>cQ (T8 ..) (af5 _ _ _ _)
def aaN:RT Empty:=.ret (vi (wI (wI (x0*x0)+wI (x1*x1))))
theorem Xj:cJ cL (aP JJ gA u0 PU [V.agg [vi x0,vi x1]]) (aaN x0 x1):=⟨by kernel_rfl,by kernel_rfl⟩
def bL:Int:=wI (wI (x0*x0)+wI (x1*x1))
def NY:V:=vi (bL x0 x1)
theorem agh:aR cq (aaN x0 x1) (NY x0 x1):=evRet (by unfold NY bL;rfl)
def Ob:aB:=bF [.agg bZ] (fun _=>True) fun
 |[.agg [.int _ x0,.int _ x1]]=>NY x0 x1
 |_=>.any
theorem O1:(vP Ob).Ok Tryz.prog 156:=bV iy Tryz.func156 (by kernel_rfl) fun ds hp=>cQ (Xj ..) (agh _ _)
def Zi:RT Empty:=.ret (vi (min (max x0 (-200000)) 200000))
theorem Su:cJ cL (aP JJ gA u0 JB [vi x0]) (Zi x0):=⟨by kernel_rfl,by kernel_rfl⟩
def bR:Int:=min (max x0 (-200000)) 200000
def MK:V:=vi (bR x0)
theorem acu:aR cq (Zi x0) (MK x0):=evRet (by unfold MK bR;rfl)
def RI:aB:=bF ae (fun _=>True) fun
 |[.int _ x0]=>MK x0
 |_=>.any
theorem OM:(vP RI).Ok Tryz.prog 193:=bV iy Tryz.func193 (by kernel_rfl) fun ds hp=>cQ (Su ..) (acu _)
def Zs:RT Empty:=.ret (vi (max (-200000) (min x0 200000)))
theorem Ti:cJ cL (aP JJ gA u0 aiM [vi x0]) (Zs x0):=⟨by kernel_rfl,by kernel_rfl⟩
def d7:Int:=max (-200000) (min x0 200000)
def Rr:V:=vi (d7 x0)
theorem agu:aR cq (Zs x0) (Rr x0):=evRet (by unfold Rr d7;rfl)
def JE:aB:=bF ae (fun _=>True) fun
 |[.int _ x0]=>Rr x0
 |_=>.any
theorem J8:(vP JE).Ok Tryz.prog 256:=bV iy Tryz.func256 (by kernel_rfl) fun ds hp=>cQ (Ti ..) (agu _)
def YT:RT Empty:=.cb (.br (ge 0 x0 x1) (.ret (V.tup [vi 0,vi (max (wI (x0*x0)) (wI (x1*x1)))])) (.ret (V.tup [vi (min (wI (x0*x0)) (wI (x1*x1))),vi (max (wI (x0*x0)) (wI (x1*x1)))])))
theorem W3:cJ cL (aP JJ gA u0 PH [vi x0,vi x1]) (YT x0 x1):=⟨by kernel_rfl,by kernel_rfl⟩
def kV:Int:=bif ge 0 x0 x1 then 0 else min (wI (x0*x0)) (wI (x1*x1))
def lJ:Int:=max (wI (x0*x0)) (wI (x1*x1))
def HA:V:=.tup [vi (kV x0 x1),vi (lJ x0 x1)]
theorem abE:aR cq (YT x0 x1) (HA x0 x1):=aw (evObt (evBr (fun h0=>evRet (by unfold HA kV lJ;try rw[h0];rfl)) (fun h0=>evRet (by unfold HA kV lJ;try rw[h0];rfl))))
def PS:aB:=bF bZ (fun _=>True) fun
 |[.int _ x0,.int _ x1]=>HA x0 x1
 |_=>.any
theorem Ql:(vP PS).Ok Tryz.prog 159:=bV iy Tryz.func159 (by kernel_rfl) fun ds hp=>cQ (W3 ..) (abE _ _)
def aab:RT Empty:=.ii (.br (bif decide (x0<=0) then decide (0<=x1) else false) (.ret (V.tup [vi 0,vi (max (wI (x0*x0)) (wI (x1*x1)))])) (.ret (V.tup [vi (min (wI (x0*x0)) (wI (x1*x1))),vi (max (wI (x0*x0)) (wI (x1*x1)))])))
theorem Sc:cJ cL (aP JJ gA u0 aca [vi x0,vi x1]) (aab x0 x1):=⟨by kernel_rfl,by kernel_rfl⟩
def nB:Int:=bif bif decide (x0<=0) then decide (0<=x1) else false then 0 else min (wI (x0*x0)) (wI (x1*x1))
def yD:Int:=max (wI (x0*x0)) (wI (x1*x1))
def Gx:V:=.tup [vi (nB x0 x1),vi (yD x0 x1)]
theorem aiB:aR cq (aab x0 x1) (Gx x0 x1):=evObi (evObi (evBr (fun h0=>evRet (by unfold Gx nB yD;try rw[h0];rfl)) (fun h0=>evRet (by unfold Gx nB yD;try rw[h0];rfl))))
def Mf:aB:=bF bZ (fun _=>True) fun
 |[.int _ x0,.int _ x1]=>Gx x0 x1
 |_=>.any
theorem Ng:(vP Mf).Ok Tryz.prog 118:=bV iy Tryz.func118 (by kernel_rfl) fun ds hp=>cQ (Sc ..) (aiB _ _)
inductive r6 where
 |L0 (ia0 ia1:Int)
def VH:r6->bz×List O×Option Ex
 |.L0 ia0 ia1=>([(4,vi ia0),(3,vi ia1),(0,V.sl n0 (aa ae f0))],[],none)
def aew:r6->JJ
 |.L0 ia0 ia1=>(0,[])
def PK:T (bO JJ):=aP JJ gA u0 acG [V.sl n0 (aa ae f0)]
def AK (cx:List Cx):Lp JJ:=eR (ej (PK n0 f0) [false])
def aeC:JJ->Lp JJ
 |(0,cx)=>AK n0 f0 cx
 |(_,cx)=>AK n0 f0 cx
def anD:LD JJ r6:=⟨aew,aeC n0 f0,VH n0 f0⟩
def zQ:r6->RT r6
 |.L0 ia0 ia1=>.am n0 (.br (decide (ia0<(↑n0:Int))) (.ob (dI ia0 n0) (.next [] (r6.L0 (wI (ia0+1)) (max ia1 (ar (f0 ia0.toNat)))) [])) (.ret (vi ia1)))
def Nz:RT r6:=.am n0 (.br (decide ((↑n0:Int)<1)) (.fail) (.ob (decide ((0:Int)<=0/\0<(↑n0:Int))) (.enter [] (r6.L0 (1) (ar (f0 0))) [])))
theorem Se:dD gA u0 (anD n0 f0) (PK n0 f0) (Nz n0 f0) (zQ n0 f0):=⟨⟨by kernel_rfl,by kernel_rfl⟩,fun s=>by cases s<;>exact⟨by kernel_rfl,by kernel_rfl⟩⟩
def yc (p:Nat->Int) (z:Int):Nat->Int
 |0=>z
 |k+1=>max (yc p z k) (p k)
def eI:Int:=yc (fun i=>ar (f0 i)) (ar (f0 0)) n0
theorem QD (hp:1<=n0):aR (Ev (zQ n0 f0)) (Nz n0 f0) (vi (eI n0 f0)):=by
 refine bg fun hn=>ed (gx (by omega)) (aE (dqt (by omega)) (aF ?_))
 have key:=cO (n:=n0) (P:=fun i=>1<=i->Ev (zQ n0 f0) (.L0 i (yc (fun i=>ar (f0 i)) (ar (f0 0)) i)) (vi (eI n0 f0))) fun i hi ih h1=>by
  refine Ev.of rfl (evAsm fun _=>evBr (fun h=>?_) (fun h=>evRet ?_))
  ·have hlt:i<n0:=by have:=of_decide_eq_true h;omega
   refine b7 hlt (aK ?_)
   rw [j7 hlt hn]
   exact ih hlt (by omega)
  ·have:i=n0:=by have:=of_decide_eq_false h;omega
   subst this;rfl
 have:=key 1 hp (Nat.le_refl _)
 rwa [show yc (fun i=>ar (f0 i)) (ar (f0 0)) 1=ar (f0 0) from Int.max_self _]at this
theorem aeo (hp:1<=n0):aR (Ev (zQ n0 f0)) (Nz n0 f0) (vi (eI n0 (aa ae f0))):=QD n0 f0 hp
def M6:aB:=bF [.sl ae] (fun
 |[.sl n0 f0]=>1<=n0
 |_=>False) fun
 |[.sl n0 f0]=>vi (eI n0 f0)
 |_=>.any
theorem CQ:(vP M6).Ok Tryz.prog 143:=bV iy Tryz.func143 (by kernel_rfl) fun ds hp=>iS (Se ..) (aeo _ _ hp)
inductive nU where
 |L0 (ia0 ia1:Int)
 |L1 (ib0 ib1 ib2:Int)
def H9:nU->bz×List O×Option Ex
 |.L0 ia0 ia1=>([(4,vi ia0),(3,vi ia1),(1,V.pl 0 0)],[O.cells [V.str s0,V.sl n1 (aa ae f1),V.sl n3 (aa ae f3),V.sl n5 (aa [Ty.sl ae] f5),vi x7,vi x8] 126],none)
 |.L1 ib0 ib1 ib2=>([(5,vi ib0),(4,vi ib1),(3,vi ib2),(1,V.pl 0 0)],[O.cells [V.str s0,V.sl n1 (aa ae f1),V.sl n3 (aa ae f3),V.sl n5 (aa [Ty.sl ae] f5),vi x7,vi x8] 126],none)
def afY:nU->JJ
 |.L0 ia0 ia1=>(0,[])
 |.L1 ib0 ib1 ib2=>(1,[])
def RB:T (bO JJ):=aP JJ gA u0 ads [V.agg [V.str s0,V.sl n1 (aa ae f1),V.sl n3 (aa ae f3),V.sl n5 (aa [Ty.sl ae] f5),vi x7,vi x8]]
def tE (cx:List Cx):Lp JJ:=eR (ej (RB s0 n1 f1 n3 f3 n5 f5 x7 x8) [])
def Ly (cx:List Cx):Lp JJ:=eR (ej (vX gA u0 (0,[]) (tE s0 n1 f1 n3 f3 n5 f5 x7 x8 []) (H9 s0 n1 f1 n3 f3 n5 f5 x7 x8 (.L0 (0:Int) (0:Int)))) [true])
def ag9:JJ->Lp JJ
 |(0,cx)=>tE s0 n1 f1 n3 f3 n5 f5 x7 x8 cx
 |(1,cx)=>Ly s0 n1 f1 n3 f3 n5 f5 x7 x8 cx
 |(_,cx)=>tE s0 n1 f1 n3 f3 n5 f5 x7 x8 cx
def ann:LD JJ nU:=⟨afY,ag9 s0 n1 f1 n3 f3 n5 f5 x7 x8,H9 s0 n1 f1 n3 f3 n5 f5 x7 x8⟩
def oN (s0:ByteArray) (n1:Nat) (f1:aN) (n3:Nat) (f3:aN) (n5:Nat) (f5:aN) (x7 x8:Int):nU->RT nU
 |.L0 ia0 ia1=>.am n5 (.br (decide (ia0<(↑n5:Int))) (.enter [some (some 0)] (nU.L1 (0) (ia0) (ia1)) []) (.ret (vi ia1)))
 |.L1 ib0 ib1 ib2=>.ob (dI ib1 n5) (.asm (true=true->au (ap (f5 ib1.toNat))<=9223372036854775807) (.br (decide (ib0<(↑(au (ap (f5 ib1.toNat))):Int))) (.ob (dI ib1 n5) (.ob (decide (0<=ib0/\ib0<(↑(au (ap (f5 ib1.toNat))):Int))) (.next [some (some 0)] (nU.L1 (wI (ib0+1)) (ib1) (max ib2 (ar (aX (ap (f5 ib1.toNat)) ib0.toNat)))) []))) (.next [some (some 0)] (nU.L0 (wI (ib1+1)) (ib2)) [])))
def L9:RT nU:=dm (s0,n1,f1,n3,f3,n5,f5,x8) (.enter [some (some 0)] (nU.L0 (0) (x7)) [])
theorem Tu:dD gA u0 (ann s0 n1 f1 n3 f3 n5 f5 x7 x8) (RB s0 n1 f1 n3 f3 n5 f5 x7 x8) (L9 s0 n1 f1 n3 f3 n5 f5 x7 x8) (oN s0 n1 f1 n3 f3 n5 f5 x7 x8):=⟨⟨by kernel_rfl,by kernel_rfl⟩,fun s=>by cases s<;>exact⟨by kernel_rfl,by kernel_rfl⟩⟩
def grL (l:Nat->Nat) (v:Nat->Nat->Int) (z:Int):Nat->Int
 |0=>z
 |k+1=>yc (v k) (grL l v z k) (l k)
abbrev grR (z:Int) (k:Nat):Int:=grL (fun i=>au (ap (f5 i))) (fun i j=>ar (aX (ap (f5 i)) j)) z k
def ma:Int:=grR f5 x7 n5
theorem V8 (hn:n5<=9223372036854775807) (i:Nat) (hi:i<n5) (r:V) (hx:Ev (oN s0 n1 f1 n3 f3 n5 f5 x7 x8) (.L0 (wI ((i:Int)+1)) (grR f5 x7 (i+1))) r):Ev (oN s0 n1 f1 n3 f3 n5 f5 x7 x8) (.L1 0 i (grR f5 x7 i)) r:=by
 by_cases h5:au (ap (f5 i))<=9223372036854775807
 ·refine Bv h5 (P:=fun x=>Ev (oN s0 n1 f1 n3 f3 n5 f5 x7 x8) (.L1 x i (yc (fun j=>ar (aX (ap (f5 i)) j)) (grR f5 x7 i) x.toNat)) r) (fun j hlt nx=>?_) (Ev.of rfl (b7 hi (evAsm fun _=>ck (aK ?_))))
  ·rw[show(wI ((j:Int)+1)).toNat=j+1 by rw[j7 hlt h5];rfl]at nx
   exact Ev.of rfl (b7 hi (evAsm fun _=>cr hlt (b7 hi (b7 hlt (aK nx)))))
  ·exact hx
 ·exact Ev.of rfl (b7 hi (evAsm fun h=>absurd (h rfl) h5))
theorem Po:aR (Ev (oN s0 n1 f1 n3 f3 n5 f5 x7 x8)) (L9 s0 n1 f1 n3 f3 n5 f5 x7 x8) (vi (ma n5 f5 x7)):=by
 refine aF ?_
 by_cases hn:n5<=9223372036854775807
 ·refine Bv hn (P:=fun x=>Ev (oN s0 n1 f1 n3 f3 n5 f5 x7 x8) (.L0 x (grR f5 x7 x.toNat)) (vi (ma n5 f5 x7))) (fun i hlt nx=>?_) (Ev.of rfl (evAsm fun _=>ck (evRet rfl)))
  rw [show(wI ((i:Int)+1)).toNat=i+1 by rw[j7 hlt hn];rfl]at nx
  exact Ev.of rfl (evAsm fun _=>cr hlt (aF (V8 s0 n1 f1 n3 f3 n5 f5 x7 x8 hn i hlt _ nx)))
 ·exact Ev.of rfl (evAsm fun h=>absurd (h rfl) hn)
theorem adT:aR (Ev (oN s0 n1 f1 n3 f3 n5 f5 x7 x8)) (L9 s0 n1 f1 n3 f3 n5 f5 x7 x8) (vi (ma n5 (aa [.sl ae] f5) x7)):=Po s0 n1 f1 n3 f3 n5 f5 x7 x8
def KN:aB:=bF [.agg ak] (fun _=>True) fun
 |[.agg [.str s0,.sl n1 f1,.sl n3 f3,.sl n5 f5,.int _ x7,.int _ x8]]=>vi (ma n5 f5 x7)
 |_=>.any
theorem Lv:(vP KN).Ok Tryz.prog 66:=bV iy Tryz.func66 (by kernel_rfl) fun ds hp=>iS (Tu ..) (adT _ _ _ _ _ _ _ _ _)
inductive pR where
 |L0 (ia0 ia1:Int)
def VJ:pR->bz×List O×Option Ex
 |.L0 ia0 ia1=>([(4,vi ia0),(3,vi ia1),(0,vi x0)],[],none)
def ahy:pR->JJ
 |.L0 ia0 ia1=>(0,[])
def MU:T (bO JJ):=aP JJ gA u0 Jo [vi x0]
def Bw (cx:List Cx):Lp JJ:=eR (ej (MU x0) [])
def afI:JJ->Lp JJ
 |(0,cx)=>Bw x0 cx
 |(_,cx)=>Bw x0 cx
def ank:LD JJ pR:=⟨ahy,afI x0,VJ x0⟩
def y5:pR->RT pR
 |.L0 ia0 ia1=>.br (decide (0<ia0)) (.br (decide (wI (wI (ia1+ia0)*wI (ia1+ia0))<=x0)) (.obt (.next [] (pR.L0 (wI (ia0.tdiv 2)) (wI (ia1+ia0))) [])) (.obt (.next [] (pR.L0 (wI (ia0.tdiv 2)) (ia1)) []))) (.ret (vi ia1))
def YG:RT pR:=dm x0 (.enter [] (pR.L0 (1073741824) (0)) [])
theorem W4:dD gA u0 (ank x0) (MU x0) (YG x0) (y5 x0):=⟨⟨by kernel_rfl,by kernel_rfl⟩,fun s=>by cases s<;>exact⟨by kernel_rfl,by kernel_rfl⟩⟩
def eJ:Nat->Nat
 |0=>0
 |n+1=>bif Nat.ble ((eJ n+1)*(eJ n+1)) (n+1) then eJ n+1 else eJ n
theorem nL:∀ n,eJ n*eJ n<=n/\n<(eJ n+1)*(eJ n+1)
 |0=>⟨Nat.le_refl _,by decide⟩
 | n + 1=>by
   obtain ⟨h1,h2⟩:=nL n
   unfold eJ
   cases hb:Nat.ble ((eJ n+1)*(eJ n+1)) (n+1) with
   | true =>
     have:=Nat.le_of_ble_eq_true hb
     refine ⟨this,?_⟩
     have e:(eJ n+1+1)*(eJ n+1+1)=(eJ n+1)*(eJ n+1)+2*(eJ n+1)+1:=by grind
     show n+1<(eJ n+1+1)*(eJ n+1+1)
     omega
   | false =>
     have h3:¬ (eJ n+1)*(eJ n+1)<=n+1:=fun h=>by rw[Nat.ble_eq_true_of_le h]at hb;cases hb
     exact ⟨by show eJ n*eJ n<=n+1;omega,by show n+1<(eJ n+1)*(eJ n+1);omega⟩
theorem F6 {n r:Nat} (h1:r*r<=n) (h2:n<(r+1)*(r+1)):eJ n=r:=by
 obtain ⟨g1,g2⟩:=nL n
 have a:¬ eJ n<r:=fun h=>by have:=Nat.mul_le_mul (show eJ n+1<=r from h) (show eJ n+1<=r from h);omega
 have c:¬ r<eJ n:=fun h=>by have:=Nat.mul_le_mul (show r+1<=eJ n from h) (show r+1<=eJ n from h);omega
 omega
def isq (x:Int):Int:=(eJ x.toNat:Int)
def jP:Nat:=(min x0 4611686018427387903).toNat
def dO:Int:=(eJ (jP x0):Int)
theorem YL {x:Int} {m:Nat} (h1:1<=m) (hm:m<=2147483647):decide (wI (wI (m:Int)*wI (m:Int))<=x)=decide (m*m<=jP x):=by
 have b:m*m<=2147483647*2147483647:=Nat.mul_le_mul hm hm
 have b1:1<=m*m:=Nat.mul_le_mul h1 h1
 rw [wrapI (x:=(m:Int)) (by omega) (by omega),show(m:Int)*(m:Int)=((m*m:Nat):Int) from(Int.natCast_mul m m).symm]
 generalize m*m=q at *
 rw [wrapI (by omega) (by omega)]
 unfold jP
 exact decide_eq_decide.2 (by omega)
theorem ake:∀ k:Nat,k<=30->∀ r:Nat,r*r<=jP x0->jP x0<(r+2 ^ (k+1))*(r+2 ^ (k+1))->r+2 ^ (k+1)<=2147483648->Ev (y5 x0) (.L0 ((2 ^ k:Nat):Int) (r:Int)) (vi (dO x0)):=by
 intro k
 induction k with
 | zero =>
   intro _ r h1 h2 h3
   have h3':r+2<=2147483648:=h3
   have h2':jP x0<(r+2)*(r+2):=h2
   have fin:∀ q:Nat,q*q<=jP x0->jP x0<(q+1)*(q+1)->Ev (y5 x0) (.L0 (wI (((1:Nat):Int).tdiv 2)) (q:Int)) (vi (dO x0)):=fun q g1 g2 =>
    Ev.of rfl (ed rfl (evRet (by unfold dO;rw[F6 g1 g2])))
   have hs:=YL (x:=x0) (m:=r+1) (by omega) (by omega)
   have e1:(r:Int)+((1:Nat):Int)=((r+1:Nat):Int):=by omega
   refine Ev.of rfl (eG (by decide) (evBr (fun h=>evObt (aK ?_)) (fun h=>evObt (aK ?_))))
   ·have h':decide ((r+1)*(r+1)<=jP x0)=true:=by rw[← hs,← e1];exact h
    have:=fin (r+1) (of_decide_eq_true h') h2'
    rw [show wI ((r:Int)+((2 ^ 0:Nat):Int))=((r+1:Nat):Int) from by rw[wrapI (by omega) (by omega)];rfl]
    exact this
   ·have h':decide ((r+1)*(r+1)<=jP x0)=false:=by rw[← hs,← e1];exact h
    exact fin r h1 (Nat.lt_of_not_le (of_decide_eq_false h'))
 | succ k ih =>
   intro hk r h1 h2 h3
   have p1:2 ^ (k+1+1)=2*2 ^ (k+1):=by rw[Nat.pow_succ];omega
   have p0:1<=2 ^ (k+1):=Nat.one_le_two_pow
   have p2:2 ^ (k+1)=2*2 ^ k:=by rw[Nat.pow_succ];omega
   have hs:=YL (x:=x0) (m:=r+2 ^ (k+1)) (by omega) (by omega)
   have e1:(r:Int)+((2 ^ (k+1):Nat):Int)=((r+2 ^ (k+1):Nat):Int):=by omega
   have e2:wI (((2 ^ (k+1):Nat):Int).tdiv 2)=((2 ^ k:Nat):Int):=by
    rw [p2,show((2*2 ^ k:Nat):Int).tdiv 2=((2 ^ k:Nat):Int) by rw[Int.tdiv_eq_ediv_of_nonneg (by omega)];omega]
    exact wrapI (by omega) (by omega)
   have e3:wI ((r:Int)+((2 ^ (k+1):Nat):Int))=((r+2 ^ (k+1):Nat):Int):=by rw[wrapI (by omega) (by omega)];exact e1
   refine Ev.of rfl (eG (dqt (by omega)) (evBr (fun h=>evObt (aK ?_)) (fun h=>evObt (aK ?_))))
   ·have h':decide ((r+2 ^ (k+1))*(r+2 ^ (k+1))<=jP x0)=true:=by rw[← hs,← e1];exact h
    rw [e2,e3]
    exact ih (by omega) (r+2 ^ (k+1)) (of_decide_eq_true h') (by rw[show r+2 ^ (k+1)+2 ^ (k+1)=r+2 ^ (k+1+1) by omega];exact h2) (by omega)
   ·have h':decide ((r+2 ^ (k+1))*(r+2 ^ (k+1))<=jP x0)=false:=by rw[← hs,← e1];exact h
    rw [e2]
    exact ih (by omega) r h1 (Nat.lt_of_not_le (of_decide_eq_false h')) (by omega)
theorem adI:aR (Ev (y5 x0)) (YG x0) (vi (dO x0)):=aF (ake x0 30 (Nat.le_refl _) 0 (Nat.zero_le _) (by unfold jP;show _<4611686018427387904;omega) (by decide))
def P0:aB:=bF ae (fun _=>True) fun
 |[.int _ x0]=>vi (dO x0)
 |_=>.any
theorem RH:(vP P0).Ok Tryz.prog 115:=bV iy Tryz.func115 (by kernel_rfl) fun ds hp=>iS (W4 ..) (adI _)
inductive qH where
 |L0 (ia0 ia1:Int)
def U8:qH->bz×List O×Option Ex
 |.L0 ia0 ia1=>([(4,vi ia0),(3,vi ia1),(0,vi x0)],[],none)
def aie:qH->JJ
 |.L0 ia0 ia1=>(0,[])
def PR:T (bO JJ):=aP JJ gA u0 ab5 [vi x0]
def Ay (cx:List Cx):Lp JJ:=eR (ej (PR x0) [])
def ais:JJ->Lp JJ
 |(0,cx)=>Ay x0 cx
 |(_,cx)=>Ay x0 cx
def am1:LD JJ qH:=⟨aie,ais x0,U8 x0⟩
def yaA:qH->RT qH
 |.L0 ia0 ia1=>.br (decide (1<wI (ia0-ia1))) (.obt (.br (decide (wI (wI ((wI (ia1+ia0)).tdiv 2)*wI ((wI (ia1+ia0)).tdiv 2))<=x0)) (.next [] (qH.L0 (ia0) (wI ((wI (ia1+ia0)).tdiv 2))) []) (.next [] (qH.L0 (wI ((wI (ia1+ia0)).tdiv 2)) (ia1)) []))) (.ret (vi ia1))
def X0:RT qH:=dm x0 (.enter [] (qH.L0 (2000000000) (0)) [])
theorem Wg:dD gA u0 (am1 x0) (PR x0) (X0 x0) (yaA x0):=⟨⟨by kernel_rfl,by kernel_rfl⟩,fun s=>by cases s<;>exact⟨by kernel_rfl,by kernel_rfl⟩⟩
def l9:Nat:=(min x0 3999999999999999999).toNat
def dA:Int:=(eJ (l9 x0):Int)
theorem ybc {x:Int} {m:Nat} (h1:1<=m) (hm:m<2000000000):decide (wI ((m:Int)*(m:Int))<=x)=decide (m*m<=l9 x):=by
 have b:m*m<=1999999999*1999999999:=Nat.mul_le_mul (by omega) (by omega)
 have b1:1<=m*m:=Nat.mul_le_mul h1 h1
 rw [show(m:Int)*(m:Int)=((m*m:Nat):Int) from(Int.natCast_mul m m).symm]
 generalize m*m=q at *
 rw [wrapI (by omega) (by omega)]
 unfold l9
 exact decide_eq_decide.2 (by omega)
theorem al7:∀ d lo hi:Nat,hi-lo<=d->lo<hi->hi<=2000000000->lo*lo<=l9 x0->l9 x0<hi*hi->Ev (yaA x0) (.L0 (hi:Int) (lo:Int)) (vi (dA x0)):=by
 intro d
 induction d with
 |zero=>intro lo hi h1 h2;omega
 | succ d ih =>
   intro lo hi h1 h2 h3 h4 h5
   refine Ev.of rfl (evBr (fun h=>evObt ?_) (fun h=>evRet ?_))
   ·have hd:1<hi-lo:=by have:=of_decide_eq_true h;rw[wrapI (by omega) (by omega)]at this;omega
    have em:wI ((wI ((lo:Int)+(hi:Int))).tdiv 2)=(((lo+hi) / 2:Nat):Int):=by
     rw [wrapI (x:=(lo:Int)+(hi:Int)) (by omega) (by omega),Int.tdiv_eq_ediv_of_nonneg (by omega),wrapI (by omega) (by omega)];omega
    rw [em]
    have hs:=ybc (x:=x0) (m:=(lo+hi) / 2) (by omega) (by omega)
    refine evBr (fun h=>aK ?_) (fun h=>aK ?_)
    ·rw[hs]at h;exact ih _ _ (by omega) (by omega) h3 (of_decide_eq_true h) h5
    ·rw[hs]at h;exact ih _ _ (by omega) (by omega) (by omega) h4 (Nat.lt_of_not_le (of_decide_eq_false h))
   ·have hd:hi=lo+1:=by have:=of_decide_eq_false h;rw[wrapI (by omega) (by omega)]at this;omega
    subst hd
    unfold dA;rw[F6 h4 h5]
theorem abG:aR (Ev (yaA x0)) (X0 x0) (vi (dA x0)):=aF (al7 x0 2000000000 0 2000000000 (by omega) (by omega) (Nat.le_refl _) (Nat.zero_le _) (by unfold l9;show _<4000000000000000000;omega))
def LZ:aB:=bF ae (fun _=>True) fun
 |[.int _ x0]=>vi (dA x0)
 |_=>.any
theorem Ox:(vP LZ).Ok Tryz.prog 122:=bV iy Tryz.func122 (by kernel_rfl) fun ds hp=>iS (Wg ..) (abG _)
def se:bj:=(154,.con MX)::(155,.con JD)::(156,.con Ob)::(193,.con RI)::(256,.con JE)::(159,.con PS)::(118,.con Mf)::(143,.con M6)::(66,.con KN)::(115,.con P0)::(122,.con LZ)::gA
theorem vm:aW Tryz.prog eqs its se:=.con Le (.con Nn (.con O1 (.con OM (.con J8 (.con Ql (.con Ng (.con CQ (.con Lv (.con RH (.con Ox (iy)))))))))))
def Zg:RT Empty:=.cb (.br (decide (wI (dO x0*dO x0)<x0)) (.ret (vi (wI (dO x0+1)))) (.ret (vi (dO x0))))
theorem Ux:cJ cL (aP JJ se u0 M5 [vi x0]) (Zg x0):=⟨by kernel_rfl,by kernel_rfl⟩
def c9:Int:=bif decide (wI (dO x0*dO x0)<x0) then wI (dO x0+1) else dO x0
def G6:V:=vi (c9 x0)
theorem abk:aR cq (Zg x0) (G6 x0):=aw (evObt (evBr (fun h0=>evRet (by unfold G6 c9;try rw[h0];rfl)) (fun h0=>evRet (by unfold G6 c9;try rw[h0];rfl))))
def Qd:aB:=bF ae (fun _=>True) fun
 |[.int _ x0]=>G6 x0
 |_=>.any
theorem Mp:(vP Qd).Ok Tryz.prog 114:=bV vm Tryz.func114 (by kernel_rfl) fun ds hp=>cQ (Ux ..) (abk _)
def aax:RT Empty:=.cb (.br (decide (wI (dA x0*dA x0)<x0)) (.ret (vi (wI (dA x0+1)))) (.ret (vi (dA x0))))
theorem WG:cJ cL (aP JJ se u0 acY [vi x0]) (aax x0):=⟨by kernel_rfl,by kernel_rfl⟩
def cW:Int:=bif decide (wI (dA x0*dA x0)<x0) then wI (dA x0+1) else dA x0
def Gy:V:=vi (cW x0)
theorem abS:aR cq (aax x0) (Gy x0):=aw (evObt (evBr (fun h0=>evRet (by unfold Gy cW;try rw[h0];rfl)) (fun h0=>evRet (by unfold Gy cW;try rw[h0];rfl))))
def Kv:aB:=bF ae (fun _=>True) fun
 |[.int _ x0]=>Gy x0
 |_=>.any
theorem Oe:(vP Kv).Ok Tryz.prog 121:=bV vm Tryz.func121 (by kernel_rfl) fun ds hp=>cQ (WG ..) (abS _)
inductive sg where
 |L0 (ia0 ia1:Int)
def WZ:sg->bz×List O×Option Ex
 |.L0 ia0 ia1=>([(4,vi ia0),(3,vi ia1),(0,V.sl n0 (aa ae f0))],[],none)
def abN:sg->JJ
 |.L0 ia0 ia1=>(0,[])
def J4:T (bO JJ):=aP JJ se u0 aeA [V.sl n0 (aa ae f0)]
def BJ (cx:List Cx):Lp JJ:=eR (ej (J4 n0 f0) [false])
def abT:JJ->Lp JJ
 |(0,cx)=>BJ n0 f0 cx
 |(_,cx)=>BJ n0 f0 cx
def amE:LD JJ sg:=⟨abN,abT n0 f0,WZ n0 f0⟩
def zu:sg->RT sg
 |.L0 ia0 ia1=>.am n0 (.br (decide (ia0<(↑n0:Int))) (.ob (dI ia0 n0) (.next [] (sg.L0 (wI (ia0+1)) (min ia1 (ar (f0 ia0.toNat)))) [])) (.ret (vi ia1)))
def QW:RT sg:=.am n0 (.br (decide ((↑n0:Int)<1)) (.fail) (.ob (decide ((0:Int)<=0/\0<(↑n0:Int))) (.enter [] (sg.L0 (1) (ar (f0 0))) [])))
theorem Wc:dD se u0 (amE n0 f0) (J4 n0 f0) (QW n0 f0) (zu n0 f0):=⟨⟨by kernel_rfl,by kernel_rfl⟩,fun s=>by cases s<;>exact⟨by kernel_rfl,by kernel_rfl⟩⟩
def Z5 (p:Nat->Int) (z:Int):Nat->Int
 |0=>z
 |k+1=>min (Z5 p z k) (p k)
def fB:Int:=Z5 (fun i=>ar (f0 i)) (ar (f0 0)) n0
theorem J7 (hp:1<=n0):aR (Ev (zu n0 f0)) (QW n0 f0) (vi (fB n0 f0)):=by
 refine bg fun hn=>ed (gx (by omega)) (aE (dqt (by omega)) (aF ?_))
 have key:=cO (n:=n0) (P:=fun i=>1<=i->Ev (zu n0 f0) (.L0 i (Z5 (fun i=>ar (f0 i)) (ar (f0 0)) i)) (vi (fB n0 f0))) fun i hi ih h1=>by
  refine Ev.of rfl (evAsm fun _=>evBr (fun h=>?_) (fun h=>evRet ?_))
  ·have hlt:i<n0:=by have:=of_decide_eq_true h;omega
   refine b7 hlt (aK ?_)
   rw [j7 hlt hn]
   exact ih hlt (by omega)
  ·have:i=n0:=by have:=of_decide_eq_false h;omega
   subst this;rfl
 have:=key 1 hp (Nat.le_refl _)
 rwa [show Z5 (fun i=>ar (f0 i)) (ar (f0 0)) 1=ar (f0 0) from Int.min_self _]at this
theorem ahc (hp:1<=n0):aR (Ev (zu n0 f0)) (QW n0 f0) (vi (fB n0 (aa ae f0))):=J7 n0 f0 hp
def Lw:aB:=bF [.sl ae] (fun
 |[.sl n0 f0]=>1<=n0
 |_=>False) fun
 |[.sl n0 f0]=>vi (fB n0 f0)
 |_=>.any
theorem Dl:(vP Lw).Ok Tryz.prog 192:=bV vm Tryz.func192 (by kernel_rfl) fun ds hp=>iS (Wc ..) (ahc _ _ hp)
inductive sw where
 |L0 (ia0 ia1:Int)
def UM (s0:ByteArray) (n1:Nat) (f1:aN) (n3:Nat) (f3:aN) (n5:Nat) (f5:aN) (x7 x8:Int):sw->bz×List O×Option Ex
 |.L0 ia0 ia1=>([(11,vi ia0),(10,vi (↑n5:Int)),(9,V.sl n5 (aa [Ty.sl ae] f5)),(3,vi ia1)],[],none)
def aiR:sw->JJ
 |.L0 ia0 ia1=>(0,[])
def Lx:T (bO JJ):=aP JJ se u0 aeU [V.agg [V.str s0,V.sl n1 (aa ae f1),V.sl n3 (aa ae f3),V.sl n5 (aa [Ty.sl ae] f5),vi x7,vi x8]]
def BX (cx:List Cx):Lp JJ:=eR (ej (Lx s0 n1 f1 n3 f3 n5 f5 x7 x8) [])
def ae6:JJ->Lp JJ
 |(0,cx)=>BX s0 n1 f1 n3 f3 n5 f5 x7 x8 cx
 |(_,cx)=>BX s0 n1 f1 n3 f3 n5 f5 x7 x8 cx
def aj7:LD JJ sw:=⟨aiR,ae6 s0 n1 f1 n3 f3 n5 f5 x7 x8,UM s0 n1 f1 n3 f3 n5 f5 x7 x8⟩
def zd (s0:ByteArray) (n1:Nat) (f1:aN) (n3:Nat) (f3:aN) (n5:Nat) (f5:aN) (x7 x8:Int):sw->RT sw
 |.L0 ia0 ia1=>.br (decide (ia0<(↑n5:Int))) (.ob (dI ia0 n5) (.obp ((1:Nat)<=au (ap (f5 ia0.toNat))) (.obt (.next [] (sw.L0 (wI (ia0+1)) (max ia1 (eI (au (ap (f5 ia0.toNat))) fun i=>al ae (aX (ap (f5 ia0.toNat)) i)))) [])))) (.ret (vi ia1))
def O9:RT sw:=dm (s0,n1,f1,n3,f3,f5,x8) (.am n5 (.enter [] (sw.L0 (0) (x7)) []))
theorem Wb:dD se u0 (aj7 s0 n1 f1 n3 f3 n5 f5 x7 x8) (Lx s0 n1 f1 n3 f3 n5 f5 x7 x8) (O9 s0 n1 f1 n3 f3 n5 f5 x7 x8) (zd s0 n1 f1 n3 f3 n5 f5 x7 x8):=⟨⟨by kernel_rfl,by kernel_rfl⟩,fun s=>by cases s<;>exact⟨by kernel_rfl,by kernel_rfl⟩⟩
def Ax (i:Nat):Int:=eI (au (ap (f5 i))) fun j=>al ae (aX (ap (f5 i)) j)
def nT:Int:=yc (fun i=>Ax f5 i) x7 n5
theorem Mz (hp:∀ i,i<n5->1<=au (ap (f5 i))):aR (Ev (zd s0 n1 f1 n3 f3 n5 f5 x7 x8)) (O9 s0 n1 f1 n3 f3 n5 f5 x7 x8) (vi (nT n5 f5 x7)):=by
 refine bg fun hn=>aF (Bv hn (P:=fun x=>Ev (zd s0 n1 f1 n3 f3 n5 f5 x7 x8) (.L0 x (yc (fun i=>Ax f5 i) x7 x.toNat)) (vi (nT n5 f5 x7))) (fun i hlt nx=>?_) (Ev.of rfl (ck (evRet rfl))))
 rw [show(wI ((i:Int)+1)).toNat=i+1 by rw[j7 hlt hn];rfl]at nx
 exact Ev.of rfl (cr hlt (b7 hlt (evObp (hp i hlt) (evObt (aK nx)))))
theorem ahV (hp:∀ i,i<n5->1<=au (ap ((aa [.sl ae] f5) i))):aR (Ev (zd s0 n1 f1 n3 f3 n5 f5 x7 x8)) (O9 s0 n1 f1 n3 f3 n5 f5 x7 x8) (vi (nT n5 (aa [.sl ae] f5) x7)):=Mz s0 n1 f1 n3 f3 n5 f5 x7 x8 hp
def Q3:aB:=bF [.agg ak] (fun
 |[.agg [.str s0,.sl n1 f1,.sl n3 f3,.sl n5 f5,.int _ x7,.int _ x8]]=>∀ i,i<n5->1<=au (ap (f5 i))
 |_=>False) fun
 |[.agg [.str s0,.sl n1 f1,.sl n3 f3,.sl n5 f5,.int _ x7,.int _ x8]]=>vi (nT n5 f5 x7)
 |_=>.any
theorem NN:(vP Q3).Ok Tryz.prog 62:=bV vm Tryz.func62 (by kernel_rfl) fun ds hp=>iS (Wb ..) (ahV _ _ _ _ _ _ _ _ _ hp)
def uu5:kw:=fun _=>5
def FV:bj:=(114,.con Qd)::(121,.con Kv)::(192,.con Lw)::(62,.con Q3)::se
theorem PC:aW Tryz.prog eqs its FV:=.con Mp (.con Oe (.con Dl (.con NN (vm))))
inductive rZ where
 |L0 (ia0 ia1 ia2:Int)
def XK:rZ->bz×List O×Option Ex
 |.L0 ia0 ia1 ia2=>([(8,vi ia0),(7,vi ia1),(6,vi ia2),(0,V.sl n0 (aa ae f0)),(1,vi x2)],[],none)
def aeK:rZ->JJ
 |.L0 ia0 ia1 ia2=>(0,[])
def QQ:T (bO JJ):=aP JJ FV u0 ae5 [V.sl n0 (aa ae f0),vi x2]
def Au (cx:List Cx):Lp JJ:=eR (ej (QQ n0 f0 x2) [])
def agE:JJ->Lp JJ
 |(0,cx)=>Au n0 f0 x2 cx
 |(_,cx)=>Au n0 f0 x2 cx
def alQ:LD JJ rZ:=⟨aeK,agE n0 f0 x2,XK n0 f0 x2⟩
def zf:rZ->RT rZ
 |.L0 ia0 ia1 ia2=>.am n0 (.br (decide (ia0<(↑n0:Int))) (.ob (dI ia0 n0) (.ob (dI ia0 n0) (.next [] (rZ.L0 (wI (ia0+1)) (max ia1 (ar (f0 ia0.toNat))) (min ia2 (ar (f0 ia0.toNat)))) []))) (.cb (.cb (.obp (nz (cW (wI ((1000000:Int)*x2)))) (.obt (.obp (nz (dA (wI ((1000000:Int)*x2)))) (.obt (.br (decide (ia2<0)) (.obp (nz (dA (wI ((1000000:Int)*x2)))) (.obt (.br (decide (ia1<0)) (.obp (nz (cW (wI ((1000000:Int)*x2)))) (.obt (.cb (.cb (.ret (V.tup [vi (d7 (er (wI (1000*ia2)) (dA (wI (1000000*x2))))),vi (d7 (cY (wI (1000*ia1)) (cW (wI (1000000*x2)))))])))))) (.cb (.cb (.ret (V.tup [vi (d7 (er (wI (1000*ia2)) (dA (wI (1000000*x2))))),vi (d7 (cY (wI (1000*ia1)) (dA (wI (1000000*x2)))))]))))))) (.br (decide (ia1<0)) (.obp (nz (cW (wI ((1000000:Int)*x2)))) (.obt (.cb (.cb (.ret (V.tup [vi (d7 (er (wI (1000*ia2)) (cW (wI (1000000*x2))))),vi (d7 (cY (wI (1000*ia1)) (cW (wI (1000000*x2)))))])))))) (.cb (.cb (.ret (V.tup [vi (d7 (er (wI (1000*ia2)) (cW (wI (1000000*x2))))),vi (d7 (cY (wI (1000*ia1)) (dA (wI (1000000*x2)))))])))))))))))))
def Ry:RT rZ:=dm x2 (.ob (decide ((0:Int)<=0/\0<(↑n0:Int))) (.ob (decide ((0:Int)<=0/\0<(↑n0:Int))) (.enter [] (rZ.L0 (0) (ar (f0 0)) (ar (f0 0))) [])))
theorem UX:dD FV u0 (alQ n0 f0 x2) (QQ n0 f0 x2) (Ry n0 f0 x2) (zf n0 f0 x2):=⟨⟨by kernel_rfl,by kernel_rfl⟩,fun s=>by cases s<;>exact⟨by kernel_rfl,by kernel_rfl⟩⟩
def qlo (m x:Int):Int:=bif decide (m<0) then d7 (er (wI (1000*m)) (dA (wI (1000000*x)))) else d7 (er (wI (1000*m)) (cW (wI (1000000*x))))
def qhi (m x:Int):Int:=bif decide (m<0) then d7 (cY (wI (1000*m)) (cW (wI (1000000*x)))) else d7 (cY (wI (1000*m)) (dA (wI (1000000*x))))
def Z4 (i:Nat):Int:=ar (f0 i)
def fK:Int:=qlo (Z5 (Z4 f0) (Z4 f0 0) n0) x2
def fN:Int:=qhi (yc (Z4 f0) (Z4 f0 0) n0) x2
def PL (x:Int):Prop:=(cW (wI (1000000*x))=0->False)/\(dA (wI (1000000*x))=0->False)
theorem Jq (hp:1<=n0/\PL x2):aR (Ev (zf n0 f0 x2)) (Ry n0 f0 x2) (.tup [vi (fK n0 f0 x2),vi (fN n0 f0 x2)]):=by
 obtain ⟨h1,h2,h3⟩:=hp
 refine aE (dqt (by omega)) (aE (dqt (by omega)) (aF ?_))
 have key:=cO (n:=n0) (P:=fun i=>Ev (zf n0 f0 x2) (.L0 i (yc (Z4 f0) (Z4 f0 0) i) (Z5 (Z4 f0) (Z4 f0 0) i)) (.tup [vi (fK n0 f0 x2),vi (fN n0 f0 x2)])) fun i hi ih=>by
  refine Ev.of rfl (bg fun hn=>evBr (fun h=>?_) (fun h=>?_))
  ·have hlt:i<n0:=by have:=of_decide_eq_true h;omega
   refine b7 hlt (b7 hlt (aK ?_))
   rw [j7 hlt hn]
   exact ih hlt
  ·have:i=n0:=by have:=of_decide_eq_false h;omega
   subst this
   refine aw (evObt (aw (evObt (evObp h2 (evObt (evObp h3 (evObt (evBr (fun h0=>?_) (fun h0=>?_)))))))))
   ·refine evObp h3 (evObt (evBr (fun h1=>?_) (fun h1=>?_)))
    ·exact evObp h2 (evObt (aw (evObt (aw (evObt (evRet (by unfold fK fN qlo qhi;rw[h0,h1];rfl)))))))
    ·exact aw (evObt (aw (evObt (evRet (by unfold fK fN qlo qhi;rw[h0,h1];rfl)))))
   ·refine evBr (fun h1=>?_) (fun h1=>?_)
    ·exact evObp h2 (evObt (aw (evObt (aw (evObt (evRet (by unfold fK fN qlo qhi;rw[h0,h1];rfl)))))))
    ·exact aw (evObt (aw (evObt (evRet (by unfold fK fN qlo qhi;rw[h0,h1];rfl)))))
 exact key 0 (Nat.zero_le _)
theorem afb (hp:1<=n0/\PL x2):aR (Ev (zf n0 f0 x2)) (Ry n0 f0 x2) (.tup [vi (fK n0 (aa ae f0) x2),vi (fN n0 (aa ae f0) x2)]):=Jq n0 f0 x2 hp
def PY:aB:=bF [.sl ae,tI] (fun
 |[.sl n0 f0,.int _ x2]=>1<=n0/\PL x2
 |_=>False) fun
 |[.sl n0 f0,.int _ x2]=>.tup [vi (fK n0 f0 x2),vi (fN n0 f0 x2)]
 |_=>.any
theorem Q9:(vP PY).Ok Tryz.prog 220:=bV PC Tryz.func220 (by kernel_rfl) fun ds hp=>iS (UX ..) (afb _ _ _ hp)
def FU:bj:=(220,.con PY)::FV
theorem C7:aW Tryz.prog eqs its FU:=.con Q9 (PC)
def Jz:RT Empty:=.brt (.obt (.obt (.obt (.cb (.obt (.brt (.obt (.obt (.obt (.cb (.obt (.brt (.obt (.obt (.obt (.cb (.obt (.brt (.obt (.obt (.obt (.cb (.obt (.brf (.obp ((1:Nat)<=(4:Nat)) (.obt (.obp ((1:Nat)<=(4:Nat)) (.obt (.br (decide (fB 4 (aa ae (bn [vi (wI (1000*aL x0 x1 x2 x3)),vi (wI (1000*aL x0 x1 x4 x5)),vi (wI (1000*aL x0 x1 x6 x7)),vi (wI (1000*aL x0 x1 x8 x9))] 0 1))<0)) (.br (decide (eI 4 (aa ae (bn [vi (wI (1000*aL x0 x1 x2 x3)),vi (wI (1000*aL x0 x1 x4 x5)),vi (wI (1000*aL x0 x1 x6 x7)),vi (wI (1000*aL x0 x1 x8 x9))] 0 1))<0)) (.obp (nz x11) (.obt (.cb (.obp (nz x10) (.obt (.cb (.ret (V.tup [vi (bR (cP (fB 4 (aa ae (bn [vi (wI (1000*aL x0 x1 x2 x3)),vi (wI (1000*aL x0 x1 x4 x5)),vi (wI (1000*aL x0 x1 x6 x7)),vi (wI (1000*aL x0 x1 x8 x9))] 0 1))) x11)),vi (bR (cH (eI 4 (aa ae (bn [vi (wI (1000*aL x0 x1 x2 x3)),vi (wI (1000*aL x0 x1 x4 x5)),vi (wI (1000*aL x0 x1 x6 x7)),vi (wI (1000*aL x0 x1 x8 x9))] 0 1))) x10))])))))))) (.obp (nz x11) (.obt (.cb (.obp (nz x11) (.obt (.cb (.ret (V.tup [vi (bR (cP (fB 4 (aa ae (bn [vi (wI (1000*aL x0 x1 x2 x3)),vi (wI (1000*aL x0 x1 x4 x5)),vi (wI (1000*aL x0 x1 x6 x7)),vi (wI (1000*aL x0 x1 x8 x9))] 0 1))) x11)),vi (bR (cH (eI 4 (aa ae (bn [vi (wI (1000*aL x0 x1 x2 x3)),vi (wI (1000*aL x0 x1 x4 x5)),vi (wI (1000*aL x0 x1 x6 x7)),vi (wI (1000*aL x0 x1 x8 x9))] 0 1))) x11))]))))))))) (.br (decide (eI 4 (aa ae (bn [vi (wI (1000*aL x0 x1 x2 x3)),vi (wI (1000*aL x0 x1 x4 x5)),vi (wI (1000*aL x0 x1 x6 x7)),vi (wI (1000*aL x0 x1 x8 x9))] 0 1))<0)) (.obp (nz x10) (.obt (.cb (.obp (nz x10) (.obt (.cb (.ret (V.tup [vi (bR (cP (fB 4 (aa ae (bn [vi (wI (1000*aL x0 x1 x2 x3)),vi (wI (1000*aL x0 x1 x4 x5)),vi (wI (1000*aL x0 x1 x6 x7)),vi (wI (1000*aL x0 x1 x8 x9))] 0 1))) x10)),vi (bR (cH (eI 4 (aa ae (bn [vi (wI (1000*aL x0 x1 x2 x3)),vi (wI (1000*aL x0 x1 x4 x5)),vi (wI (1000*aL x0 x1 x6 x7)),vi (wI (1000*aL x0 x1 x8 x9))] 0 1))) x10))])))))))) (.obp (nz x10) (.obt (.cb (.obp (nz x11) (.obt (.cb (.ret (V.tup [vi (bR (cP (fB 4 (aa ae (bn [vi (wI (1000*aL x0 x1 x2 x3)),vi (wI (1000*aL x0 x1 x4 x5)),vi (wI (1000*aL x0 x1 x6 x7)),vi (wI (1000*aL x0 x1 x8 x9))] 0 1))) x10)),vi (bR (cH (eI 4 (aa ae (bn [vi (wI (1000*aL x0 x1 x2 x3)),vi (wI (1000*aL x0 x1 x4 x5)),vi (wI (1000*aL x0 x1 x6 x7)),vi (wI (1000*aL x0 x1 x8 x9))] 0 1))) x11))]))))))))))))))))))))))))))))))))))))))
theorem Kc:cJ cL (aP JJ FU uu5 Dm [V.fn 155 [V.agg [vi x0,vi x1]] [],V.pd [vi x2,vi x3,vi x4,vi x5,vi x6,vi x7,vi x8,vi x9],V.pd [vi x10],V.pd [vi x11]]) (Jz x0 x1 x2 x3 x4 x5 x6 x7 x8 x9 x10 x11):=⟨by kernel_rfl,by kernel_rfl⟩
def gZ:Int:=bif decide (fB 4 (aa ae (bn [vi (wI (1000*aL x0 x1 x2 x3)),vi (wI (1000*aL x0 x1 x4 x5)),vi (wI (1000*aL x0 x1 x6 x7)),vi (wI (1000*aL x0 x1 x8 x9))] 0 1))<0) then bR (cP (fB 4 (aa ae (bn [vi (wI (1000*aL x0 x1 x2 x3)),vi (wI (1000*aL x0 x1 x4 x5)),vi (wI (1000*aL x0 x1 x6 x7)),vi (wI (1000*aL x0 x1 x8 x9))] 0 1))) x11) else bR (cP (fB 4 (aa ae (bn [vi (wI (1000*aL x0 x1 x2 x3)),vi (wI (1000*aL x0 x1 x4 x5)),vi (wI (1000*aL x0 x1 x6 x7)),vi (wI (1000*aL x0 x1 x8 x9))] 0 1))) x10)
def hM:Int:=bif decide (eI 4 (aa ae (bn [vi (wI (1000*aL x0 x1 x2 x3)),vi (wI (1000*aL x0 x1 x4 x5)),vi (wI (1000*aL x0 x1 x6 x7)),vi (wI (1000*aL x0 x1 x8 x9))] 0 1))<0) then bR (cH (eI 4 (aa ae (bn [vi (wI (1000*aL x0 x1 x2 x3)),vi (wI (1000*aL x0 x1 x4 x5)),vi (wI (1000*aL x0 x1 x6 x7)),vi (wI (1000*aL x0 x1 x8 x9))] 0 1))) x10) else bR (cH (eI 4 (aa ae (bn [vi (wI (1000*aL x0 x1 x2 x3)),vi (wI (1000*aL x0 x1 x4 x5)),vi (wI (1000*aL x0 x1 x6 x7)),vi (wI (1000*aL x0 x1 x8 x9))] 0 1))) x11)
def rh:V:=.tup [vi (gZ x0 x1 x2 x3 x4 x5 x6 x7 x8 x9 x10 x11),vi (hM x0 x1 x2 x3 x4 x5 x6 x7 x8 x9 x10 x11)]
theorem ybh (hp:(x10=0->False)/\(x11=0->False)):aR cq (Jz x0 x1 x2 x3 x4 x5 x6 x7 x8 x9 x10 x11) (rh x0 x1 x2 x3 x4 x5 x6 x7 x8 x9 x10 x11):=ec (evObt (evObt (evObt (aw (evObt (evObt (ec (evObt (evObt (evObt (aw (evObt (evObt (ec (evObt (evObt (evObt (aw (evObt (evObt (ec (evObt (evObt (evObt (aw (evObt (evObt (lZ (evObp (by first|assumption|((first|exact hp.1|exact hp.2|decide))) (evObt (evObp (by first|assumption|((first|exact hp.1|exact hp.2|decide))) (evObt (evBr (fun h0=>evBr (fun h1=>evObp (by first|assumption|((first|exact hp.1|exact hp.2|decide))) (evObt (aw (evObt (evObp (by first|assumption|((first|exact hp.1|exact hp.2|decide))) (evObt (aw (evObt (evRet (by unfold rh gZ hM;try rw[h0];try rw[h1];rfl)))))))))) (fun h1=>evObp (by first|assumption|((first|exact hp.1|exact hp.2|decide))) (evObt (aw (evObt (evObp (by first|assumption|((first|exact hp.1|exact hp.2|decide))) (evObt (aw (evObt (evRet (by unfold rh gZ hM;try rw[h0];try rw[h1];rfl))))))))))) (fun h0=>evBr (fun h1=>evObp (by first|assumption|((first|exact hp.1|exact hp.2|decide))) (evObt (aw (evObt (evObp (by first|assumption|((first|exact hp.1|exact hp.2|decide))) (evObt (aw (evObt (evRet (by unfold rh gZ hM;try rw[h0];try rw[h1];rfl)))))))))) (fun h1=>evObp (by first|assumption|((first|exact hp.1|exact hp.2|decide))) (evObt (aw (evObt (evObp (by first|assumption|((first|exact hp.1|exact hp.2|decide))) (evObt (aw (evObt (evRet (by unfold rh gZ hM;try rw[h0];try rw[h1];rfl))))))))))))))))))))))))))))))))))))))))))))
def Li:aB:=bF [.fn 155 [.agg bZ] [],.pd [tI,tI,tI,tI,tI,tI,tI,tI],.pd ae,.pd ae] (fun
 |[.fn _ [.agg [.int _ x0,.int _ x1]] [],.pd [.int _ x2,.int _ x3,.int _ x4,.int _ x5,.int _ x6,.int _ x7,.int _ x8,.int _ x9],.pd [.int _ x10],.pd [.int _ x11]]=>(x10=0->False)/\(x11=0->False)
 |_=>False) fun
 |[.fn _ [.agg [.int _ x0,.int _ x1]] [],.pd [.int _ x2,.int _ x3,.int _ x4,.int _ x5,.int _ x6,.int _ x7,.int _ x8,.int _ x9],.pd [.int _ x10],.pd [.int _ x11]]=>rh x0 x1 x2 x3 x4 x5 x6 x7 x8 x9 x10 x11
 |_=>.any
theorem R3:(vP Li).Ok Tryz.prog 191:=bV C7 Tryz.func191 (by kernel_rfl) fun ds hp=>cQ (Kc ..) (ybh _ _ _ _ _ _ _ _ _ _ _ _ hp)
def Lu:RT Empty:=.brt (.obt (.obt (.obt (.cb (.obt (.brt (.obt (.obt (.obt (.cb (.obt (.brt (.obt (.obt (.obt (.cb (.obt (.brt (.obt (.obt (.obt (.cb (.obt (.brf (.obp ((1:Nat)<=(4:Nat)) (.obt (.obp ((1:Nat)<=(4:Nat)) (.obt (.br (decide (fB 4 (aa ae (bn [vi (wI (1000*aM x0 x1 x2 x3)),vi (wI (1000*aM x0 x1 x4 x5)),vi (wI (1000*aM x0 x1 x6 x7)),vi (wI (1000*aM x0 x1 x8 x9))] 0 1))<0)) (.br (decide (eI 4 (aa ae (bn [vi (wI (1000*aM x0 x1 x2 x3)),vi (wI (1000*aM x0 x1 x4 x5)),vi (wI (1000*aM x0 x1 x6 x7)),vi (wI (1000*aM x0 x1 x8 x9))] 0 1))<0)) (.obp (nz x11) (.obt (.cb (.obp (nz x10) (.obt (.cb (.ret (V.tup [vi (bR (cP (fB 4 (aa ae (bn [vi (wI (1000*aM x0 x1 x2 x3)),vi (wI (1000*aM x0 x1 x4 x5)),vi (wI (1000*aM x0 x1 x6 x7)),vi (wI (1000*aM x0 x1 x8 x9))] 0 1))) x11)),vi (bR (cH (eI 4 (aa ae (bn [vi (wI (1000*aM x0 x1 x2 x3)),vi (wI (1000*aM x0 x1 x4 x5)),vi (wI (1000*aM x0 x1 x6 x7)),vi (wI (1000*aM x0 x1 x8 x9))] 0 1))) x10))])))))))) (.obp (nz x11) (.obt (.cb (.obp (nz x11) (.obt (.cb (.ret (V.tup [vi (bR (cP (fB 4 (aa ae (bn [vi (wI (1000*aM x0 x1 x2 x3)),vi (wI (1000*aM x0 x1 x4 x5)),vi (wI (1000*aM x0 x1 x6 x7)),vi (wI (1000*aM x0 x1 x8 x9))] 0 1))) x11)),vi (bR (cH (eI 4 (aa ae (bn [vi (wI (1000*aM x0 x1 x2 x3)),vi (wI (1000*aM x0 x1 x4 x5)),vi (wI (1000*aM x0 x1 x6 x7)),vi (wI (1000*aM x0 x1 x8 x9))] 0 1))) x11))]))))))))) (.br (decide (eI 4 (aa ae (bn [vi (wI (1000*aM x0 x1 x2 x3)),vi (wI (1000*aM x0 x1 x4 x5)),vi (wI (1000*aM x0 x1 x6 x7)),vi (wI (1000*aM x0 x1 x8 x9))] 0 1))<0)) (.obp (nz x10) (.obt (.cb (.obp (nz x10) (.obt (.cb (.ret (V.tup [vi (bR (cP (fB 4 (aa ae (bn [vi (wI (1000*aM x0 x1 x2 x3)),vi (wI (1000*aM x0 x1 x4 x5)),vi (wI (1000*aM x0 x1 x6 x7)),vi (wI (1000*aM x0 x1 x8 x9))] 0 1))) x10)),vi (bR (cH (eI 4 (aa ae (bn [vi (wI (1000*aM x0 x1 x2 x3)),vi (wI (1000*aM x0 x1 x4 x5)),vi (wI (1000*aM x0 x1 x6 x7)),vi (wI (1000*aM x0 x1 x8 x9))] 0 1))) x10))])))))))) (.obp (nz x10) (.obt (.cb (.obp (nz x11) (.obt (.cb (.ret (V.tup [vi (bR (cP (fB 4 (aa ae (bn [vi (wI (1000*aM x0 x1 x2 x3)),vi (wI (1000*aM x0 x1 x4 x5)),vi (wI (1000*aM x0 x1 x6 x7)),vi (wI (1000*aM x0 x1 x8 x9))] 0 1))) x10)),vi (bR (cH (eI 4 (aa ae (bn [vi (wI (1000*aM x0 x1 x2 x3)),vi (wI (1000*aM x0 x1 x4 x5)),vi (wI (1000*aM x0 x1 x6 x7)),vi (wI (1000*aM x0 x1 x8 x9))] 0 1))) x11))]))))))))))))))))))))))))))))))))))))))
theorem Ow:cJ cL (aP JJ FU uu5 Dm [V.fn 154 [V.agg [vi x0,vi x1]] [],V.pd [vi x2,vi x3,vi x4,vi x5,vi x6,vi x7,vi x8,vi x9],V.pd [vi x10],V.pd [vi x11]]) (Lu x0 x1 x2 x3 x4 x5 x6 x7 x8 x9 x10 x11):=⟨by kernel_rfl,by kernel_rfl⟩
def hJ:Int:=bif decide (fB 4 (aa ae (bn [vi (wI (1000*aM x0 x1 x2 x3)),vi (wI (1000*aM x0 x1 x4 x5)),vi (wI (1000*aM x0 x1 x6 x7)),vi (wI (1000*aM x0 x1 x8 x9))] 0 1))<0) then bR (cP (fB 4 (aa ae (bn [vi (wI (1000*aM x0 x1 x2 x3)),vi (wI (1000*aM x0 x1 x4 x5)),vi (wI (1000*aM x0 x1 x6 x7)),vi (wI (1000*aM x0 x1 x8 x9))] 0 1))) x11) else bR (cP (fB 4 (aa ae (bn [vi (wI (1000*aM x0 x1 x2 x3)),vi (wI (1000*aM x0 x1 x4 x5)),vi (wI (1000*aM x0 x1 x6 x7)),vi (wI (1000*aM x0 x1 x8 x9))] 0 1))) x10)
def ic:Int:=bif decide (eI 4 (aa ae (bn [vi (wI (1000*aM x0 x1 x2 x3)),vi (wI (1000*aM x0 x1 x4 x5)),vi (wI (1000*aM x0 x1 x6 x7)),vi (wI (1000*aM x0 x1 x8 x9))] 0 1))<0) then bR (cH (eI 4 (aa ae (bn [vi (wI (1000*aM x0 x1 x2 x3)),vi (wI (1000*aM x0 x1 x4 x5)),vi (wI (1000*aM x0 x1 x6 x7)),vi (wI (1000*aM x0 x1 x8 x9))] 0 1))) x10) else bR (cH (eI 4 (aa ae (bn [vi (wI (1000*aM x0 x1 x2 x3)),vi (wI (1000*aM x0 x1 x4 x5)),vi (wI (1000*aM x0 x1 x6 x7)),vi (wI (1000*aM x0 x1 x8 x9))] 0 1))) x11)
def rl:V:=.tup [vi (hJ x0 x1 x2 x3 x4 x5 x6 x7 x8 x9 x10 x11),vi (ic x0 x1 x2 x3 x4 x5 x6 x7 x8 x9 x10 x11)]
theorem Sg (hp:(x10=0->False)/\(x11=0->False)):aR cq (Lu x0 x1 x2 x3 x4 x5 x6 x7 x8 x9 x10 x11) (rl x0 x1 x2 x3 x4 x5 x6 x7 x8 x9 x10 x11):=ec (evObt (evObt (evObt (aw (evObt (evObt (ec (evObt (evObt (evObt (aw (evObt (evObt (ec (evObt (evObt (evObt (aw (evObt (evObt (ec (evObt (evObt (evObt (aw (evObt (evObt (lZ (evObp (by first|assumption|((first|exact hp.1|exact hp.2|decide))) (evObt (evObp (by first|assumption|((first|exact hp.1|exact hp.2|decide))) (evObt (evBr (fun h0=>evBr (fun h1=>evObp (by first|assumption|((first|exact hp.1|exact hp.2|decide))) (evObt (aw (evObt (evObp (by first|assumption|((first|exact hp.1|exact hp.2|decide))) (evObt (aw (evObt (evRet (by unfold rl hJ ic;try rw[h0];try rw[h1];rfl)))))))))) (fun h1=>evObp (by first|assumption|((first|exact hp.1|exact hp.2|decide))) (evObt (aw (evObt (evObp (by first|assumption|((first|exact hp.1|exact hp.2|decide))) (evObt (aw (evObt (evRet (by unfold rl hJ ic;try rw[h0];try rw[h1];rfl))))))))))) (fun h0=>evBr (fun h1=>evObp (by first|assumption|((first|exact hp.1|exact hp.2|decide))) (evObt (aw (evObt (evObp (by first|assumption|((first|exact hp.1|exact hp.2|decide))) (evObt (aw (evObt (evRet (by unfold rl hJ ic;try rw[h0];try rw[h1];rfl)))))))))) (fun h1=>evObp (by first|assumption|((first|exact hp.1|exact hp.2|decide))) (evObt (aw (evObt (evObp (by first|assumption|((first|exact hp.1|exact hp.2|decide))) (evObt (aw (evObt (evRet (by unfold rl hJ ic;try rw[h0];try rw[h1];rfl))))))))))))))))))))))))))))))))))))))))))))
def NL:aB:=bF [.fn 154 [.agg bZ] [],.pd [tI,tI,tI,tI,tI,tI,tI,tI],.pd ae,.pd ae] (fun
 |[.fn _ [.agg [.int _ x0,.int _ x1]] [],.pd [.int _ x2,.int _ x3,.int _ x4,.int _ x5,.int _ x6,.int _ x7,.int _ x8,.int _ x9],.pd [.int _ x10],.pd [.int _ x11]]=>(x10=0->False)/\(x11=0->False)
 |_=>False) fun
 |[.fn _ [.agg [.int _ x0,.int _ x1]] [],.pd [.int _ x2,.int _ x3,.int _ x4,.int _ x5,.int _ x6,.int _ x7,.int _ x8,.int _ x9],.pd [.int _ x10],.pd [.int _ x11]]=>rl x0 x1 x2 x3 x4 x5 x6 x7 x8 x9 x10 x11
 |_=>.any
theorem Tx:(vP NL).Ok Tryz.prog 191:=bV C7 Tryz.func191 (by kernel_rfl) fun ds hp=>cQ (Ow ..) (Sg _ _ _ _ _ _ _ _ _ _ _ _ hp)
def orC (p:List V->Bool) (A B:aB):aB:=fun ds=>cond (p ds) (A ds) (B ds)
theorem D7 {P:Program} {f:FuncId} (p:List V->Bool) (A B:aB) (hA:(vP A).Ok P f) (hB:(vP B).Ok P f):(vP (orC p A B)).Ok P f:=by
 have key:∀ {w0 args lh K},vP (orC p A B) w0 args lh K->vP A w0 args lh K∨vP B w0 args lh K:=by
  intro w0 args lh K ⟨ds,d,pr,r,h1,h2,h3⟩
  unfold orC at h2
  cases hc:p ds with
  |true=>rw[hc]at h2;exact .inl ⟨ds,d,pr,r,h1,h2,h3⟩
  |false=>rw[hc]at h2;exact .inr ⟨ds,d,pr,r,h1,h2,h3⟩
 exact ⟨fun B m lh w args vs K hrel hargs hsp=>(key hsp).elim (fun h=>hA.1 B m lh w args vs K hrel hargs h) (fun h=>hB.1 B m lh w args vs K hrel hargs h),
  fun _ _ _ _ _ hk ⟨ds,d,p,r,h1,h2,h3,h4,h5⟩=>⟨ds,d,p,r,h1,h2,h3,h4,hk _ _ h5⟩,fun _ _ _ _ ⟨_,_,_,_,_,_,_,_,h⟩=>h⟩
def ag6:List V->Bool
 |.fn n _ _::_=>Nat.beq n (match (.fn 155 [] []:V) with|.fn k _ _=>k|_=>0)
 |_=>false
def Qf:aB:=orC ag6 Li NL
theorem Js:(vP Qf).Ok Tryz.prog 191:=D7 _ _ _ R3 Tx
end
end Go.Dx
namespace Go.Dx
open Go.IntKind (i64 u64 u8)
open Go.Sx
variable (n0:Nat) (f0:aN) (x0 x1:Int) (n2:Nat) (f2:aN) (x2 x3:Int) (n4:Nat) (f4:aN) (n6:Nat) (f6:aN)
noncomputable section
theorem qe (a l h:Int):yac a l h=!bq a l h:=by
 unfold yac bq
 by_cases h1:a<l
 ·rw[dqt h1,gx (show ¬ l<=a by omega)];rfl
 ·rw[gx h1,dqt (show l<=a by omega)]
  by_cases h2:h<a
  ·rw[dqt h2,cond_false,cond_true];exact gx (by omega)
  ·rw[gx h2,cond_false,cond_true];exact dqt (by omega)
theorem wR {n:Nat} {p q:Nat->Bool} (h:∀ i,i<n->p i=q i):jh n p=jh n q:=by
 cases hq:jh n q with
 | true =>
   obtain ⟨i,hi,hp⟩:=Ua.1 hq
   exact cn i hi (by rw[h i hi];exact hp)
 | false =>
   refine b8 fun i hi=>?_
   rw [h i hi]
   cases hp:q i with
   |false=>rfl
   |true=>rw[cn i hi hp]at hq;cases hq
theorem j5 (n:Nat) (f:Nat->List V):jQ n f=!wk n f:=by
 unfold jQ AP Ik
 rw [nA]
 unfold jh wk
 congr 1
 congr 1
 funext i
 rw [qe];rfl
theorem T7 (s:ByteArray):∀ (k i:Nat) (r:List UInt8),s.size-i=k->(ByteArray.toList.loop s i r).length=r.length+k:=by
 intro k
 induction k with
 | zero =>
   intro i r h
   rw [ByteArray.toList.loop]
   have:¬ i<s.size:=by omega
   simp [this]
 | succ k ih =>
   intro i r h
   rw [ByteArray.toList.loop]
   have:i<s.size:=by omega
   simp only [this,if_true]
   rw [ih (i+1) _ (by omega)]
   simp;omega
theorem Ia (s:ByteArray):(s.toList==(⟨#[]⟩:ByteArray).toList)=decide (s.size=0):=by
 have e:(⟨#[]⟩:ByteArray).toList=[]:=by decide +kernel
 rw [e]
 have hl:s.toList.length=s.size:=by
  unfold ByteArray.toList;rw[T7 s s.size 0 [] (by omega)];simp
 by_cases h:s.size=0
 ·rw[dqt h]
  have:s.toList=[]:=List.eq_nil_of_length_eq_zero (by omega)
  rw [this];rfl
 ·rw[gx h]
  cases hs:s.toList with
  |nil=>rw[hs]at hl;simp at hl;omega
  |cons a l=>rfl
theorem ko {α:Type} {p:α->Bool}:∀ {l:List α},l.dropWhile p=[]↔∀ x∈l,p x=true
 |[]=>by simp
 | a::l=>by
   rw [List.dropWhile_cons]
   cases h:p a with
   |true=>simp only[if_true];rw[ko];simp[h]
   |false=>simp[h]
theorem NG (l cs:List UInt8):Lib.trimS l cs=[]↔∀ b∈l,cs.contains b=true:=by
 unfold Lib.trimS Lib.trimLeftS Lib.trimRightS
 rw [ko]
 constructor
 ·intro h
  have h1:l.reverse.dropWhile (cs.contains ·)=[]:=by
   cases hd:l.reverse.dropWhile (cs.contains ·) with
   |nil=>rfl
   | cons a r =>
     have ha:cs.contains a=true:=h a (by rw[hd];simp)
     have hh:=List.head_dropWhile_not (cs.contains ·) (l:=l.reverse) (by rw[hd];simp)
     simp only [hd,List.head_cons]at hh
     rw [ha]at hh;cases hh
  rw [ko]at h1
  exact fun b hb=>h1 b (by simpa using hb)
 ·intro h b hb
  have:b∈l.reverse:=by
   have:=List.mem_reverse.1 hb
   exact (List.dropWhile_sublist _).subset this
  exact h b (by simpa using this)
def nmB (b:Nat):Bool:=(decide (97<=b)&&decide (b<=122))||((decide (48<=b)&&decide (b<=57))||decide (b=45))
theorem xB (b:UInt8):([97,98,99,100,101,102,103,104,105,106,107,108,109,110,111,112,113,114,115,116,117,118,119,120,121,122,48,49,50,51,52,53,54,55,56,57,45]:List UInt8).contains b=nmB b.toNat:=by
 have key:∀ n:Fin 256,([97,98,99,100,101,102,103,104,105,106,107,108,109,110,111,112,113,114,115,116,117,118,119,120,121,122,48,49,50,51,52,53,54,55,56,57,45]:List UInt8).contains (UInt8.ofNat n.val)=nmB n.val:=by decide +kernel
 have:=key ⟨b.toNat,b.toNat_lt⟩
 simpa using this
theorem Hj {l:List UInt8} {i:Nat} (h:i<l.length):l.getD i 0=l[i]:=by simp[List.getD,h]
theorem yU (s:ByteArray) (i:Nat):(!Co s i)=(nmB (s.data.toList.getD i 0).toNat&&(decide (0<i)||(decide (97<=(s.data.toList.getD i 0).toNat)&&decide ((s.data.toList.getD i 0).toNat<=122)))):=by
 unfold Co nmB
 generalize (s.data.toList.getD i 0).toNat=b
 rw [Bool.eq_iff_iff]
 simp only [Bool.cond_eq_ite,Bool.not_eq_true',Bool.and_eq_true,Bool.or_eq_true,decide_eq_true_eq]
 split<;>split<;>(try split)<;>simp_all<;>omega
theorem HH (s:ByteArray):mo s=lT s:=by
 unfold mo lT
 rw [Ia]
 have hsz:s.size=s.data.toList.length:=by rw[Array.length_toList];rfl
 by_cases h0:s.size=0
 ·rw[dqt h0,h0];rfl
 rw [gx h0]
 have e0:decide (0<(s.size:Int))=true:=dqt (by omega)
 rw [e0]
 by_cases h24:(s.size:Int)<=24
 case neg=>rw[gx h24];simp
 rw [dqt h24]
 simp only [Bool.not_false,cond_true,Bool.and_true]
 rw [Ia]
 rw [Bool.eq_iff_iff]
 have ht:(wo s (ByteArray.mk (Array.mk [97,98,99,100,101,102,103,104,105,106,107,108,109,110,111,112,113,114,115,116,117,118,119,120,121,122,48,49,50,51,52,53,54,55,56,57,45]))).size=0↔∀ b∈s.data.toList,nmB b.toNat=true:=by
  rw [show(wo s (ByteArray.mk (Array.mk [97,98,99,100,101,102,103,104,105,106,107,108,109,110,111,112,113,114,115,116,117,118,119,120,121,122,48,49,50,51,52,53,54,55,56,57,45]))).size=(Lib.trimS s.data.toList [97,98,99,100,101,102,103,104,105,106,107,108,109,110,111,112,113,114,115,116,117,118,119,120,121,122,48,49,50,51,52,53,54,55,56,57,45]).length from by simp[wo,ByteArray.size]]
  rw [List.length_eq_zero_iff,NG]
  constructor
  ·intro h b hb;rw[← xB];exact h b hb
  ·intro h b hb;rw[xB];exact h b hb
 have hb:cz s.size (fun i=>!Co s i)=true↔(∀ b∈s.data.toList,nmB b.toNat=true)/\97<=(s.data.toList.getD 0 0).toNat/\(s.data.toList.getD 0 0).toNat<=122:=by
  rw [xb]
  constructor
  ·intro h
   refine ⟨fun b hb=>?_,?_⟩
   ·obtain⟨i,hi,rfl⟩:=List.getElem_of_mem hb
    have:=h i (by omega)
    rw [yU,Bool.and_eq_true]at this
    rw [Hj hi]at this
    exact this.1
   ·have:=h 0 (by omega)
    rw [yU]at this
    simp only [Bool.and_eq_true,Bool.or_eq_true,decide_eq_true_eq]at this
    rcases this.2 with h1|h1
    ·omega
    ·exact h1
  ·rintro⟨h1,h2,h3⟩ i hi
   rw [yU]
   have hi':i<s.data.toList.length:=by omega
   rw [h1 _ (by rw[Hj hi'];exact List.getElem_mem hi')]
   by_cases hz:i=0
   ·subst hz;rw[dqt h2,dqt h3];rfl
   ·simp;omega
 rw [hb,← ht]
 cases hd:decide ((wo s (ByteArray.mk (Array.mk [97,98,99,100,101,102,103,104,105,106,107,108,109,110,111,112,113,114,115,116,117,118,119,120,121,122,48,49,50,51,52,53,54,55,56,57,45]))).size=0) with
 | false =>
   have:=of_decide_eq_false hd
   simp [this]
 | true =>
   have:=of_decide_eq_true hd
   simp only [cond_true,this,true_and]
   rw [show s.data.1.getD 0 0=s.data.toList.getD 0 0 from rfl]
   generalize (s.data.toList.getD 0 0).toNat=b
   by_cases g:97<=b
   ·rw[dqt (show(97:Int)<=(b:Int) by omega)]
    simp only [cond_true,decide_eq_true_eq];omega
   ·rw[gx (show ¬ (97:Int)<=(b:Int) by omega)]
    simp;omega
theorem Xi (x y:Int):rp x y=!pA x y:=by unfold rp pA;exact j5 _ _
section
variable (n:Nat) (f:Nat->List V)
include n f
theorem acT (s:ByteArray):rU n f s=jh n fun k=>(sv (ap (f k))).toList==s.toList:=by
 unfold rU IM;rw[nA];rfl
theorem W8 (s:ByteArray):q8 n f s=jh n fun k=>(sv (ap (f k))).toList==s.toList:=by
 unfold q8 Iu;rw[nA];rfl
theorem ahb:jH n f=jh n fun i=>!pA (ar (f i)) (aQ (f i)):=by
 unfold jH yaK;rw[nA];exact wR fun i _=>Xi _ _
end
theorem H4 (i:Nat):c62 n0 (aa aJ f0) i=cR n0 f0 i:=by
 unfold c62 cR Y0 Yw NK
 rw [HH,acT,ahb]
 simp only [Int.toNat_natCast,Nat.sub_zero,Nat.zero_add,qe,Bool.not_not]
 rfl
theorem GM (i:Nat):c64 n2 (aa aU f2) i=cT f2 i:=by
 show mM (ar (f2 i)) (aQ (f2 i)) (ca (f2 i)) (bW (f2 i)) (db (f2 i))=_
 unfold cT mM Aj
 rw [j5]
 show (bif !!pA _ _ then _ else _)=_
 generalize pA _ _=p
 generalize ca (f2 i)=a
 generalize bW (f2 i)=z
 generalize db (f2 i)=w
 cases p
 ·rfl
 ·simp only [Bool.not_true,Bool.not_false,cond_true]
  rw [qe]
  cases ha:bq a 1 20000
  ·simp only [Bool.not_false,Bool.not_true,cond_true,cond_false]
   by_cases hw:1<=w/\w<=1000
   ·have e:bq w 1 1000=false:=by unfold bq;rw[gx (by omega),cond_false];exact gx (by omega)
    rw [e,wrapI (by omega) (by omega)]
    unfold bq
    by_cases hz:z<0
    ·rw[dqt hz];rfl
    ·rw[gx hz]
     by_cases hz2:w<=z
     ·rw[dqt (show w-1<z by omega),dqt hz2];rfl
     ·rw[gx (show ¬ w-1<z by omega),gx hz2,gx (show ¬ 1000<w by omega)];rfl
   ·have e:bq w 1 1000=true:=by
     unfold bq
     by_cases h1:w<1
     ·rw[dqt h1];rfl
     ·rw[gx h1,cond_false];exact dqt (by omega)
    rw [e]
    have:(bif bif decide (z<0) then true else decide (w<=z) then true else decide (1000<w))=true:=by
     by_cases hz:z<0
     ·rw[dqt hz];rfl
     ·rw[gx hz,cond_false]
      by_cases h2:w<=z
      ·rw[dqt h2];rfl
      ·rw[gx h2,cond_false];exact dqt (by omega)
    rw [this]
    cases !bq z 0 (wI (w-1))<;>rfl
  ·rfl
theorem aby:kp x0 x1 x2 x3=bif bif bif bif bif decide (x0<0) then true else decide (x1<=x0) then true else decide (1000<x1) then true else decide (x2<0) then true else decide (x3<=x2) then true else decide (1000<x3):=by
 have key:∀ a b:Int,((bif !bq b 1 1000 then bq a 0 (wI (b-1)) else true)=true)↔(a<0∨b<=a∨1000<b):=by
  intro a b
  unfold bq
  by_cases h1:b<1
  ·rw[dqt h1];simp;omega
  ·rw [gx h1]
   by_cases h2:1000<b
   ·rw[dqt h2];simp;omega
   ·rw[gx h2,wrapI (by omega) (by omega)]
    simp only [cond_false,Bool.not_false,cond_true,Bool.cond_eq_ite]
    split<;>simp_all<;>omega
 have e1:=key x0 x1
 have e2:=key x2 x3
 have:kp x0 x1 x2 x3=(bif !(bif !bq x1 1 1000 then bq x0 0 (wI (x1-1)) else true) then(bif !bq x3 1 1000 then bq x2 0 (wI (x3-1)) else true) else true):=by
  unfold kp
  cases bq x1 1 1000<;>cases bq x0 0 (wI (x1-1))<;>rfl
 rw [this]
 generalize (bif !bq x1 1 1000 then bq x0 0 (wI (x1-1)) else true)=p at e1 ⊢
 generalize (bif !bq x3 1 1000 then bq x2 0 (wI (x3-1)) else true)=q at e2 ⊢
 rw [Bool.eq_iff_iff]
 simp only [Bool.cond_eq_ite]
 cases p<;>cases q<;>simp_all<;>omega
theorem AO (i:Nat):c66 n4 (aa aV f4) i=cF f4 i:=by
 show mR (ar (f4 i)) (aQ (f4 i)) (ca (f4 i)) (bW (f4 i)) (au (ap (ab (ab (ab (ab (f4 i))))))) (fun j=>al je (aX (ap (ab (ab (ab (ab (f4 i)))))) j))=_
 unfold cF mR Sv
 rw [j5]
 have:∀ n (f:Nat->List V),q6 n f=jh n fun j=>sL (f j):=by
  intro n f
  unfold q6 I0;rw[nA]
  exact wR fun j _=>by rw[aby];rfl
 rw [this]
 rfl
theorem apV (p q r t:Bool) (B:Int):(bif p then bif !q then bif !r then bif t then 7 else B else 7 else 7 else 7)=(bif bif bif bif !p then true else q then true else r then true else t then 7 else B):=by
 cases p<;>cases q<;>cases r<;>cases t<;>rfl
theorem Mu (i:Nat):c68 n6 (aa aH f6) i=cC n6 f6 i:=by
 unfold c68 cC ky VI
 rw [HH,W8,j5]
 simp only [Int.toNat_natCast,Nat.sub_zero,Nat.zero_add]
 unfold Ww
 simp only [qe,Bool.not_not]
 rw [apV]
 rfl
theorem yad {n:Nat} {c d:Nat->Int} (h:∀ i,c i=d i):eZ n c=eZ n d/\dw n c=dw n d:=by
 have:c=d:=funext h
 rw [this];exact⟨rfl,rfl⟩
theorem Q7 :
 (kI n0 f0 n2 f2 n4 f4 n6 f6,kE n0 f0 n2 f2 n4 f4 n6 f6,g8 n0 f0 n2 f2 n4 f4 n6 f6)=Zj n0 f0 n2 f2 n4 f4 n6 f6:=by
 unfold kI kE g8 Zj I5 z1 z2 z3 wS xu oD ww ox w5 nZ xz oe
 rw [(yad (H4 n0 f0)).1,(yad (H4 n0 f0)).2,(yad (GM n2 f2)).1,(yad (GM n2 f2)).2,(yad (AO n4 f4)).1,(yad (AO n4 f4)).2,(yad (Mu n6 f6)).1,(yad (Mu n6 f6)).2]
 cases (bif bif bif decide (8<(n0:Int)) then true else decide (12<(n2:Int)) then true else decide (8<(n4:Int)) then true else decide (24<(n6:Int)))
 ·simp only [cond_false]
  cases h1:dw n0 (cR n0 f0)!=0
  ·simp only [cond_false]
   cases h2:dw n2 (cT f2)!=0
   ·simp only [cond_false]
    cases h3:dw n4 (cF f4)!=0
    ·simp only[cond_false]
     cases h4:dw n6 (cC n6 f6)!=0
     ·rfl
     ·rfl
    ·rfl
   ·rfl
  ·rfl
 ·rfl
theorem aeH (ts:List Ty) (f:Nat->List V):aa ts (aa ts f)=aa ts f:=by
 funext i;exact dz ts _
theorem Bn {n:Nat} {c:Nat->Int} (h:dw n c=0):∀ i,i<n->c i=0:=by
 unfold dw at h
 rcases Og (n:=n) (p:=fun i=>c i != 0) with ⟨_,h2⟩|⟨j,h1,h2,h3,_⟩
 ·intro i hi
  have:=h2 i hi
  simpa using this
 ·rw[h2]at h
  have:((j:Int)==-1)=false:=by rw[beq_eq_false_iff_ne];omega
  rw [this,cond_false,Int.toNat_natCast]at h
  rw [h]at h3;cases h3
section
variable {n0:Nat} {f0:Nat->List V} {n2:Nat} {f2:Nat->List V} {n4:Nat} {f4:Nat->List V} {n6:Nat} {f6:Nat->List V} {i j m l:Int}
structure aat (n0:Nat) (f0:aN) (n2:Nat) (f2:aN) (n4:Nat) (f4:aN) (n6:Nat) (f6:aN):Prop where
 l0:n0<=8
 l2:n2<=12
 l4:n4<=8
 l6:n6<=24
 rd:∀ i,i<n0->cR n0 f0 i=0
 tr:∀ i,i<n2->cT f2 i=0
 fr:∀ i,i<n4->cF f4 i=0
 cl:∀ i,i<n6->cC n6 f6 i=0
theorem js {n:Nat} {c:Nat->Int} {k:Int} {z:Int×Int×Int} (h:(wS n c k z).2.2=0):(∀ i,i<n->c i=0)/\z.2.2=0:=by
 unfold wS at h
 cases hb:dw n c != 0 with
 |true=>rw[hb]at h;simp only[cond_true]at h;rw[h]at hb;cases hb
 | false =>
   rw [hb]at h
   exact ⟨Bn (by simpa using hb),h⟩
theorem sH (h:ef n0 f0 n2 f2 n4 f4 n6 f6=0):aat n0 f0 n2 f2 n4 f4 n6 f6:=by
 unfold ef Zj at h
 cases hl:I5 n0 f0 n2 f2 n4 f4 n6 f6 with
 |true=>rw[hl]at h;cases h
 | false =>
   rw [hl,cond_false]at h
   obtain ⟨h1,h⟩:=js h
   unfold z1 at h
   obtain ⟨h2,h⟩:=js h
   unfold z2 at h
   obtain ⟨h3,h⟩:=js h
   unfold z3 at h
   obtain ⟨h4,_⟩:=js h
   unfold I5 at hl
   simp only [Bool.cond_eq_ite,Bool.ite_eq_false_distrib]at hl
   have:n0<=8/\n2<=12/\n4<=8/\n6<=24:=by
    refine ⟨?_,?_,?_,?_⟩<;>(apply Classical.byContradiction;intro hn)<;>simp_all<;>omega
   exact ⟨this.1,this.2.1,this.2.2.1,this.2.2.2,h1,h2,h3,h4⟩
def mP (i m:Int):Bool:=bif decide (i<0) then true else decide (m<=i)
def I8 (e i m:Int):Int:=bif e==0 then(bif mP i m then 4 else 0) else e
def ix2 (e i m j l:Int):Int:=bif e==0 then(bif bif mP i m then true else mP j l then 4 else 0) else e
theorem yX:g8 n0 f0 n2 f2 n4 f4 n6 f6=ef n0 f0 n2 f2 n4 f4 n6 f6:=congrArg (fun t=>t.2.2) (Q7 n0 f0 n2 f2 n4 f4 n6 f6)
theorem yo {i:Int} {m:Nat} (hm:m<=9223372036854775807):bq i 0 (wI ((m:Int)-1))=mP i m:=by
 unfold bq mP
 rw [wrapI (by omega) (by omega)]
 by_cases h:i<0
 ·rw[dqt h];rfl
 ·rw[gx h,cond_false,cond_false]
  by_cases g:(m:Int)<=i
  ·rw[dqt g];exact dqt (by omega)
  ·rw[gx g];exact gx (by omega)
theorem alj {i:Int} {m:Nat} (hm:ef n0 (aa aJ f0) n2 (aa aU f2) n4 (aa aV f4) n6 (aa aH f6)=0->m<=9223372036854775807) :
 jO n0 (aa aJ f0) n2 (aa aU f2) n4 (aa aV f4) n6 (aa aH f6) 2 (aa ae (bn [vi i,vi m] 0 1))=I8 (ef n0 (aa aJ f0) n2 (aa aU f2) n4 (aa aV f4) n6 (aa aH f6)) i m:=by
 unfold jO DN I8
 simp only [aeH,yX]
 cases he:ef n0 (aa aJ f0) n2 (aa aU f2) n4 (aa aV f4) n6 (aa aH f6)==0 with
 |false=>rfl
 | true =>
   rw [cond_true,cond_true]
   have:=hm (eq_of_beq he)
   rw [← yo this]
   show (bif !(true&&!bq i 0 (wI ((m:Int)-1))) then _ else _)=_
   rw [Bool.true_and,Bool.not_not]
theorem ap5 {i j:Int} {m l:Nat} (hm:ef n0 (aa aJ f0) n2 (aa aU f2) n4 (aa aV f4) n6 (aa aH f6)=0->m<=9223372036854775807/\l<=9223372036854775807) :
 jO n0 (aa aJ f0) n2 (aa aU f2) n4 (aa aV f4) n6 (aa aH f6) 4 (aa ae (bn [vi i,vi m,vi j,vi l] 0 1))=ix2 (ef n0 (aa aJ f0) n2 (aa aU f2) n4 (aa aV f4) n6 (aa aH f6)) i m j l:=by
 unfold jO DN ix2
 simp only [aeH,yX]
 cases he:ef n0 (aa aJ f0) n2 (aa aU f2) n4 (aa aV f4) n6 (aa aH f6)==0 with
 |false=>rfl
 | true =>
   rw [cond_true,cond_true]
   have:=hm (eq_of_beq he)
   rw [← yo this.1,← yo this.2]
   show (bif !((true&&!bq i 0 (wI ((m:Int)-1)))&&!bq j 0 (wI ((l:Int)-1))) then _ else _)=_
   cases bq i 0 (wI ((m:Int)-1))<;>cases bq j 0 (wI ((l:Int)-1))<;>rfl
theorem Ro {i m:Int}:cN n0 (aa aJ f0) n2 (aa aU f2) n4 (aa aV f4) n6 (aa aH f6) i m=I8 (ef n0 (aa aJ f0) n2 (aa aU f2) n4 (aa aV f4) n6 (aa aH f6)) i m:=by
 unfold cN pW I8 mP
 simp only [aeH]
 generalize ef n0 (aa aJ f0) n2 (aa aU f2) n4 (aa aV f4) n6 (aa aH f6)=e
 by_cases he:e=0
 ·subst he
  cases (bif decide (i<0) then true else decide (m<=i))<;>rfl
 ·rw[show(e==0)=false from by simpa using he];rfl
theorem AC (x8 x9:Int):xh n0 f0 n2 f2 n4 f4 n6 f6 x8 x9=r9 n0 f0 n2 f2 n4 f4 n6 f6 x8 x9/\A1 n0 f0 n2 f2 n4 f4 n6 f6 x8 x9=wD n0 f0 n2 f2 n4 f4 n6 f6 x8 x9:=by
 have hc:=ap5 (n0:=n0) (f0:=f0) (n2:=n2) (f2:=f2) (n4:=n4) (f4:=f4) (n6:=n6) (f6:=f6) (i:=x9) (j:=x8) (m:=n4) (l:=n6) (fun h=>⟨by have:=(sH h).l4;omega,by have:=(sH h).l6;omega⟩)
 have hd:=Ro (n0:=n0) (f0:=f0) (n2:=n2) (f2:=f2) (n4:=n4) (f4:=f4) (n6:=n6) (f6:=f6) (i:=x9) (m:=n4)
 unfold xh r9 A1 wD
 rw [show(Bt (ar (f4 x9.toNat)) (aQ (f4 x9.toNat)) (ca (f4 x9.toNat)) (bW (f4 x9.toNat)) (aQ (f6 x8.toNat)) (ca (f6 x8.toNat)))=yao (wI (ca (f4 x9.toNat)-ar (f4 x9.toNat))) (wI (bW (f4 x9.toNat)-aQ (f4 x9.toNat))) (wI (aQ (f6 x8.toNat)-ar (f4 x9.toNat))) (wI (ca (f6 x8.toNat)-aQ (f4 x9.toNat))) from rfl]
 rw [show jO n0 (aa aJ f0) n2 (aa aU f2) n4 (aa aV f4) n6 (aa aH f6) 4 (aa ae (bn [vi x9,vi n4,vi x8,vi n6] 0 1))=_ from hc]
 rw [show cN n0 (aa aJ f0) n2 (aa aU f2) n4 (aa aV f4) n6 (aa aH f6) x9 (n4:Int)=_ from hd]
 show (bif _ then false else decide (0<_))=(bif bif _ then mP x8 n6 else false then false else _)/\_=(bif bif _ then mP x8 n6 else false then _ else _)
 unfold I8 ix2
 generalize decide (0<yao _ _ _ _)=v
 generalize ef _ _ _ _ _ _ _ _=e
 generalize mP x8 _=b
 generalize mP x9 _=a
 by_cases he:e=0
 ·subst he;cases a<;>cases b<;>cases v<;>exact⟨rfl,rfl⟩
 ·rw[show(e==0)=false from by simpa using he]
  have:(e != 0)=true:=by simpa using he
  have h2:(e==0)=false:=by simpa using he
  simp only [cond_false,this,h2,cond_true,and_self]
end
end
end Go.Dx
namespace Go.Dx
open Go.IntKind (i64 u64 u8)
open Go.Sx Go.Proofs
variable (n0:Nat) (f0:aN) (x0 x1:Int) (n2:Nat) (f2:aN) (x2 x3 x4:Int) (n5:Nat) (f5:aN) (x5:Int) (n7:Nat) (f7:aN) (n9:Nat) (f9:aN) (n11:Nat) (f11:aN) (n13:Nat) (f13:aN) (n15:Nat) (f15:aN) (x17:Int)
noncomputable section
structure zr (n0:Nat) (f0:aN) (n2:Nat) (f2:aN):Prop where
 l0:n0<=10
 l2:n2<=20
 tb:∀ i,i<n0->gf (aa ak f0) i=0
 lm:∀ i,i<n2->jR n0 (aa ah f2) i=0
theorem uG {n0:Nat} {f0:Nat->List V} {n2:Nat} {f2:Nat->List V} (h:cg n0 f0 n2 f2=0):zr n0 f0 n2 f2:=by
 unfold cg vR at h
 cases hl:(bif decide (10<(n0:Int)) then true else decide (20<(n2:Int))) with
 |true=>rw[hl]at h;cases h
 | false =>
   rw [hl]at h
   obtain ⟨h1,h2⟩:=js h
   obtain ⟨h3,_⟩:=js h2
   have a:(decide (10<(n0:Int)))=false:=by cases hh:decide (10<(n0:Int)) with|false=>rfl|true=>rw[hh]at hl;cases hl
   rw [a]at hl
   have b:=of_decide_eq_false hl
   have a:=of_decide_eq_false a
   exact ⟨by omega,by omega,h1,h3⟩
theorem zj {x a b:Int} (h:aA x a b=true):a<=x/\x<=b:=by
 unfold aA at h
 cases h1:decide (a<=x) with
 |false=>rw[h1]at h;cases h
 |true=>rw[h1]at h;exact⟨of_decide_eq_true h1,of_decide_eq_true h⟩
theorem Kq {a b:Bool} (h:Ji a b=false):a=true/\b=true:=by
 unfold Ji at h
 cases a<;>cases b<;>first|exact⟨rfl,rfl⟩|cases h
def Fi (x:List V):Nat:=au (ap (ab (ab (ab x))))
def tR (x:List V):Nat->List V:=aX (ap (ab (ab (ab x))))
structure mU (x:List V):Prop where
 u:2<=au (ap (ab x))/\au (ap (ab x))<=12
 v:2<=au (ap (ab (ab x)))/\au (ap (ab (ab x)))<=12
 n:Fi x=au (ap (ab x))
 row:∀ i,i<Fi x->au (ap (tR x i))=au (ap (ab (ab x)))
 side:0<=db x/\db x<=10000000
 sky:0<=bf x/\bf x<=10000000
 val:∀ i,i<Fi x->∀ j,j<au (ap (tR x i))->0<=ar (aX (ap (tR x i)) j)/\ar (aX (ap (tR x i)) j)<=10000000
theorem jB {b:Bool} {k z:Int} (h:(bif b then k else z)=0) (hk:k≠0):b=false/\z=0:=by
 cases b with
 |true=>exact absurd h hk
 |false=>exact⟨rfl,h⟩
theorem notf {b:Bool} (h:(!b)=false):b=true:=by cases b<;>first|rfl|cases h
theorem abu {a b:Bool} (h:(a&&b)=true):a=true/\b=true:=by cases a<;>cases b<;>first|exact⟨rfl,rfl⟩|cases h
theorem apY {n:Nat} {p:Nat->Bool} (h:jh n p=false):∀ i,i<n->p i=false:=fun i hi=>by
 cases hp:p i with
 |false=>rfl
 |true=>rw[cn i hi hp]at h;cases h
theorem Cw {f0:Nat->List V} {a:Nat} (h:gf (aa ak f0) a=0):mU (f0 a):=by
 unfold gf at h
 obtain ⟨_,h⟩:=jB h (by decide)
 obtain ⟨_,h⟩:=jB h (by decide)
 unfold CJ at h
 obtain ⟨h1,h⟩:=jB h (by decide)
 obtain ⟨_,h⟩:=jB h (by decide)
 obtain ⟨_,h⟩:=jB h (by decide)
 obtain ⟨h2,h⟩:=jB h (by decide)
 obtain ⟨h3,h⟩:=jB h (by decide)
 obtain ⟨h4,_⟩:=jB h (by decide)
 obtain ⟨u,v⟩:=Kq h1
 have u:=zj u
 have v:=zj v
 have g:ku (db (f0 a)) (bf (f0 a))=true:=(abu (notf h4)).1
 have w:cz (Fi (f0 a)) (gG (au (ap (ab (ab (f0 a))))) (aa [.sl ae] (tR (f0 a))))=true:=(abu (notf h4)).2
 have row:∀ i,i<Fi (f0 a)->au (ap (tR (f0 a) i))=au (ap (ab (ab (f0 a)))):=fun i hi=>by
  have:=apY h3 i hi
  have:((au (ap (tR (f0 a) i)):Int)!=(au (ap (ab (ab (f0 a)))):Int))=false:=this
  have:=eq_of_beq (by simpa using this:((au (ap (tR (f0 a) i)):Int)==(au (ap (ab (ab (f0 a)))):Int))=true)
  omega
 unfold ku at g
 have g1:aA (db (f0 a)) 0 10000000=true:=by
  cases hh:aA (db (f0 a)) 0 10000000 with
  |true=>rfl
  |false=>rw[hh]at g;cases g
 rw [g1]at g
 exact ⟨⟨by have:=u.1;exact Int.ofNat_le.1 this,by have:=u.2;exact Int.ofNat_le.1 this⟩,⟨by have:=v.1;exact Int.ofNat_le.1 this,by have:=v.2;exact Int.ofNat_le.1 this⟩,
  by have:((Fi (f0 a):Int)!=(au (ap (ab (f0 a))):Int))=false:=h2
     have:=eq_of_beq (by simpa using this:((Fi (f0 a):Int)==(au (ap (ab (f0 a))):Int))=true)
     omega,
  row,zj g1,zj g,fun i hi j hj=>by
   rw [row i hi]at hj
   exact zj (cS (cS w i hi) j hj)⟩
structure af1 (n0:Nat) (x:List V):Prop where
 t:0<=aQ x/\aQ x<n0
 kind:1<=ca x/\ca x<=3
 lum:1<=bW x/\bW x<=1000000
theorem PX {n0:Nat} {f2:Nat->List V} {a:Nat} (hn:n0<=10) (h:jR n0 (aa ah f2) a=0):af1 n0 (f2 a):=by
 unfold jR at h
 obtain ⟨_,h⟩:=jB h (by decide)
 obtain ⟨_,h⟩:=jB h (by decide)
 unfold OQ IG at h
 obtain ⟨h1,h⟩:=jB h (by decide)
 obtain ⟨h2,h⟩:=jB h (by decide)
 obtain ⟨h3,h⟩:=jB h (by decide)
 have h1:=zj (notf h1:aA (aQ (f2 a)) 0 (wI ((n0:Int)-1))=true)
 have h2:=zj (notf h2:aA (ca (f2 a)) 1 3=true)
 have h3:=zj ((abu (notf h3)).1:aA (bW (f2 a)) 1 1000000=true)
 rw [wrapI (by omega) (by omega)]at h1
 exact ⟨⟨h1.1,by omega⟩,h2,h3⟩
def Hd (dx dy:Int):Prop:=(-1000<=dx/\dx<=1000)/\(-1000<=dy/\dy<=1000)/\(dx≠0∨dy≠0)
def Bd (x:Int):Prop:=-1000000000<=x/\x<=1000000000
theorem Sk {a b:Int} (ha:Bd a) (hb:-1000<=b/\b<=1000):-1000000000000<=a*b/\a*b<=1000000000000:=by
 unfold Bd at ha
 have h:=Nat.mul_le_mul (show a.natAbs<=1000000000 by omega) (show b.natAbs<=1000 by omega)
 rw [← Int.natAbs_mul]at h
 omega
theorem sqB {a:Int} (ha:-1000<=a/\a<=1000):0<=a*a/\a*a<=1000000/\(a≠0->1<=a*a):=by
 have h:=Nat.mul_le_mul (show a.natAbs<=1000 by omega) (show a.natAbs<=1000 by omega)
 rw [← Int.natAbs_mul_self' a]
 refine ⟨by omega,by omega,fun h0=>?_⟩
 have:1<=a.natAbs*a.natAbs:=Nat.mul_le_mul (show 1<=a.natAbs by omega) (show 1<=a.natAbs by omega)
 omega
theorem hdS {dx dy:Int} (h:Hd dx dy):1<=bL dx dy/\bL dx dy<=2000000:=by
 obtain ⟨a,b,c⟩:=h
 have h1:=sqB a
 have h2:=sqB b
 unfold bL
 rw [wrapI (x:=dx*dx) (by omega) (by omega),wrapI (x:=dy*dy) (by omega) (by omega),wrapI (by omega) (by omega)]
 rcases c with c|c
 ·have:=h1.2.2 c;omega
 ·have:=h2.2.2 c;omega
theorem ti (x:Int):bR x=d7 x:=by unfold bR d7;omega
theorem TW {n:Nat}:eJ n<=n:=by
 have h:=(nL n).1
 cases hr:eJ n with
 |zero=>omega
 | succ k =>
   rw [hr]at h
   have:=Nat.mul_le_mul (show 1<=k+1 by omega) (Nat.le_refl (k+1))
   omega
theorem P3 {n:Nat} (h:1<=n):1<=eJ n:=by
 have h2:=(nL n).2
 cases hr:eJ n with
 |zero=>rw[hr]at h2;omega
 |succ k=>omega
theorem tj {x:Int} (h:x<=3999999999999999999):dO x=dA x:=by
 unfold dO dA jP l9
 rw [show min x 4611686018427387903=x by omega,show min x 3999999999999999999=x by omega]
theorem Jk {x:Int} (h:x<=3999999999999999999):c9 x=cW x:=by
 unfold c9 cW
 rw [tj h]
theorem AJ {x:Int} (h1:1<=x):1<=dA x/\dA x<=3999999999999999999:=by
 unfold dA
 have a:=P3 (n:=l9 x) (by unfold l9;omega)
 have b:=TW (n:=l9 x)
 have:l9 x<=3999999999999999999:=by unfold l9;omega
 omega
theorem adF {x:Int} (h1:1<=x):1<=cW x:=by
 have:=AJ h1
 unfold cW
 cases decide (wI (dA x*dA x)<x) with
 |true=>show 1<=wI (dA x+1);rw[wrapI (by omega) (by omega)];omega
 |false=>exact this.1
theorem rts {s:Int} (h:1<=s/\s<=2000000):PL s:=by
 unfold PL
 rw [wrapI (x:=1000000*s) (by omega) (by omega)]
 exact ⟨fun h0=>by have:=adF (x:=1000000*s) (by omega);omega,fun h0=>by have:=(AJ (x:=1000000*s) (by omega)).1;omega⟩
def GU (x:Int):Prop:=-2000000000000<=x/\x<=2000000000000
theorem oG {a:Int} (h:GU a):wI (1000*a)=1000*a:=by unfold GU at h;exact wrapI (by omega) (by omega)
section
variable {a b c d s:Int} (ha:GU a) (hb:GU b) (hc:GU c) (hd:GU d) (hs:1<=s/\s<=2000000)
include a b c d s ha hb hc hd hs
theorem yaN :
 (bif decide (min (min (min (min (wI (1000*a)) (wI (1000*a))) (wI (1000*b))) (wI (1000*c))) (wI (1000*d))<0)
   then bR (cP (min (min (min (min (wI (1000*a)) (wI (1000*a))) (wI (1000*b))) (wI (1000*c))) (wI (1000*d))) (dO (wI (1000000*s))))
   else bR (cP (min (min (min (min (wI (1000*a)) (wI (1000*a))) (wI (1000*b))) (wI (1000*c))) (wI (1000*d))) (c9 (wI (1000000*s)))))=qlo (min (min (min (min a a) c) b) d) s:=by
 have hm:GU (min (min (min (min a a) c) b) d):=by unfold GU at *;omega
 rw [oG ha,oG hb,oG hc,oG hd]
 unfold qlo
 rw [oG hm,ti,ti,tj (by rw[wrapI (by omega) (by omega)];omega),Jk (by rw[wrapI (by omega) (by omega)];omega)]
 rw [show min (min (min (min (1000*a) (1000*a)) (1000*b)) (1000*c)) (1000*d)=1000*min (min (min (min a a) c) b) d by omega]
 rw [show decide (1000*min (min (min (min a a) c) b) d<0)=decide (min (min (min (min a a) c) b) d<0) from decide_eq_decide.2 (by omega)]
 rfl
theorem KX :
 (bif decide (max (max (max (max (wI (1000*a)) (wI (1000*a))) (wI (1000*b))) (wI (1000*c))) (wI (1000*d))<0)
   then bR (cH (max (max (max (max (wI (1000*a)) (wI (1000*a))) (wI (1000*b))) (wI (1000*c))) (wI (1000*d))) (c9 (wI (1000000*s))))
   else bR (cH (max (max (max (max (wI (1000*a)) (wI (1000*a))) (wI (1000*b))) (wI (1000*c))) (wI (1000*d))) (dO (wI (1000000*s)))))=qhi (max (max (max (max a a) c) b) d) s:=by
 have hm:GU (max (max (max (max a a) c) b) d):=by unfold GU at *;omega
 rw [oG ha,oG hb,oG hc,oG hd]
 unfold qhi
 rw [oG hm,ti,ti,tj (by rw[wrapI (by omega) (by omega)];omega),Jk (by rw[wrapI (by omega) (by omega)];omega)]
 rw [show max (max (max (max (1000*a) (1000*a)) (1000*b)) (1000*c)) (1000*d)=1000*max (max (max (max a a) c) b) d by omega]
 rw [show decide (1000*max (max (max (max a a) c) b) d<0)=decide (max (max (max (max a a) c) b) d<0) from decide_eq_decide.2 (by omega)]
 rfl
end
theorem Yv {dx dy x y:Int} (h:Hd dx dy) (hx:Bd x) (hy:Bd y):GU (wI (wI (x*dy)-wI (y*dx))):=by
 have h1:=Sk hx h.2.1
 have h2:=Sk hy h.1
 unfold GU
 rw [wrapI (x:=x*dy) (by omega) (by omega),wrapI (x:=y*dx) (by omega) (by omega),wrapI (by omega) (by omega)]
 omega
theorem Yo {dx dy x y:Int} (h:Hd dx dy) (hx:Bd x) (hy:Bd y):GU (wI (wI (x*dx)+wI (y*dy))):=by
 have h1:=Sk hx h.1
 have h2:=Sk hy h.2.1
 unfold GU
 rw [wrapI (x:=x*dx) (by omega) (by omega),wrapI (x:=y*dy) (by omega) (by omega),wrapI (by omega) (by omega)]
 omega
def F1:bj:=(191,.con Qf)::FU
theorem C2:aW Tryz.prog eqs its F1:=.con Js (C7)
theorem Ym {ts:List Ty} {ds:List V} (h:al ts ds=ds):jL ts ds []=jM ts ds []:=by
 have:=fj ts ds []
 rw [h]at this
 exact this
theorem fl4 (a b c d:Int):aa ae (jy (bG 3 (bG 2 (bG 1 (fun _=>[vi a]) fun _=>[vi b]) fun _=>[vi c]) fun _=>[vi d]))=jy (bG 3 (bG 2 (bG 1 (fun _=>[vi a]) fun _=>[vi b]) fun _=>[vi c]) fun _=>[vi d]):=by
 funext i
 unfold aa jy bG
 cases Nat.blt i 3<;>cases Nat.blt i 2<;>cases Nat.blt i 1<;>rfl
def Zc:RT Empty:=.brt (.obt (.brf (.obt (.brf (.obt (.obt (.obt (.obt (.brt (.obt (.brt (.obt (.brf (.obt (.obt (.obt (.obt (.brt (.obt (.brf (.obt (.brt (.obt (.obt (.obt (.obt (.brt (.obt (.brt (.obt (.brt (.obt (.obt (.obt (.obt (.brf (.obe ([Ty.sl ae,tI]) ([V.sl 4 (jy (bG 3 (bG 2 (bG 1 (fun x=>[vi (wI (wI (x0*x5)-wI (x2*x4)))]) fun x=>[vi (wI (wI (x1*x5)-wI (x2*x4)))]) fun x=>[vi (wI (wI (x0*x5)-wI (x3*x4)))]) fun x=>[vi (wI (wI (x1*x5)-wI (x3*x4)))])),vi (wI (wI (x4*x4)+wI (x5*x5)))]) (.obp ((1:Nat)<=(4:Nat)/\(cW (wI ((1000000:Int)*wI (wI (x4*x4)+wI (x5*x5))))=(0:Int)->False)/\(dA (wI ((1000000:Int)*wI (wI (x4*x4)+wI (x5*x5))))=(0:Int)->False)) (.obt (.obt (.obe ([Ty.sl ae,tI]) ([V.sl 4 (jy (bG 3 (bG 2 (bG 1 (fun x=>[vi (wI (wI (x0*x4)+wI (x2*x5)))]) fun x=>[vi (wI (wI (x1*x4)+wI (x2*x5)))]) fun x=>[vi (wI (wI (x0*x4)+wI (x3*x5)))]) fun x=>[vi (wI (wI (x1*x4)+wI (x3*x5)))])),vi (wI (wI (x4*x4)+wI (x5*x5)))]) (.obp ((1:Nat)<=(4:Nat)/\(cW (wI ((1000000:Int)*wI (wI (x4*x4)+wI (x5*x5))))=(0:Int)->False)/\(dA (wI ((1000000:Int)*wI (wI (x4*x4)+wI (x5*x5))))=(0:Int)->False)) (.obt (.obt (.ret (V.agg [vi (fK 4 (jy (bG 3 (bG 2 (bG 1 (fun x=>[vi (wI (wI (x0*x5)-wI (x2*x4)))]) fun x=>[vi (wI (wI (x1*x5)-wI (x2*x4)))]) fun x=>[vi (wI (wI (x0*x5)-wI (x3*x4)))]) fun x=>[vi (wI (wI (x1*x5)-wI (x3*x4)))])) (wI (wI (x4*x4)+wI (x5*x5)))),vi (fN 4 (jy (bG 3 (bG 2 (bG 1 (fun x=>[vi (wI (wI (x0*x5)-wI (x2*x4)))]) fun x=>[vi (wI (wI (x1*x5)-wI (x2*x4)))]) fun x=>[vi (wI (wI (x0*x5)-wI (x3*x4)))]) fun x=>[vi (wI (wI (x1*x5)-wI (x3*x4)))])) (wI (wI (x4*x4)+wI (x5*x5)))),vi (fK 4 (jy (bG 3 (bG 2 (bG 1 (fun x=>[vi (wI (wI (x0*x4)+wI (x2*x5)))]) fun x=>[vi (wI (wI (x1*x4)+wI (x2*x5)))]) fun x=>[vi (wI (wI (x0*x4)+wI (x3*x5)))]) fun x=>[vi (wI (wI (x1*x4)+wI (x3*x5)))])) (wI (wI (x4*x4)+wI (x5*x5)))),vi (fN 4 (jy (bG 3 (bG 2 (bG 1 (fun x=>[vi (wI (wI (x0*x4)+wI (x2*x5)))]) fun x=>[vi (wI (wI (x1*x4)+wI (x2*x5)))]) fun x=>[vi (wI (wI (x0*x4)+wI (x3*x5)))]) fun x=>[vi (wI (wI (x1*x4)+wI (x3*x5)))])) (wI (wI (x4*x4)+wI (x5*x5))))]))))))))))))))))))))))))))))))))))))))))))))))
theorem WX:cJ cL (aP JJ F1 uu5 adh [vi x0,vi x1,vi x2,vi x3,vi x4,vi x5]) (Zc x0 x1 x2 x3 x4 x5):=⟨by kernel_rfl,by kernel_rfl⟩
def iU:Int:=fK 4 (jy (bG 3 (bG 2 (bG 1 (fun x=>[vi (wI (wI (x0*x5)-wI (x2*x4)))]) fun x=>[vi (wI (wI (x1*x5)-wI (x2*x4)))]) fun x=>[vi (wI (wI (x0*x5)-wI (x3*x4)))]) fun x=>[vi (wI (wI (x1*x5)-wI (x3*x4)))])) (wI (wI (x4*x4)+wI (x5*x5)))
def ja:Int:=fN 4 (jy (bG 3 (bG 2 (bG 1 (fun x=>[vi (wI (wI (x0*x5)-wI (x2*x4)))]) fun x=>[vi (wI (wI (x1*x5)-wI (x2*x4)))]) fun x=>[vi (wI (wI (x0*x5)-wI (x3*x4)))]) fun x=>[vi (wI (wI (x1*x5)-wI (x3*x4)))])) (wI (wI (x4*x4)+wI (x5*x5)))
def iW:Int:=fK 4 (jy (bG 3 (bG 2 (bG 1 (fun x=>[vi (wI (wI (x0*x4)+wI (x2*x5)))]) fun x=>[vi (wI (wI (x1*x4)+wI (x2*x5)))]) fun x=>[vi (wI (wI (x0*x4)+wI (x3*x5)))]) fun x=>[vi (wI (wI (x1*x4)+wI (x3*x5)))])) (wI (wI (x4*x4)+wI (x5*x5)))
def i4:Int:=fN 4 (jy (bG 3 (bG 2 (bG 1 (fun x=>[vi (wI (wI (x0*x4)+wI (x2*x5)))]) fun x=>[vi (wI (wI (x1*x4)+wI (x2*x5)))]) fun x=>[vi (wI (wI (x0*x4)+wI (x3*x5)))]) fun x=>[vi (wI (wI (x1*x4)+wI (x3*x5)))])) (wI (wI (x4*x4)+wI (x5*x5)))
def yaY:V:=.agg [vi (iU x0 x1 x2 x3 x4 x5),vi (ja x0 x1 x2 x3 x4 x5),vi (iW x0 x1 x2 x3 x4 x5),vi (i4 x0 x1 x2 x3 x4 x5)]
theorem afB (hp:PL (wI (wI (x4*x4)+wI (x5*x5)))):aR cq (Zc x0 x1 x2 x3 x4 x5) (yaY x0 x1 x2 x3 x4 x5):=ec (evObt (lZ (evObt (lZ (evObt (evObt (evObt (evObt (ec (evObt (ec (evObt (lZ (evObt (evObt (evObt (evObt (ec (evObt (lZ (evObt (ec (evObt (evObt (evObt (evObt (ec (evObt (ec (evObt (ec (evObt (evObt (evObt (evObt (lZ (ZW (by exact Ym (congrArg (fun f=>[V.sl 4 f,_]) (fl4 ..))) (evObp (by first|assumption|(exact⟨by decide,hp⟩)) (evObt (evObt (ZW (by exact Ym (congrArg (fun f=>[V.sl 4 f,_]) (fl4 ..))) (evObp (by first|assumption|(exact⟨by decide,hp⟩)) (evObt (evObt (evRet (by unfold yaY iU ja iW i4;rfl))))))))))))))))))))))))))))))))))))))))))))))
def LN:aB:=bF [tI,tI,tI,tI,tI,tI] (fun
 |[.int _ x0,.int _ x1,.int _ x2,.int _ x3,.int _ x4,.int _ x5]=>PL (wI (wI (x4*x4)+wI (x5*x5)))
 |_=>False) fun
 |[.int _ x0,.int _ x1,.int _ x2,.int _ x3,.int _ x4,.int _ x5]=>yaY x0 x1 x2 x3 x4 x5
 |_=>.any
theorem MG:(vP LN).Ok Tryz.prog 151:=bV C2 Tryz.func151 (by kernel_rfl) fun ds hp=>cQ (WX ..) (afB _ _ _ _ _ _ hp)
def ZT:RT Empty:=.cb (.cb (.cb (.obp ((c9 (wI ((1000000:Int)*bL x0 x1))=(0:Int)->False)/\(dO (wI ((1000000:Int)*bL x0 x1))=(0:Int)->False)) (.obt (.obp ((c9 (wI ((1000000:Int)*bL x0 x1))=(0:Int)->False)/\(dO (wI ((1000000:Int)*bL x0 x1))=(0:Int)->False)) (.obt (.ret (V.agg [vi (gZ x0 x1 x2 x4 x2 x5 x3 x4 x3 x5 (c9 (wI (1000000*bL x0 x1))) (dO (wI (1000000*bL x0 x1)))),vi (hM x0 x1 x2 x4 x2 x5 x3 x4 x3 x5 (c9 (wI (1000000*bL x0 x1))) (dO (wI (1000000*bL x0 x1)))),vi (hJ x0 x1 x2 x4 x2 x5 x3 x4 x3 x5 (c9 (wI (1000000*bL x0 x1))) (dO (wI (1000000*bL x0 x1)))),vi (ic x0 x1 x2 x4 x2 x5 x3 x4 x3 x5 (c9 (wI (1000000*bL x0 x1))) (dO (wI (1000000*bL x0 x1))))]))))))))
theorem VN:cJ cL (aP JJ F1 u0 zK [V.agg [vi x0,vi x1],vi x2,vi x3,vi x4,vi x5]) (ZT x0 x1 x2 x3 x4 x5):=⟨by kernel_rfl,by kernel_rfl⟩
def anS:Int:=gZ x0 x1 x2 x4 x2 x5 x3 x4 x3 x5 (c9 (wI (1000000*bL x0 x1))) (dO (wI (1000000*bL x0 x1)))
def aoi:Int:=hM x0 x1 x2 x4 x2 x5 x3 x4 x3 x5 (c9 (wI (1000000*bL x0 x1))) (dO (wI (1000000*bL x0 x1)))
def anU:Int:=hJ x0 x1 x2 x4 x2 x5 x3 x4 x3 x5 (c9 (wI (1000000*bL x0 x1))) (dO (wI (1000000*bL x0 x1)))
def anJ:Int:=ic x0 x1 x2 x4 x2 x5 x3 x4 x3 x5 (c9 (wI (1000000*bL x0 x1))) (dO (wI (1000000*bL x0 x1)))
theorem apF {x0 x1 x2 x3 x4 x5:Int} (hd:Hd x0 x1) (h2:Bd x2) (h3:Bd x3) (h4:Bd x4) (h5:Bd x5):gZ x0 x1 x2 x4 x2 x5 x3 x4 x3 x5 (c9 (wI (1000000*bL x0 x1))) (dO (wI (1000000*bL x0 x1)))=iU x2 x3 x4 x5 x0 x1:=yaN (Yv hd h2 h4) (Yv hd h2 h5) (Yv hd h3 h4) (Yv hd h3 h5) (hdS hd)
theorem apZ {x0 x1 x2 x3 x4 x5:Int} (hd:Hd x0 x1) (h2:Bd x2) (h3:Bd x3) (h4:Bd x4) (h5:Bd x5):hM x0 x1 x2 x4 x2 x5 x3 x4 x3 x5 (c9 (wI (1000000*bL x0 x1))) (dO (wI (1000000*bL x0 x1)))=ja x2 x3 x4 x5 x0 x1:=KX (Yv hd h2 h4) (Yv hd h2 h5) (Yv hd h3 h4) (Yv hd h3 h5) (hdS hd)
theorem aqc {x0 x1 x2 x3 x4 x5:Int} (hd:Hd x0 x1) (h2:Bd x2) (h3:Bd x3) (h4:Bd x4) (h5:Bd x5):hJ x0 x1 x2 x4 x2 x5 x3 x4 x3 x5 (c9 (wI (1000000*bL x0 x1))) (dO (wI (1000000*bL x0 x1)))=iW x2 x3 x4 x5 x0 x1:=yaN (Yo hd h2 h4) (Yo hd h2 h5) (Yo hd h3 h4) (Yo hd h3 h5) (hdS hd)
theorem aqo {x0 x1 x2 x3 x4 x5:Int} (hd:Hd x0 x1) (h2:Bd x2) (h3:Bd x3) (h4:Bd x4) (h5:Bd x5):ic x0 x1 x2 x4 x2 x5 x3 x4 x3 x5 (c9 (wI (1000000*bL x0 x1))) (dO (wI (1000000*bL x0 x1)))=i4 x2 x3 x4 x5 x0 x1:=KX (Yo hd h2 h4) (Yo hd h2 h5) (Yo hd h3 h4) (Yo hd h3 h5) (hdS hd)
theorem abU (hp:Hd x0 x1/\Bd x2/\Bd x3/\Bd x4/\Bd x5):aR cq (ZT x0 x1 x2 x3 x4 x5) (.agg [vi (iU x2 x3 x4 x5 x0 x1),vi (ja x2 x3 x4 x5 x0 x1),vi (iW x2 x3 x4 x5 x0 x1),vi (i4 x2 x3 x4 x5 x0 x1)]):=by
 obtain ⟨hd,h2,h3,h4,h5⟩:=hp
 have hs:=hdS hd
 have hr:=rts hs
 have hw:wI (1000000*bL x0 x1)<=3999999999999999999:=by rw[wrapI (by omega) (by omega)];omega
 unfold PL at hr
 rw [← Jk hw,← tj hw]at hr
 exact aw (evObt (aw (evObt (aw (evObt (evObp hr (evObt (evObp hr (evObt (evRet (by rw[apF hd h2 h3 h4 h5,apZ hd h2 h3 h4 h5,aqc hd h2 h3 h4 h5,aqo hd h2 h3 h4 h5])))))))))))
def Nl:aB:=bF [.agg bZ,tI,tI,tI,tI] (fun
 |[.agg [.int _ x0,.int _ x1],.int _ x2,.int _ x3,.int _ x4,.int _ x5]=>Hd x0 x1/\Bd x2/\Bd x3/\Bd x4/\Bd x5
 |_=>False) fun
 |[.agg [.int _ x0,.int _ x1],.int _ x2,.int _ x3,.int _ x4,.int _ x5]=>.agg [vi (iU x2 x3 x4 x5 x0 x1),vi (ja x2 x3 x4 x5 x0 x1),vi (iW x2 x3 x4 x5 x0 x1),vi (i4 x2 x3 x4 x5 x0 x1)]
 |_=>.any
theorem NT:(vP Nl).Ok Tryz.prog 125:=bV C2 Tryz.func125 (by kernel_rfl) fun ds hp=>cQ (VN ..) (abU _ _ _ _ _ _ hp)
def Kg:bj:=(151,.con LN)::(125,.con Nl)::F1
theorem Qw:aW Tryz.prog eqs its Kg:=.con MG (.con NT (C2))
theorem sO {v:Int} {n:Nat} (h:(!ci v (-1) (wI ((n:Int)-1)))=false) (h2:decide (0<=v)=true) (hn:true=true->n<=9223372036854775807):decide (0<=v/\v<(n:Int))=true:=by
 have:=zj (x:=v) (notf h)
 have hn:=hn rfl
 rw [wrapI (by omega) (by omega)]at this
 have:=of_decide_eq_true h2
 exact dqt (by omega)
def abP (x:Int):Prop:=(0<=x/\x<n13)/\(0<=x/\x<n15)/\∀ i:Nat,i<n2->0<=aQ (f2 i)/\aQ (f2 i)<n0
theorem wu {n0 n2:Nat} {f2:Nat->List V} {n13 n15:Nat} {x v:Int} (h:abP n0 n2 f2 n13 n15 x) (hv:decide (0<=v/\v<(n2:Int))=true):decide (0<=aQ (f2 v.toNat)/\aQ (f2 v.toNat)<(n0:Int))=true:=by
 have:=of_decide_eq_true hv
 exact dqt (h.2.2 v.toNat (by omega))
def ZX:RT Empty:=dm (x4,n5,f5,n7,f7,n9,f9,n11,f11) (.ob (dI x17 n13) (.ob (dI x17 n15) (.am n2 (.cb (.br (!ci (ar (f13 x17.toNat)) (-1) (wI ((↑n2:Int)-1))) (.ret (vi 4)) (.cb (.obi (.br (!!ci (ar (f15 x17.toNat)) 0 200000) (.ob (!!ci (ar (f15 x17.toNat)) 0 200000) (.cb (.obi (.br (!!ci (aQ (f15 x17.toNat)) 0 600) (.ob (!!ci (aQ (f15 x17.toNat)) 0 600) (.cb (.br (!ci (ca (f15 x17.toNat)) 0 1000) (.ret (vi 7)) (.br (decide (0<=ar (f13 x17.toNat))) (.ob (dI (ar (f13 x17.toNat)) n2) (.ob (dI (aQ (f2 (ar (f13 x17.toNat)).toNat)) n0) (.cb (.br (decide (100000000000<wI (max (ma (au (ap (ab (ab (ab (f0 (aQ (f2 (ar (f13 x17.toNat)).toNat)).toNat)))))) (fun i=>al [Ty.sl ae] (aX (ap (ab (ab (ab (f0 (aQ (f2 (ar (f13 x17.toNat)).toNat)).toNat))))) i)) (db (f0 (aQ (f2 (ar (f13 x17.toNat)).toNat)).toNat))) (bf (f0 (aQ (f2 (ar (f13 x17.toNat)).toNat)).toNat))*bW (f2 (ar (f13 x17.toNat)).toNat)))) (.ret (vi 7)) (.ret (vi 0)))))) (.ret (vi 0)))))) (.ret (vi 7)))))) (.ret (vi 7))))))))))
theorem Sj:cJ cL (aP JJ Kg u0 aeS [V.agg [V.sl n0 (aa ak f0),V.sl n2 (aa ah f2),vi x4,V.sl n5 (aa aJ f5),V.sl n7 (aa aU f7),V.sl n9 (aa aV f9),V.sl n11 (aa aH f11),V.sl n13 (aa ae f13),V.sl n15 (aa bQ f15)],vi x17]) (ZX n0 f0 n2 f2 x4 n5 f5 n7 f7 n9 f9 n11 f11 n13 f13 n15 f15 x17):=⟨by kernel_rfl,by kernel_rfl⟩
def fl:Int:=bif !ci (ar (f13 x17.toNat)) (-1) (wI ((↑n2:Int)-1)) then 4 else bif !!ci (ar (f15 x17.toNat)) 0 200000 then bif !!ci (aQ (f15 x17.toNat)) 0 600 then bif !ci (ca (f15 x17.toNat)) 0 1000 then 7 else bif decide (0<=ar (f13 x17.toNat)) then bif decide (100000000000<wI (max (ma (au (ap (ab (ab (ab (f0 (aQ (f2 (ar (f13 x17.toNat)).toNat)).toNat)))))) (fun i=>al [Ty.sl ae] (aX (ap (ab (ab (ab (f0 (aQ (f2 (ar (f13 x17.toNat)).toNat)).toNat))))) i)) (db (f0 (aQ (f2 (ar (f13 x17.toNat)).toNat)).toNat))) (bf (f0 (aQ (f2 (ar (f13 x17.toNat)).toNat)).toNat))*bW (f2 (ar (f13 x17.toNat)).toNat))) then 7 else 0 else 0 else 7 else 7
def qC:V:=dm (n0,x4,n5,f5,n7,f7,n9,f9,n11,f11,n13,n15) (vi (fl f0 n2 f2 f13 f15 x17))
theorem ahI (hp:abP n0 n2 f2 n13 n15 x17):aR cq (ZX n0 f0 n2 f2 x4 n5 f5 n7 f7 n9 f9 n11 f11 n13 f13 n15 f15 x17) (qC n0 f0 n2 f2 x4 n5 f5 n7 f7 n9 f9 n11 f11 n13 f13 n15 f15 x17):=aE (by first|assumption|(first|exact dqt hp.1|exact dqt hp.2.1|exact sO h0 h4 a0|exact wu hp (sO h0 h4 a0))) (aE (by first|assumption|(first|exact dqt hp.1|exact dqt hp.2.1|exact sO h0 h4 a0|exact wu hp (sO h0 h4 a0))) (evAsm (fun a0=>aw (evObt (evBr (fun h0=>evRet (by unfold qC fl;try rw[h0];rfl)) (fun h0=>aw (evObt (evObi (evBr (fun h1=>aE (by first|assumption|(first|exact dqt hp.1|exact dqt hp.2.1|exact sO h0 h4 a0|exact wu hp (sO h0 h4 a0))) (aw (evObt (evObi (evBr (fun h2=>aE (by first|assumption|(first|exact dqt hp.1|exact dqt hp.2.1|exact sO h0 h4 a0|exact wu hp (sO h0 h4 a0))) (aw (evObt (evBr (fun h3=>evRet (by unfold qC fl;try rw[h0];try rw[h1];try rw[h2];try rw[h3];rfl)) (fun h3=>evBr (fun h4=>aE (by first|assumption|(first|exact dqt hp.1|exact dqt hp.2.1|exact sO h0 h4 a0|exact wu hp (sO h0 h4 a0))) (aE (by first|assumption|(first|exact dqt hp.1|exact dqt hp.2.1|exact sO h0 h4 a0|exact wu hp (sO h0 h4 a0))) (aw (evObt (evBr (fun h5=>evRet (by unfold qC fl;try rw[h0];try rw[h1];try rw[h2];try rw[h3];try rw[h4];try rw[h5];rfl)) (fun h5=>evRet (by unfold qC fl;try rw[h0];try rw[h1];try rw[h2];try rw[h3];try rw[h4];try rw[h5];rfl))))))) (fun h4=>evRet (by unfold qC fl;try rw[h0];try rw[h1];try rw[h2];try rw[h3];try rw[h4];rfl))))))) (fun h2=>evRet (by unfold qC fl;try rw[h0];try rw[h1];try rw[h2];rfl))))))) (fun h1=>evRet (by unfold qC fl;try rw[h0];try rw[h1];rfl)))))))))))
def Ru:aB:=bF [.agg [.sl ak,.sl ah,tI,.sl aJ,.sl aU,.sl aV,.sl aH,.sl ae,.sl bQ],tI] (fun
 |[.agg [.sl n0 f0,.sl n2 f2,.int _ x4,.sl n5 f5,.sl n7 f7,.sl n9 f9,.sl n11 f11,.sl n13 f13,.sl n15 f15],.int _ x17]=>abP n0 n2 f2 n13 n15 x17
 |_=>False) fun
 |[.agg [.sl n0 f0,.sl n2 f2,.int _ x4,.sl n5 f5,.sl n7 f7,.sl n9 f9,.sl n11 f11,.sl n13 f13,.sl n15 f15],.int _ x17]=>qC n0 f0 n2 f2 x4 n5 f5 n7 f7 n9 f9 n11 f11 n13 f13 n15 f15 x17
 |_=>.any
theorem Lz:(vP Ru).Ok Tryz.prog 67:=bV Qw Tryz.func67 (by kernel_rfl) fun ds hp=>cQ (Sj ..) (ahI _ _ _ _ _ _ _ _ _ _ _ _ _ _ _ _ _ _ hp)
theorem HI {p:Nat->Int} {z:Int}:∀ k:Nat,1<=k->yc p z k=max z (yc p (p 0) k)
 |0,h=>absurd h (by decide)
 |1,_=>by show max z (p 0)=max z (max (p 0) (p 0));rw[Int.max_self]
 | k+2,_=>by
   show max (yc p z (k+1)) (p (k+1))=max z (max (yc p (p 0) (k+1)) (p (k+1)))
   rw [HI (k+1) (by omega),Int.max_assoc]
theorem to {n5:Nat} {f5:Nat->List V} {z:Int} (h:∀ i,i<n5->1<=au (ap (f5 i))):nT n5 f5 z=ma n5 f5 z:=by
 unfold nT ma
 have:∀ k,k<=n5->yc (fun i=>Ax f5 i) z k=grR f5 z k:=fun k=>by
  induction k with
  |zero=>intro _;rfl
  | succ k ih =>
    intro hk
    show max (yc (fun i=>Ax f5 i) z k) (Ax f5 k)=yc (fun j=>ar (aX (ap (f5 k)) j)) (grR f5 z k) (au (ap (f5 k)))
    rw [ih (by omega),HI _ (h k (by omega))]
    rfl
 exact this n5 (Nat.le_refl _)
def gr4 (x:List V):Int:=ma (Fi x) (aa [.sl ae] (tR x)) (db x)
def xK (n0:Nat) (f0:aN) (x4:Int):Int:=bif !ci x4 (-1) (wI ((n0:Int)-1)) then 4 else bif decide (0<=x4) then(bif decide (10000<gr4 (f0 x4.toNat)) then 7 else 0) else 0
def abX (x:List V):Bool:=decide (100000000000<wI (max (gr4 (f0 (aQ x).toNat)) (bf ((f0 (aQ x).toNat)))*bW x))
def xQ (a b c d e g:Bool):Int:=bif !a then 4 else bif !!b then(bif !!c then(bif !d then 7 else bif e then(bif g then 7 else 0) else 0) else 7) else 7
def pn (f0:aN) (n2:Nat) (f2 f13 f15:Nat->List V) (i:Nat):Int:=xQ (ci (ar ((f13 i))) (-1) (wI ((n2:Int)-1))) (ci (ar ((f15 i))) 0 200000) (ci (aQ ((f15 i))) 0 600) (ci (ca ((f15 i))) 0 1000) (decide (0<=ar ((f13 i)))) (abX f0 (f2 (ar ((f13 i))).toNat))
theorem ans (f2 f13 f15:Nat->List V) (i:Nat):fl (aa ak f0) n2 (aa ah f2) (aa ae f13) (aa bQ f15) i=pn f0 n2 f2 f13 f15 i:=by
 unfold fl pn xQ abX gr4
 rfl
section
variable {a b c d e g:Bool}
include a b c d e g
theorem Yy (h:a=false):xQ a b c d e g=4:=by subst h;rfl
theorem amx (h:a=true) (h2:b=false):xQ a b c d e g=7:=by subst h h2;rfl
theorem amB (h:a=true) (h2:b=true) (h3:c=false):xQ a b c d e g=7:=by subst h h2 h3;rfl
theorem ai4 (h:a=true) (h2:b=true) (h3:c=true) (h4:d=false):xQ a b c d e g=7:=by subst h h2 h3 h4;rfl
theorem alM (h:a=true) (h2:b=true) (h3:c=true) (h4:d=true) (h5:e=false):xQ a b c d e g=0:=by subst h h2 h3 h4 h5;rfl
theorem amQ (h:a=true) (h2:b=true) (h3:c=true) (h4:d=true) (h5:e=true) (h6:g=true):xQ a b c d e g=7:=by subst h h2 h3 h4 h5 h6;rfl
theorem akA (h:a=true) (h2:b=true) (h3:c=true) (h4:d=true) (h5:e=true) (h6:g=false):xQ a b c d e g=0:=by subst h h2 h3 h4 h5 h6;rfl
end
def Bu (n11 n13 n15:Nat):Bool:=bif(n13:Int)!=(n11:Int) then true else(n15:Int)!=(n11:Int)
def TG:Int×Int×Int:=bif cg n0 (aa ak f0) n2 (aa ah f2)!=0 then(1,0,cg n0 (aa ak f0) n2 (aa ah f2)) else bif ef n5 (aa aJ f5) n7 (aa aU f7) n9 (aa aV f9) n11 (aa aH f11)!=0 then(2,0,ef n5 (aa aJ f5) n7 (aa aU f7) n9 (aa aV f9) n11 (aa aH f11)) else bif xK n0 f0 x4 != 0 then(3,0,xK n0 f0 x4) else bif Bu n11 n13 n15 then(4,0,2) else wS n11 (pn f0 n2 f2 f13 f15) 4 (0,0,0)
def nq:Int:=(TG n0 f0 n2 f2 x4 n5 f5 n7 f7 n9 f9 n11 f11 n13 f13 n15 f15).1
def nr:Int:=(TG n0 f0 n2 f2 x4 n5 f5 n7 f7 n9 f9 n11 f11 n13 f13 n15 f15).2.1
def gm:Int:=(TG n0 f0 n2 f2 x4 n5 f5 n7 f7 n9 f9 n11 f11 n13 f13 n15 f15).2.2
theorem tU {n11 n13 n15:Nat} (h:Bu n11 n13 n15=false):n13=n11/\n15=n11:=by
 unfold Bu at h
 cases h1:((n13:Int)!=(n11:Int)) with
 |true=>rw[h1]at h;cases h
 | false =>
   rw [h1]at h
   have h:((n15:Int)!=(n11:Int))=false:=h
   have h1:=eq_of_beq (by simpa using h1:((n13:Int)==(n11:Int))=true)
   have h:=eq_of_beq (by simpa using h:((n15:Int)==(n11:Int))=true)
   omega
end
end Go.Dx
