/- Part 6 of a proof. No conditions. -/
import Derived.Test.YtibmdlbnkaihjaaGreatDoorLk5
set_option maxRecDepth 100000
set_option linter.unusedVariables false
set_option linter.unusedSimpArgs false
namespace Go.Dx
open Go.IntKind (i64 u64 u8)
open Go.Sx Go.Proofs
noncomputable section
def dZ:aY:=(63,.con NX)::rI
theorem fJ:aQ Tryz.prog eqs its dZ:=.con OM (Ft)
def Mb (x0 x1 x2 x3:Int):RT Empty:=.ret (vi (i64.wrap (i64.wrap (x2 * x0)+i64.wrap (x3 * x1))))
theorem Ic (x0 x1 x2 x3:Int):Fit noD (aN JJ dZ u0 LQ [V.agg [vi x0,vi x1],vi x2,vi x3]) (Mb x0 x1 x2 x3):=⟨by kernel_rfl,by kernel_rfl⟩
def aB (x0 x1 x2 x3:Int):Int:=i64.wrap (i64.wrap (x2 * x0)+i64.wrap (x3 * x1))
def EM (x0 x1 x2 x3:Int):V:=.int i64 (aB x0 x1 x2 x3)
theorem Q9 (x0 x1 x2 x3:Int):evR noE (Mb x0 x1 x2 x3) (EM x0 x1 x2 x3):=ah (by unfold EM aB; rfl)
def Mw:ap:=mkC [.agg tp2,.int .i64,.int .i64] (fun _=>True) fun
 | [.agg [.int _ x0,.int _ x1],.int _ x2,.int _ x3]=>EM x0 x1 x2 x3
 | _=>.any
theorem Pr:(vP Mw).Ok Tryz.prog 154:=mkE fJ Tryz.func154 (by kernel_rfl) fun ds hp=>rf0 (Ic ..) (Q9 _ _ _ _)
def Mk (x0 x1 x2 x3:Int):RT Empty:=.ret (vi (i64.wrap (i64.wrap (x2 * x1) - i64.wrap (x3 * x0))))
theorem H7 (x0 x1 x2 x3:Int):Fit noD (aN JJ dZ u0 NN [V.agg [vi x0,vi x1],vi x2,vi x3]) (Mk x0 x1 x2 x3):=⟨by kernel_rfl,by kernel_rfl⟩
def aA (x0 x1 x2 x3:Int):Int:=i64.wrap (i64.wrap (x2 * x1) - i64.wrap (x3 * x0))
def BB (x0 x1 x2 x3:Int):V:=.int i64 (aA x0 x1 x2 x3)
theorem Rm (x0 x1 x2 x3:Int):evR noE (Mk x0 x1 x2 x3) (BB x0 x1 x2 x3):=ah (by unfold BB aA; rfl)
def Lg:ap:=mkC [.agg tp2,.int .i64,.int .i64] (fun _=>True) fun
 | [.agg [.int _ x0,.int _ x1],.int _ x2,.int _ x3]=>BB x0 x1 x2 x3
 | _=>.any
theorem QF:(vP Lg).Ok Tryz.prog 155:=mkE fJ Tryz.func155 (by kernel_rfl) fun ds hp=>rf0 (H7 ..) (Rm _ _ _ _)
def NU (x0 x1:Int):RT Empty:=.ret (vi (i64.wrap (i64.wrap (x0 * x0)+i64.wrap (x1 * x1))))
theorem Ky (x0 x1:Int):Fit noD (aN JJ dZ u0 Ns [V.agg [vi x0,vi x1]]) (NU x0 x1):=⟨by kernel_rfl,by kernel_rfl⟩
def be (x0 x1:Int):Int:=i64.wrap (i64.wrap (x0 * x0)+i64.wrap (x1 * x1))
def D1 (x0 x1:Int):V:=.int i64 (be x0 x1)
theorem Rr (x0 x1:Int):evR noE (NU x0 x1) (D1 x0 x1):=ah (by unfold D1 be; rfl)
def MS:ap:=mkC [.agg tp2] (fun _=>True) fun
 | [.agg [.int _ x0,.int _ x1]]=>D1 x0 x1
 | _=>.any
theorem Rn:(vP MS).Ok Tryz.prog 156:=mkE fJ Tryz.func156 (by kernel_rfl) fun ds hp=>rf0 (Ky ..) (Rr _ _)
def Mx (x0:Int):RT Empty:=.ret (vi (min (max x0 (-200000)) 200000))
theorem GP (x0:Int):Fit noD (aN JJ dZ u0 Nn [vi x0]) (Mx x0):=⟨by kernel_rfl,by kernel_rfl⟩
def bh (x0:Int):Int:=min (max x0 (-200000)) 200000
def yax (x0:Int):V:=.int i64 (bh x0)
theorem O2 (x0:Int):evR noE (Mx x0) (yax x0):=ah (by unfold yax bh; rfl)
def Ob:ap:=mkC tp1 (fun _=>True) fun
 | [.int _ x0]=>yax x0
 | _=>.any
theorem Rb:(vP Ob).Ok Tryz.prog 193:=mkE fJ Tryz.func193 (by kernel_rfl) fun ds hp=>rf0 (GP ..) (O2 _)
def MG (x0:Int):RT Empty:=.ret (vi (max (-200000) (min x0 200000)))
theorem Hq (x0:Int):Fit noD (aN JJ dZ u0 UP [vi x0]) (MG x0):=⟨by kernel_rfl,by kernel_rfl⟩
def c6 (x0:Int):Int:=max (-200000) (min x0 200000)
def Gf (x0:Int):V:=.int i64 (c6 x0)
theorem Rx (x0:Int):evR noE (MG x0) (Gf x0):=ah (by unfold Gf c6; rfl)
def Lh:ap:=mkC tp1 (fun _=>True) fun
 | [.int _ x0]=>Gf x0
 | _=>.any
theorem OS:(vP Lh).Ok Tryz.prog 256:=mkE fJ Tryz.func256 (by kernel_rfl) fun ds hp=>rf0 (Hq ..) (Rx _)
def NI (x0:Int):RT Empty:=.obc (.obt (.ret (V.bool (aF x0 (-100000) 100000))))
theorem KG (x0:Int):Fit noD (aN JJ dZ u0 VU [vi x0]) (NI x0):=⟨by kernel_rfl,by kernel_rfl⟩
def da (x0:Int):Bool:=aF x0 (-100000) 100000
def DK (x0:Int):V:=.bool (da x0)
theorem Rz (x0:Int):evR noE (NI x0) (DK x0):=ao (ac (ah (by unfold DK da; rfl)))
def Lk:ap:=mkC tp1 (fun _=>True) fun
 | [.int _ x0]=>DK x0
 | _=>.any
theorem SH:(vP Lk).Ok Tryz.prog 74:=mkE fJ Tryz.func74 (by kernel_rfl) fun ds hp=>rf0 (KG ..) (Rz _)
def NO (x0:Int):RT Empty:=.obc (.obt (.ret (V.bool !cO x0 (-100000) 100000)))
theorem JM (x0:Int):Fit noD (aN JJ dZ u0 LO [vi x0]) (NO x0):=⟨by kernel_rfl,by kernel_rfl⟩
def iZ (x0:Int):Bool:=!cO x0 (-100000) 100000
def FF (x0:Int):V:=.bool (iZ x0)
theorem RG (x0:Int):evR noE (NO x0) (FF x0):=ao (ac (ah (by unfold FF iZ; rfl)))
def Mv:ap:=mkC tp1 (fun _=>True) fun
 | [.int _ x0]=>FF x0
 | _=>.any
theorem RN:(vP Mv).Ok Tryz.prog 153:=mkE fJ Tryz.func153 (by kernel_rfl) fun ds hp=>rf0 (JM ..) (RG _)
inductive ol where
 | L0 (i_100 i_101:Int)
def Jk (n0:Nat) (f0:FnV):ol->Env × List O × Option Ex
 | .L0 i_100 i_101=>([(4,vi i_100),(3,vi i_101),(0,V.sl n0 (elV tp1 f0))],[],none)
def Qq:ol->JJ
 | .L0 i_100 i_101=>(0,[])
def uG (n0:Nat) (f0:FnV) (cx:List Cx):Lp JJ:=lpT (atT (aN JJ dZ u0 Nb [V.sl n0 (elV tp1 f0)]) [false])
def Qs (n0:Nat) (f0:FnV):JJ->Lp JJ
 | (0,cx)=>uG n0 f0 cx
 | (_,cx)=>uG n0 f0 cx
def Xn (n0:Nat) (f0:FnV):LD JJ ol:=⟨Qq,Qs n0 f0,Jk n0 f0⟩
def tQ (n0:Nat) (f0:FnV):ol->RT ol
 | .L0 i_100 i_101=>.asm (true=true->n0<=9223372036854775807) (.br (decide (i_100 < (↑n0:Int))) (.ob (decide (0<=i_100/\i_100 < (↑n0:Int))) (.next [] (ol.L0 (i64.wrap (i_100+1)) (max i_101 (jv0 (f0 i_100.toNat)))) [])) (.ret (vi i_101)))
def DL (n0:Nat) (f0:FnV):RT ol:=.asm (true=true->n0<=9223372036854775807) (.br (decide ((↑n0:Int) < 1)) (.fail) (.ob (decide ((0:Int)<=0/\0 < (↑n0:Int))) (.enter [] (ol.L0 (1) (jv0 (f0 0))) [])))
theorem GB (n0:Nat) (f0:FnV):dw dZ u0 (Xn n0 f0) (aN JJ dZ u0 Nb [V.sl n0 (elV tp1 f0)]) (DL n0 f0) (tQ n0 f0):=⟨⟨by kernel_rfl,by kernel_rfl⟩,fun s=>match s with | .L0 i_100 i_101=>⟨by kernel_rfl,by kernel_rfl⟩⟩
def mxZ (p:Nat->Int) (z:Int):Nat->Int
 | 0=>z
 | k+1=>max (mxZ p z k) (p k)
def dB (n0:Nat) (f0:FnV):Int:=mxZ (fun i=>jv0 (f0 i)) (jv0 (f0 0)) n0
theorem FA (n0:Nat) (f0:FnV) (hp:1<=n0):evR (Ev (tQ n0 f0)) (DL n0 f0) (.int .i64 (dB n0 f0)):=by
 refine yab fun hn=>oo (dqf (by omega)) (aH (dqt (by omega)) (aD ?_))
 have key:=dF (n:=n0) (P:=fun i=>1<=i->Ev (tQ n0 f0) (.L0 i (mxZ (fun i=>jv0 (f0 i)) (jv0 (f0 0)) i)) (.int .i64 (dB n0 f0))) fun i hi ih h1=>by
  refine Ev.of rfl (aE fun _=>aw (fun h=>?_) (fun h=>ah ?_))
  ·have hlt:i < n0:=by have:=of_decide_eq_true h; omega
   refine yac hlt (aR ?_)
   rw [iE hlt hn]
   exact ih hlt (by omega)
  ·have:i=n0:=by have:=of_decide_eq_false h; omega
   subst this; rfl
 have:=key 1 hp (Nat.le_refl _)
 rwa [show mxZ (fun i=>jv0 (f0 i)) (jv0 (f0 0)) 1=jv0 (f0 0) from Int.max_self _] at this
theorem Qk (n0:Nat) (f0:FnV) (hp:1<=n0):evR (Ev (tQ n0 f0)) (DL n0 f0) (.int .i64 (dB n0 (elV tp1 f0))):=FA n0 f0 hp
def Mz:ap:=mkC [.sl tp1] (fun
 | [.sl n0 f0]=>1<=n0
 | _=>False) fun
 | [.sl n0 f0]=>.int .i64 (dB n0 f0)
 | _=>.any
theorem De:(vP Mz).Ok Tryz.prog 143:=mkE fJ Tryz.func143 (by kernel_rfl) fun ds hp=>rfs (GB ..) (Qk _ _ hp)
inductive kO where
 | L0 (i_100 i_101:Int)
 | L1 (i_200 i_201 i_202:Int)
def pi (s0:ByteArray) (n1:Nat) (f1:FnV) (n3:Nat) (f3:FnV) (n5:Nat) (f5:FnV) (x7 x8:Int):kO->Env × List O × Option Ex
 | .L0 i_100 i_101=>([(4,vi i_100),(3,vi i_101),(1,V.pl 0 0)],[O.cells [V.str s0,V.sl n1 (elV tp1 f1),V.sl n3 (elV tp1 f3),V.sl n5 (elV [Ty.sl tp1] f5),vi x7,vi x8] 126],none)
 | .L1 i_200 i_201 i_202=>([(5,vi i_200),(4,vi i_201),(3,vi i_202),(1,V.pl 0 0)],[O.cells [V.str s0,V.sl n1 (elV tp1 f1),V.sl n3 (elV tp1 f3),V.sl n5 (elV [Ty.sl tp1] f5),vi x7,vi x8] 126],none)
def Rj:kO->JJ
 | .L0 i_100 i_101=>(0,[])
 | .L1 i_200 i_201 i_202=>(1,[])
def pq (s0:ByteArray) (n1:Nat) (f1:FnV) (n3:Nat) (f3:FnV) (n5:Nat) (f5:FnV) (x7 x8:Int) (cx:List Cx):Lp JJ:=lpT (atT (aN JJ dZ u0 Mq [V.agg [V.str s0,V.sl n1 (elV tp1 f1),V.sl n3 (elV tp1 f3),V.sl n5 (elV [Ty.sl tp1] f5),vi x7,vi x8]]) [])
def CE (s0:ByteArray) (n1:Nat) (f1:FnV) (n3:Nat) (f3:FnV) (n5:Nat) (f5:FnV) (x7 x8:Int) (cx:List Cx):Lp JJ:=lpT (atT (rdT dZ u0 (0,[]) (pq s0 n1 f1 n3 f3 n5 f5 x7 x8 []) (pi s0 n1 f1 n3 f3 n5 f5 x7 x8 (.L0 (0:Int) (0:Int))).1 (pi s0 n1 f1 n3 f3 n5 f5 x7 x8 (.L0 (0:Int) (0:Int))).2.1 (pi s0 n1 f1 n3 f3 n5 f5 x7 x8 (.L0 (0:Int) (0:Int))).2.2) [true])
def RR (s0:ByteArray) (n1:Nat) (f1:FnV) (n3:Nat) (f3:FnV) (n5:Nat) (f5:FnV) (x7 x8:Int):JJ->Lp JJ
 | (0,cx)=>pq s0 n1 f1 n3 f3 n5 f5 x7 x8 cx
 | (1,cx)=>CE s0 n1 f1 n3 f3 n5 f5 x7 x8 cx
 | (_,cx)=>pq s0 n1 f1 n3 f3 n5 f5 x7 x8 cx
def W6 (s0:ByteArray) (n1:Nat) (f1:FnV) (n3:Nat) (f3:FnV) (n5:Nat) (f5:FnV) (x7 x8:Int):LD JJ kO:=⟨Rj,RR s0 n1 f1 n3 f3 n5 f5 x7 x8,pi s0 n1 f1 n3 f3 n5 f5 x7 x8⟩
def lA (s0:ByteArray) (n1:Nat) (f1:FnV) (n3:Nat) (f3:FnV) (n5:Nat) (f5:FnV) (x7 x8:Int):kO->RT kO
 | .L0 i_100 i_101=>.asm (true=true->n5<=9223372036854775807) (.br (decide (i_100 < (↑n5:Int))) (.enter [some (some 0)] (kO.L1 (0) (i_100) (i_101)) []) (.ret (vi i_101)))
 | .L1 i_200 i_201 i_202=>.ob (decide (0<=i_201/\i_201 < (↑n5:Int))) (.asm (true=true->am (hdV (f5 i_201.toNat))<=9223372036854775807) (.br (decide (i_200 < (↑(am (hdV (f5 i_201.toNat))):Int))) (.ob (decide (0<=i_201/\i_201 < (↑n5:Int))) (.ob (decide (0<=i_200/\i_200 < (↑(am (hdV (f5 i_201.toNat))):Int))) (.next [some (some 0)] (kO.L1 (i64.wrap (i_200+1)) (i_201) (max i_202 (jv0 (atV (hdV (f5 i_201.toNat)) i_200.toNat)))) []))) (.next [some (some 0)] (kO.L0 (i64.wrap (i_201+1)) (i_202)) [])))
def CW (s0:ByteArray) (n1:Nat) (f1:FnV) (n3:Nat) (f3:FnV) (n5:Nat) (f5:FnV) (x7 x8:Int):RT kO:=.enter [some (some 0)] (kO.L0 (0) (x7)) []
theorem HA (s0:ByteArray) (n1:Nat) (f1:FnV) (n3:Nat) (f3:FnV) (n5:Nat) (f5:FnV) (x7 x8:Int):dw dZ u0 (W6 s0 n1 f1 n3 f3 n5 f5 x7 x8) (aN JJ dZ u0 Mq [V.agg [V.str s0,V.sl n1 (elV tp1 f1),V.sl n3 (elV tp1 f3),V.sl n5 (elV [Ty.sl tp1] f5),vi x7,vi x8]]) (CW s0 n1 f1 n3 f3 n5 f5 x7 x8) (lA s0 n1 f1 n3 f3 n5 f5 x7 x8):=⟨⟨by kernel_rfl,by kernel_rfl⟩,fun s=>match s with | .L0 i_100 i_101=>⟨by kernel_rfl,by kernel_rfl⟩ | .L1 i_200 i_201 i_202=>⟨by kernel_rfl,by kernel_rfl⟩⟩
def grL (l:Nat->Nat) (v:Nat->Nat->Int) (z:Int):Nat->Int
 | 0=>z
 | k+1=>mxZ (v k) (grL l v z k) (l k)
abbrev grR (f5:FnV) (z:Int) (k:Nat):Int:=grL (fun i=>am (hdV (f5 i))) (fun i j=>jv0 (atV (hdV (f5 i)) j)) z k
def kZ (n5:Nat) (f5:FnV) (x7:Int):Int:=grR f5 x7 n5
theorem JE (s0:ByteArray) (n1:Nat) (f1:FnV) (n3:Nat) (f3:FnV) (n5:Nat) (f5:FnV) (x7 x8:Int) (hn:n5<=9223372036854775807) (i:Nat) (hi:i < n5) (r:V) (hx:Ev (lA s0 n1 f1 n3 f3 n5 f5 x7 x8) (.L0 (i64.wrap ((i:Int)+1)) (grR f5 x7 (i+1))) r):Ev (lA s0 n1 f1 n3 f3 n5 f5 x7 x8) (.L1 0 i (grR f5 x7 i)) r:=by
 by_cases h5:am (hdV (f5 i))<=9223372036854775807
 ·refine wX h5 (P:=fun x=>Ev (lA s0 n1 f1 n3 f3 n5 f5 x7 x8) (.L1 x i (mxZ (fun j=>jv0 (atV (hdV (f5 i)) j)) (grR f5 x7 i) x.toNat)) r) (fun j hlt nx=>?_) (Ev.of rfl (yac hi (aE fun _=>bu (aR ?_))))
  ·rw [show (i64.wrap ((j:Int)+1)).toNat=j+1 by rw [iE hlt h5]; rfl] at nx
   exact Ev.of rfl (yac hi (aE fun _=>bK hlt (yac hi (yac hlt (aR nx)))))
  ·exact hx
 ·exact Ev.of rfl (yac hi (aE fun h=>absurd (h rfl) h5))
theorem EX (s0:ByteArray) (n1:Nat) (f1:FnV) (n3:Nat) (f3:FnV) (n5:Nat) (f5:FnV) (x7 x8:Int):evR (Ev (lA s0 n1 f1 n3 f3 n5 f5 x7 x8)) (CW s0 n1 f1 n3 f3 n5 f5 x7 x8) (.int .i64 (kZ n5 f5 x7)):=by
 refine aD ?_
 by_cases hn:n5<=9223372036854775807
 ·refine wX hn (P:=fun x=>Ev (lA s0 n1 f1 n3 f3 n5 f5 x7 x8) (.L0 x (grR f5 x7 x.toNat)) (.int .i64 (kZ n5 f5 x7))) (fun i hlt nx=>?_) (Ev.of rfl (aE fun _=>bu (ah rfl)))
  rw [show (i64.wrap ((i:Int)+1)).toNat=i+1 by rw [iE hlt hn]; rfl] at nx
  exact Ev.of rfl (aE fun _=>bK hlt (aD (JE s0 n1 f1 n3 f3 n5 f5 x7 x8 hn i hlt _ nx)))
 ·exact Ev.of rfl (aE fun h=>absurd (h rfl) hn)
theorem PV (s0:ByteArray) (n1:Nat) (f1:FnV) (n3:Nat) (f3:FnV) (n5:Nat) (f5:FnV) (x7 x8:Int):evR (Ev (lA s0 n1 f1 n3 f3 n5 f5 x7 x8)) (CW s0 n1 f1 n3 f3 n5 f5 x7 x8) (.int .i64 (kZ n5 (elV [.sl tp1] f5) x7)):=EX s0 n1 f1 n3 f3 n5 f5 x7 x8
def LE:ap:=mkC [.agg [.str,.sl tp1,.sl tp1,.sl [.sl tp1],.int .i64,.int .i64]] (fun _=>True) fun
 | [.agg [.str s0,.sl n1 f1,.sl n3 f3,.sl n5 f5,.int _ x7,.int _ x8]]=>.int .i64 (kZ n5 f5 x7)
 | _=>.any
theorem PC:(vP LE).Ok Tryz.prog 66:=mkE fJ Tryz.func66 (by kernel_rfl) fun ds hp=>rfs (HA ..) (PV _ _ _ _ _ _ _ _ _)
inductive ml where
 | L0 (i_100 i_101:Int)
def Jl (x0:Int):ml->Env × List O × Option Ex
 | .L0 i_100 i_101=>([(4,vi i_100),(3,vi i_101),(0,vi x0)],[],none)
def R9:ml->JJ
 | .L0 i_100 i_101=>(0,[])
def vu (x0:Int) (cx:List Cx):Lp JJ:=lpT (atT (aN JJ dZ u0 ES [vi x0]) [])
def Q7 (x0:Int):JJ->Lp JJ
 | (0,cx)=>vu x0 cx
 | (_,cx)=>vu x0 cx
def W3 (x0:Int):LD JJ ml:=⟨R9,Q7 x0,Jl x0⟩
def qy (x0:Int):ml->RT ml
 | .L0 i_100 i_101=>.br (decide (0 < i_100)) (.br (decide (i64.wrap (i64.wrap (i_101+i_100) * i64.wrap (i_101+i_100))<=x0)) (.obt (.next [] (ml.L0 (i64.wrap (i_100.tdiv 2)) (i64.wrap (i_101+i_100))) [])) (.obt (.next [] (ml.L0 (i64.wrap (i_100.tdiv 2)) (i_101)) []))) (.ret (vi i_101))
def Ck (x0:Int):RT ml:=.enter [] (ml.L0 (1073741824) (0)) []
theorem Ko (x0:Int):dw dZ u0 (W3 x0) (aN JJ dZ u0 ES [vi x0]) (Ck x0) (qy x0):=⟨⟨by kernel_rfl,by kernel_rfl⟩,fun s=>match s with | .L0 i_100 i_101=>⟨by kernel_rfl,by kernel_rfl⟩⟩
def dC:Nat->Nat
 | 0=>0
 | n+1=>bif Nat.ble ((dC n+1) * (dC n+1)) (n+1) then dC n+1 else dC n
theorem kL:∀ n,dC n * dC n<=n/\n < (dC n+1) * (dC n+1)
 | 0=>⟨Nat.le_refl _,by decide⟩
 | n + 1=>by
   obtain ⟨h1,h2⟩:=kL n
   unfold dC
   cases hb:Nat.ble ((dC n+1) * (dC n+1)) (n+1) with
   | true =>
     have:=Nat.le_of_ble_eq_true hb
     refine ⟨this,?_⟩
     have e:(dC n+1+1) * (dC n+1+1)=(dC n+1) * (dC n+1)+2 * (dC n+1)+1:=by grind
     show n+1 < (dC n+1+1) * (dC n+1+1)
     omega
   | false =>
     have h3:¬ (dC n+1) * (dC n+1)<=n+1:=fun h=>by rw [Nat.ble_eq_true_of_le h] at hb; cases hb
     exact ⟨by show dC n * dC n<=n+1; omega,by show n+1 < (dC n+1) * (dC n+1); omega⟩
theorem yJ {n r:Nat} (h1:r * r<=n) (h2:n < (r+1) * (r+1)):dC n=r:=by
 obtain ⟨g1,g2⟩:=kL n
 have a:¬ dC n < r:=fun h=>by have:=Nat.mul_le_mul (show dC n+1<=r from h) (show dC n+1<=r from h); omega
 have c:¬ r < dC n:=fun h=>by have:=Nat.mul_le_mul (show r+1<=dC n from h) (show r+1<=dC n from h); omega
 omega
def isq (x:Int):Int:=(dC x.toNat:Int)
def gT (x0:Int):Nat:=(min x0 4611686018427387903).toNat
def cz (x0:Int):Int:=(dC (gT x0):Int)
theorem LL {x:Int} {m:Nat} (h1:1<=m) (hm:m<=2147483647):decide (i64.wrap (i64.wrap (m:Int) * i64.wrap (m:Int))<=x)=decide (m * m<=gT x):=by
 have b:m * m<=2147483647 * 2147483647:=Nat.mul_le_mul hm hm
 have b1:1<=m * m:=Nat.mul_le_mul h1 h1
 rw [bb (x:=(m:Int)) (by omega) (by omega),show (m:Int) * (m:Int)=((m * m:Nat):Int) from (Int.natCast_mul m m).symm]
 generalize m * m=q at *
 rw [bb (by omega) (by omega)]
 unfold gT
 exact decide_eq_decide.2 (by omega)
theorem Uf (x0:Int):∀ k:Nat,k<=30->∀ r:Nat,r * r<=gT x0->gT x0 < (r+2 ^ (k+1)) * (r+2 ^ (k+1))->r+2 ^ (k+1)<=2147483648->Ev (qy x0) (.L0 ((2 ^ k:Nat):Int) (r:Int)) (.int .i64 (cz x0)):=by
 intro k
 induction k with
 | zero =>
   intro _ r h1 h2 h3
   have h3':r+2<=2147483648:=h3
   have h2':gT x0 < (r+2) * (r+2):=h2
   have fin:∀ q:Nat,q * q<=gT x0->gT x0 < (q+1) * (q+1)->Ev (qy x0) (.L0 (i64.wrap (((1:Nat):Int).tdiv 2)) (q:Int)) (.int .i64 (cz x0)):=fun q g1 g2 =>
    Ev.of rfl (oo rfl (ah (by unfold cz; rw [yJ g1 g2])))
   have hs:=LL (x:=x0) (m:=r+1) (by omega) (by omega)
   have e1:(r:Int)+((1:Nat):Int)=((r+1:Nat):Int):=by omega
   refine Ev.of rfl (j6 (by decide) (aw (fun h=>ac (aR ?_)) (fun h=>ac (aR ?_))))
   ·have h':decide ((r+1) * (r+1)<=gT x0)=true:=by rw [← hs,← e1]; exact h
    have:=fin (r+1) (of_decide_eq_true h') h2'
    rw [show i64.wrap ((r:Int)+((2 ^ 0:Nat):Int))=((r+1:Nat):Int) from by rw [bb (by omega) (by omega)]; rfl]
    exact this
   ·have h':decide ((r+1) * (r+1)<=gT x0)=false:=by rw [← hs,← e1]; exact h
    exact fin r h1 (Nat.lt_of_not_le (of_decide_eq_false h'))
 | succ k ih =>
   intro hk r h1 h2 h3
   have p1:2 ^ (k+1+1)=2 * 2 ^ (k+1):=by rw [Nat.pow_succ]; omega
   have p0:1<=2 ^ (k+1):=Nat.one_le_two_pow
   have p2:2 ^ (k+1)=2 * 2 ^ k:=by rw [Nat.pow_succ]; omega
   have hs:=LL (x:=x0) (m:=r+2 ^ (k+1)) (by omega) (by omega)
   have e1:(r:Int)+((2 ^ (k+1):Nat):Int)=((r+2 ^ (k+1):Nat):Int):=by omega
   have e2:i64.wrap (((2 ^ (k+1):Nat):Int).tdiv 2)=((2 ^ k:Nat):Int):=by
    rw [p2,show ((2 * 2 ^ k:Nat):Int).tdiv 2=((2 ^ k:Nat):Int) by rw [Int.tdiv_eq_ediv_of_nonneg (by omega)]; omega]
    exact bb (by omega) (by omega)
   have e3:i64.wrap ((r:Int)+((2 ^ (k+1):Nat):Int))=((r+2 ^ (k+1):Nat):Int):=by rw [bb (by omega) (by omega)]; exact e1
   refine Ev.of rfl (j6 (dqt (by omega)) (aw (fun h=>ac (aR ?_)) (fun h=>ac (aR ?_))))
   ·have h':decide ((r+2 ^ (k+1)) * (r+2 ^ (k+1))<=gT x0)=true:=by rw [← hs,← e1]; exact h
    rw [e2,e3]
    exact ih (by omega) (r+2 ^ (k+1)) (of_decide_eq_true h') (by rw [show r+2 ^ (k+1)+2 ^ (k+1)=r+2 ^ (k+1+1) by omega]; exact h2) (by omega)
   ·have h':decide ((r+2 ^ (k+1)) * (r+2 ^ (k+1))<=gT x0)=false:=by rw [← hs,← e1]; exact h
    rw [e2]
    exact ih (by omega) r h1 (Nat.lt_of_not_le (of_decide_eq_false h')) (by omega)
theorem Dp (x0:Int):evR (Ev (qy x0)) (Ck x0) (.int .i64 (cz x0)):=aD (Uf x0 30 (Nat.le_refl _) 0 (Nat.zero_le _) (by unfold gT; show _ < 4611686018427387904; omega) (by decide))
theorem PM (x0:Int):evR (Ev (qy x0)) (Ck x0) (.int .i64 (cz x0)):=Dp x0
def Nq:ap:=mkC tp1 (fun _=>True) fun
 | [.int _ x0]=>.int .i64 (cz x0)
 | _=>.any
theorem S0:(vP Nq).Ok Tryz.prog 115:=mkE fJ Tryz.func115 (by kernel_rfl) fun ds hp=>rfs (Ko ..) (PM _)
inductive mR where
 | L0 (i_100 i_101:Int)
def IT (x0:Int):mR->Env × List O × Option Ex
 | .L0 i_100 i_101=>([(4,vi i_100),(3,vi i_101),(0,vi x0)],[],none)
def SA:mR->JJ
 | .L0 i_100 i_101=>(0,[])
def uv (x0:Int) (cx:List Cx):Lp JJ:=lpT (atT (aN JJ dZ u0 ML [vi x0]) [])
def SG (x0:Int):JJ->Lp JJ
 | (0,cx)=>uv x0 cx
 | (_,cx)=>uv x0 cx
def WH (x0:Int):LD JJ mR:=⟨SA,SG x0,IT x0⟩
def tD (x0:Int):mR->RT mR
 | .L0 i_100 i_101=>.br (decide (1 < i64.wrap (i_100 - i_101))) (.obt (.br (decide (i64.wrap (i64.wrap ((i64.wrap (i_101+i_100)).tdiv 2) * i64.wrap ((i64.wrap (i_101+i_100)).tdiv 2))<=x0)) (.next [] (mR.L0 (i_100) (i64.wrap ((i64.wrap (i_101+i_100)).tdiv 2))) []) (.next [] (mR.L0 (i64.wrap ((i64.wrap (i_101+i_100)).tdiv 2)) (i_101)) []))) (.ret (vi i_101))
def Bn (x0:Int):RT mR:=.enter [] (mR.L0 (2000000000) (0)) []
theorem JO (x0:Int):dw dZ u0 (WH x0) (aN JJ dZ u0 ML [vi x0]) (Bn x0) (tD x0):=⟨⟨by kernel_rfl,by kernel_rfl⟩,fun s=>match s with | .L0 i_100 i_101=>⟨by kernel_rfl,by kernel_rfl⟩⟩
def jw (x0:Int):Nat:=(min x0 3999999999999999999).toNat
def bS (x0:Int):Int:=(dC (jw x0):Int)
theorem GM {x:Int} {m:Nat} (h1:1<=m) (hm:m < 2000000000):decide (i64.wrap ((m:Int) * (m:Int))<=x)=decide (m * m<=jw x):=by
 have b:m * m<=1999999999 * 1999999999:=Nat.mul_le_mul (by omega) (by omega)
 have b1:1<=m * m:=Nat.mul_le_mul h1 h1
 rw [show (m:Int) * (m:Int)=((m * m:Nat):Int) from (Int.natCast_mul m m).symm]
 generalize m * m=q at *
 rw [bb (by omega) (by omega)]
 unfold jw
 exact decide_eq_decide.2 (by omega)
theorem VS (x0:Int):∀ d lo hi:Nat,hi - lo<=d->lo < hi->hi<=2000000000->lo * lo<=jw x0->jw x0 < hi * hi->Ev (tD x0) (.L0 (hi:Int) (lo:Int)) (.int .i64 (bS x0)):=by
 intro d
 induction d with
 | zero=>intro lo hi h1 h2; omega
 | succ d ih =>
   intro lo hi h1 h2 h3 h4 h5
   refine Ev.of rfl (aw (fun h=>ac ?_) (fun h=>ah ?_))
   ·have hd:1 < hi - lo:=by have:=of_decide_eq_true h; rw [bb (by omega) (by omega)] at this; omega
    have em:i64.wrap ((i64.wrap ((lo:Int)+(hi:Int))).tdiv 2)=(((lo+hi) / 2:Nat):Int):=by
     rw [bb (x:=(lo:Int)+(hi:Int)) (by omega) (by omega),Int.tdiv_eq_ediv_of_nonneg (by omega),bb (by omega) (by omega)]; omega
    rw [em]
    have hs:=GM (x:=x0) (m:=(lo+hi) / 2) (by omega) (by omega)
    refine aw (fun h=>aR ?_) (fun h=>aR ?_)
    ·rw [hs] at h; exact ih _ _ (by omega) (by omega) h3 (of_decide_eq_true h) h5
    ·rw [hs] at h; exact ih _ _ (by omega) (by omega) (by omega) h4 (Nat.lt_of_not_le (of_decide_eq_false h))
   ·have hd:hi=lo+1:=by have:=of_decide_eq_false h; rw [bb (by omega) (by omega)] at this; omega
    subst hd
    unfold bS; rw [yJ h4 h5]
theorem Cj (x0:Int):evR (Ev (tD x0)) (Bn x0) (.int .i64 (bS x0)):=aD (VS x0 2000000000 0 2000000000 (by omega) (by omega) (Nat.le_refl _) (Nat.zero_le _) (by unfold jw; show _ < 4000000000000000000; omega))
theorem Oy (x0:Int):evR (Ev (tD x0)) (Bn x0) (.int .i64 (bS x0)):=Cj x0
def Mc:ap:=mkC tp1 (fun _=>True) fun
 | [.int _ x0]=>.int .i64 (bS x0)
 | _=>.any
theorem Q2:(vP Mc).Ok Tryz.prog 122:=mkE fJ Tryz.func122 (by kernel_rfl) fun ds hp=>rfs (JO ..) (Oy _)
end
noncomputable section
def iG:aY:=(154,.con Mw)::(155,.con Lg)::(156,.con MS)::(193,.con Ob)::(256,.con Lh)::(74,.con Lk)::(153,.con Mv)::(143,.con Mz)::(66,.con LE)::(115,.con Nq)::(122,.con Mc)::dZ
theorem nI:aQ Tryz.prog eqs its iG:=.con Pr (.con QF (.con Rn (.con Rb (.con OS (.con SH (.con RN (.con De (.con PC (.con S0 (.con Q2 (fJ)))))))))))
def Ms (x0:Int):RT Empty:=.obc (.obt (.br (decide (i64.wrap (cz x0 * cz x0) < x0)) (.ret (vi (i64.wrap (cz x0+1)))) (.ret (vi (cz x0)))))
theorem Ip (x0:Int):Fit noD (aN JJ iG u0 K6 [vi x0]) (Ms x0):=⟨by kernel_rfl,by kernel_rfl⟩
def b9 (x0:Int):Int:=bif decide (i64.wrap (cz x0 * cz x0) < x0) then i64.wrap (cz x0+1) else cz x0
def zA (x0:Int):V:=.int i64 (b9 x0)
theorem Oj (x0:Int):evR noE (Ms x0) (zA x0):=ao (ac (aw (fun h0=>ah (by unfold zA b9; try rw [h0]; rfl)) (fun h0=>ah (by unfold zA b9; try rw [h0]; rfl))))
def NB:ap:=mkC tp1 (fun _=>True) fun
 | [.int _ x0]=>zA x0
 | _=>.any
theorem P2:(vP NB).Ok Tryz.prog 114:=mkE nI Tryz.func114 (by kernel_rfl) fun ds hp=>rf0 (Ip ..) (Oj _)
def NE (x0:Int):RT Empty:=.obc (.obt (.br (decide (i64.wrap (bS x0 * bS x0) < x0)) (.ret (vi (i64.wrap (bS x0+1)))) (.ret (vi (bS x0)))))
theorem J7 (x0:Int):Fit noD (aN JJ iG u0 UT [vi x0]) (NE x0):=⟨by kernel_rfl,by kernel_rfl⟩
def bJ (x0:Int):Int:=bif decide (i64.wrap (bS x0 * bS x0) < x0) then i64.wrap (bS x0+1) else bS x0
def y6 (x0:Int):V:=.int i64 (bJ x0)
theorem OF (x0:Int):evR noE (NE x0) (y6 x0):=ao (ac (aw (fun h0=>ah (by unfold y6 bJ; try rw [h0]; rfl)) (fun h0=>ah (by unfold y6 bJ; try rw [h0]; rfl))))
def Lz:ap:=mkC tp1 (fun _=>True) fun
 | [.int _ x0]=>y6 x0
 | _=>.any
theorem QX:(vP Lz).Ok Tryz.prog 121:=mkE nI Tryz.func121 (by kernel_rfl) fun ds hp=>rf0 (J7 ..) (OF _)
inductive oD where
 | L0 (i_100:Int)
def KS (n0:Nat) (f0:FnV):oD->Env × List O × Option Ex
 | .L0 i_100=>([(8,vi i_100),(7,vi (↑n0:Int)),(6,V.sl n0 (elV tp1 f0)),(4,vi 0),(0,V.sl n0 (elV tp1 f0)),(1,V.fn 153 [] [])],[],none)
def PE:oD->JJ
 | .L0 i_100=>(0,[])
def uk (n0:Nat) (f0:FnV) (cx:List Cx):Lp JJ:=lpT (atT (aN JJ iG u0 AJ [V.sl n0 (elV tp1 f0),V.fn 153 [] []]) [])
def ybh (n0:Nat) (f0:FnV):JJ->Lp JJ
 | (0,cx)=>uk n0 f0 cx
 | (_,cx)=>uk n0 f0 cx
def W4 (n0:Nat) (f0:FnV):LD JJ oD:=⟨PE,ybh n0 f0,KS n0 f0⟩
def v7 (n0:Nat) (f0:FnV):oD->RT oD
 | .L0 i_100=>.br (decide (i_100 < (↑n0:Int))) (.ob (decide (0<=i_100/\i_100 < (↑n0:Int))) (.obc (.obt (.br (iZ (jv0 (f0 i_100.toNat))) (.ret (vi i_100)) (.next [] (oD.L0 (i64.wrap (i_100+1))) []))))) (.ret (vi (-1)))
def yaJ (n0:Nat) (f0:FnV):RT oD:=.asm (true=true->n0<=9223372036854775807) (.enter [] (oD.L0 (0)) [])
theorem J0 (n0:Nat) (f0:FnV):dw iG u0 (W4 n0 f0) (aN JJ iG u0 AJ [V.sl n0 (elV tp1 f0),V.fn 153 [] []]) (yaJ n0 f0) (v7 n0 f0):=⟨⟨by kernel_rfl,by kernel_rfl⟩,fun s=>match s with | .L0 i_100=>⟨by kernel_rfl,by kernel_rfl⟩⟩
def uX (n0:Nat) (f0:FnV):Int  :=idx n0 fun ii=>iZ (jv0 (f0 ii))
theorem CX (n0:Nat) (f0:FnV):evR (Ev (v7 n0 f0)) (yaJ n0 f0) (.int .i64 (uX n0 f0)):=yab fun hn=>aD (lM hn fun i=>rfl)
theorem Ph (n0:Nat) (f0:FnV):evR (Ev (v7 n0 f0)) (yaJ n0 f0) (.int .i64 (uX n0 (elV tp1 f0))):=CX n0 f0
def Na:ap:=mkC [.sl tp1,.fn 153 [] []] (fun _=>True) fun
 | [.sl n0 f0,.fn _ [] []]=>.int .i64 (uX n0 f0)
 | _=>.any
theorem Qo:(vP Na).Ok Tryz.prog 221:=mkE nI Tryz.func221 (by kernel_rfl) fun ds hp=>rfs (J0 ..) (Ph _ _)
inductive ou where
 | L0 (i_100 i_101:Int)
def Km (n0:Nat) (f0:FnV):ou->Env × List O × Option Ex
 | .L0 i_100 i_101=>([(4,vi i_100),(3,vi i_101),(0,V.sl n0 (elV tp1 f0))],[],none)
def OC:ou->JJ
 | .L0 i_100 i_101=>(0,[])
def vH (n0:Nat) (f0:FnV) (cx:List Cx):Lp JJ:=lpT (atT (aN JJ iG u0 Nr [V.sl n0 (elV tp1 f0)]) [false])
def OG (n0:Nat) (f0:FnV):JJ->Lp JJ
 | (0,cx)=>vH n0 f0 cx
 | (_,cx)=>vH n0 f0 cx
def Wj (n0:Nat) (f0:FnV):LD JJ ou:=⟨OC,OG n0 f0,Km n0 f0⟩
def tG (n0:Nat) (f0:FnV):ou->RT ou
 | .L0 i_100 i_101=>.asm (true=true->n0<=9223372036854775807) (.br (decide (i_100 < (↑n0:Int))) (.ob (decide (0<=i_100/\i_100 < (↑n0:Int))) (.next [] (ou.L0 (i64.wrap (i_100+1)) (min i_101 (jv0 (f0 i_100.toNat)))) [])) (.ret (vi i_101)))
def FO (n0:Nat) (f0:FnV):RT ou:=.asm (true=true->n0<=9223372036854775807) (.br (decide ((↑n0:Int) < 1)) (.fail) (.ob (decide ((0:Int)<=0/\0 < (↑n0:Int))) (.enter [] (ou.L0 (1) (jv0 (f0 0))) [])))
theorem JK (n0:Nat) (f0:FnV):dw iG u0 (Wj n0 f0) (aN JJ iG u0 Nr [V.sl n0 (elV tp1 f0)]) (FO n0 f0) (tG n0 f0):=⟨⟨by kernel_rfl,by kernel_rfl⟩,fun s=>match s with | .L0 i_100 i_101=>⟨by kernel_rfl,by kernel_rfl⟩⟩
def mnZ (p:Nat->Int) (z:Int):Nat->Int
 | 0=>z
 | k+1=>min (mnZ p z k) (p k)
def d9 (n0:Nat) (f0:FnV):Int:=mnZ (fun i=>jv0 (f0 i)) (jv0 (f0 0)) n0
theorem BK (n0:Nat) (f0:FnV) (hp:1<=n0):evR (Ev (tG n0 f0)) (FO n0 f0) (.int .i64 (d9 n0 f0)):=by
 refine yab fun hn=>oo (dqf (by omega)) (aH (dqt (by omega)) (aD ?_))
 have key:=dF (n:=n0) (P:=fun i=>1<=i->Ev (tG n0 f0) (.L0 i (mnZ (fun i=>jv0 (f0 i)) (jv0 (f0 0)) i)) (.int .i64 (d9 n0 f0))) fun i hi ih h1=>by
  refine Ev.of rfl (aE fun _=>aw (fun h=>?_) (fun h=>ah ?_))
  ·have hlt:i < n0:=by have:=of_decide_eq_true h; omega
   refine yac hlt (aR ?_)
   rw [iE hlt hn]
   exact ih hlt (by omega)
  ·have:i=n0:=by have:=of_decide_eq_false h; omega
   subst this; rfl
 have:=key 1 hp (Nat.le_refl _)
 rwa [show mnZ (fun i=>jv0 (f0 i)) (jv0 (f0 0)) 1=jv0 (f0 0) from Int.min_self _] at this
theorem RV (n0:Nat) (f0:FnV) (hp:1<=n0):evR (Ev (tG n0 f0)) (FO n0 f0) (.int .i64 (d9 n0 (elV tp1 f0))):=BK n0 f0 hp
def LR:ap:=mkC [.sl tp1] (fun
 | [.sl n0 f0]=>1<=n0
 | _=>False) fun
 | [.sl n0 f0]=>.int .i64 (d9 n0 f0)
 | _=>.any
theorem EJ:(vP LR).Ok Tryz.prog 192:=mkE nI Tryz.func192 (by kernel_rfl) fun ds hp=>rfs (JK ..) (RV _ _ hp)
inductive oG where
 | L0 (i_100 i_101:Int)
def IC (s0:ByteArray) (n1:Nat) (f1:FnV) (n3:Nat) (f3:FnV) (n5:Nat) (f5:FnV) (x7 x8:Int):oG->Env × List O × Option Ex
 | .L0 i_100 i_101=>([(11,vi i_100),(10,vi (↑n5:Int)),(9,V.sl n5 (elV [Ty.sl tp1] f5)),(3,vi i_101)],[],none)
def S4:oG->JJ
 | .L0 i_100 i_101=>(0,[])
def vU (s0:ByteArray) (n1:Nat) (f1:FnV) (n3:Nat) (f3:FnV) (n5:Nat) (f5:FnV) (x7 x8:Int) (cx:List Cx):Lp JJ:=lpT (atT (aN JJ iG u0 Nj [V.agg [V.str s0,V.sl n1 (elV tp1 f1),V.sl n3 (elV tp1 f3),V.sl n5 (elV [Ty.sl tp1] f5),vi x7,vi x8]]) [])
def QH (s0:ByteArray) (n1:Nat) (f1:FnV) (n3:Nat) (f3:FnV) (n5:Nat) (f5:FnV) (x7 x8:Int):JJ->Lp JJ
 | (0,cx)=>vU s0 n1 f1 n3 f3 n5 f5 x7 x8 cx
 | (_,cx)=>vU s0 n1 f1 n3 f3 n5 f5 x7 x8 cx
def T9 (s0:ByteArray) (n1:Nat) (f1:FnV) (n3:Nat) (f3:FnV) (n5:Nat) (f5:FnV) (x7 x8:Int):LD JJ oG:=⟨S4,QH s0 n1 f1 n3 f3 n5 f5 x7 x8,IC s0 n1 f1 n3 f3 n5 f5 x7 x8⟩
def tx (s0:ByteArray) (n1:Nat) (f1:FnV) (n3:Nat) (f3:FnV) (n5:Nat) (f5:FnV) (x7 x8:Int):oG->RT oG
 | .L0 i_100 i_101=>.br (decide (i_100 < (↑n5:Int))) (.ob (decide (0<=i_100/\i_100 < (↑n5:Int))) (.obp ((1:Nat)<=am (hdV (f5 i_100.toNat))) (.obt (.next [] (oG.L0 (i64.wrap (i_100+1)) (max i_101 (dB (am (hdV (f5 i_100.toNat))) fun i=>ae tp1 (atV (hdV (f5 i_100.toNat)) i)))) [])))) (.ret (vi i_101))
def EP (s0:ByteArray) (n1:Nat) (f1:FnV) (n3:Nat) (f3:FnV) (n5:Nat) (f5:FnV) (x7 x8:Int):RT oG:=.asm (true=true->n5<=9223372036854775807) (.enter [] (oG.L0 (0) (x7)) [])
theorem JI (s0:ByteArray) (n1:Nat) (f1:FnV) (n3:Nat) (f3:FnV) (n5:Nat) (f5:FnV) (x7 x8:Int):dw iG u0 (T9 s0 n1 f1 n3 f3 n5 f5 x7 x8) (aN JJ iG u0 Nj [V.agg [V.str s0,V.sl n1 (elV tp1 f1),V.sl n3 (elV tp1 f3),V.sl n5 (elV [Ty.sl tp1] f5),vi x7,vi x8]]) (EP s0 n1 f1 n3 f3 n5 f5 x7 x8) (tx s0 n1 f1 n3 f3 n5 f5 x7 x8):=⟨⟨by kernel_rfl,by kernel_rfl⟩,fun s=>match s with | .L0 i_100 i_101=>⟨by kernel_rfl,by kernel_rfl⟩⟩
def uu (f5:FnV) (i:Nat):Int:=dB (am (hdV (f5 i))) fun j=>ae tp1 (atV (hdV (f5 i)) j)
def l7 (n5:Nat) (f5:FnV) (x7:Int):Int:=mxZ (fun i=>uu f5 i) x7 n5
theorem C9 (s0:ByteArray) (n1:Nat) (f1:FnV) (n3:Nat) (f3:FnV) (n5:Nat) (f5:FnV) (x7 x8:Int) (hp:∀ i,i < n5->1<=am (hdV (f5 i))):evR (Ev (tx s0 n1 f1 n3 f3 n5 f5 x7 x8)) (EP s0 n1 f1 n3 f3 n5 f5 x7 x8) (.int .i64 (l7 n5 f5 x7)):=by
 refine yab fun hn=>aD (wX hn (P:=fun x=>Ev (tx s0 n1 f1 n3 f3 n5 f5 x7 x8) (.L0 x (mxZ (fun i=>uu f5 i) x7 x.toNat)) (.int .i64 (l7 n5 f5 x7))) (fun i hlt nx=>?_) (Ev.of rfl (bu (ah rfl))))
 rw [show (i64.wrap ((i:Int)+1)).toNat=i+1 by rw [iE hlt hn]; rfl] at nx
 exact Ev.of rfl (bK hlt (yac hlt (aO (hp i hlt) (ac (aR nx)))))
theorem ybd (s0:ByteArray) (n1:Nat) (f1:FnV) (n3:Nat) (f3:FnV) (n5:Nat) (f5:FnV) (x7 x8:Int) (hp:∀ i,i < n5->1<=am (hdV ((elV [.sl tp1] f5) i))):evR (Ev (tx s0 n1 f1 n3 f3 n5 f5 x7 x8)) (EP s0 n1 f1 n3 f3 n5 f5 x7 x8) (.int .i64 (l7 n5 (elV [.sl tp1] f5) x7)):=C9 s0 n1 f1 n3 f3 n5 f5 x7 x8 hp
def NY:ap:=mkC [.agg [.str,.sl tp1,.sl tp1,.sl [.sl tp1],.int .i64,.int .i64]] (fun
 | [.agg [.str s0,.sl n1 f1,.sl n3 f3,.sl n5 f5,.int _ x7,.int _ x8]]=>∀ i,i < n5->1<=am (hdV (f5 i))
 | _=>False) fun
 | [.agg [.str s0,.sl n1 f1,.sl n3 f3,.sl n5 f5,.int _ x7,.int _ x8]]=>.int .i64 (l7 n5 f5 x7)
 | _=>.any
theorem QL:(vP NY).Ok Tryz.prog 62:=mkE nI Tryz.func62 (by kernel_rfl) fun ds hp=>rfs (JI ..) (ybd _ _ _ _ _ _ _ _ _ hp)
end
noncomputable section
def yaC:aY:=(114,.con NB)::(121,.con Lz)::(221,.con Na)::(192,.con LR)::(62,.con NY)::iG
theorem Dq:aQ Tryz.prog eqs its yaC:=.con P2 (.con QX (.con Qo (.con EJ (.con QL (nI)))))
def uu5:Unr:=fun _=>5
def WJ (n0:Nat) (f0:FnV):RT Empty:=.obc (.obt (.ret (V.bool (decide (0<=uX n0 (elV tp1 f0))))))
theorem QK (n0:Nat) (f0:FnV):Fit noD (aN JJ yaC u0 s99 [V.sl n0 (elV tp1 f0),V.fn 153 [] []]) (WJ n0 f0):=⟨by kernel_rfl,by kernel_rfl⟩
def sR (n0:Nat) (f0:FnV):Bool:=decide (0<=uX n0 (elV tp1 f0))
def P1 (n0:Nat) (f0:FnV):V:=.bool (sR n0 f0)
theorem Wl (n0:Nat) (f0:FnV):evR noE (WJ n0 f0) (P1 n0 f0):=ao (ac (ah (by unfold P1 sR; rfl)))
def VK:ap:=mkC [.sl tp1,.fn 153 [] []] (fun _=>True) fun
 | [.sl n0 f0,.fn _ [] []]=>P1 n0 f0
 | _=>.any
theorem Vo:(vP VK).Ok Tryz.prog 152:=mkE Dq Tryz.func152 (by kernel_rfl) fun ds hp=>rf0 (QK ..) (Wl _ _)
end
noncomputable section
def rQ:aY:=(152,.con VK)::yaC
theorem wY:aQ Tryz.prog eqs its rQ:=.con Vo (Dq)
def Ly (n0:Nat) (f0:FnV):RT Empty:=.obc (.obt (.ret (V.bool !sR n0 (elV tp1 f0))))
theorem GE (n0:Nat) (f0:FnV):Fit noD (aN JJ rQ u0 NV [V.sl n0 (elV tp1 f0)]) (Ly n0 f0):=⟨by kernel_rfl,by kernel_rfl⟩
def mQ (n0:Nat) (f0:FnV):Bool:=!sR n0 (elV tp1 f0)
def C6 (n0:Nat) (f0:FnV):V:=.bool (mQ n0 f0)
theorem Pf (n0:Nat) (f0:FnV):evR noE (Ly n0 f0) (C6 n0 f0):=ao (ac (ah (by unfold C6 mQ; rfl)))
def Mu:ap:=mkC [.sl tp1] (fun _=>True) fun
 | [.sl n0 f0]=>C6 n0 f0
 | _=>.any
theorem Pl:(vP Mu).Ok Tryz.prog 71:=mkE wY Tryz.func71 (by kernel_rfl) fun ds hp=>rf0 (GE ..) (Pf _ _)
inductive oe where
 | L0 (i_100 i_101 i_102:Int)
def KY (n0:Nat) (f0:FnV) (x2:Int):oe->Env × List O × Option Ex
 | .L0 i_100 i_101 i_102=>([(8,vi i_100),(7,vi i_101),(6,vi i_102),(0,V.sl n0 (elV tp1 f0)),(1,vi x2)],[],none)
def Qv:oe->JJ
 | .L0 i_100 i_101 i_102=>(0,[])
def yao (n0:Nat) (f0:FnV) (x2:Int) (cx:List Cx):Lp JJ:=lpT (atT (aN JJ rQ u0 K8 [V.sl n0 (elV tp1 f0),vi x2]) [])
def RA (n0:Nat) (f0:FnV) (x2:Int):JJ->Lp JJ
 | (0,cx)=>yao n0 f0 x2 cx
 | (_,cx)=>yao n0 f0 x2 cx
def Vy (n0:Nat) (f0:FnV) (x2:Int):LD JJ oe:=⟨Qv,RA n0 f0 x2,KY n0 f0 x2⟩
def tA (n0:Nat) (f0:FnV) (x2:Int):oe->RT oe
 | .L0 i_100 i_101 i_102=>.asm (true=true->n0<=9223372036854775807) (.br (decide (i_100 < (↑n0:Int))) (.ob (decide (0<=i_100/\i_100 < (↑n0:Int))) (.ob (decide (0<=i_100/\i_100 < (↑n0:Int))) (.next [] (oe.L0 (i64.wrap (i_100+1)) (max i_101 (jv0 (f0 i_100.toNat))) (min i_102 (jv0 (f0 i_100.toNat)))) []))) (.obc (.obt (.obc (.obt (.obp (bJ (i64.wrap ((1000000:Int) * x2))=(0:Int)->False) (.obt (.obp (bS (i64.wrap ((1000000:Int) * x2))=(0:Int)->False) (.obt (.br (decide (i_102 < 0)) (.obp (bS (i64.wrap ((1000000:Int) * x2))=(0:Int)->False) (.obt (.br (decide (i_101 < 0)) (.obp (bJ (i64.wrap ((1000000:Int) * x2))=(0:Int)->False) (.obt (.obc (.obt (.obc (.obt (.ret (V.tup [vi (c6 (eH (i64.wrap (1000 * i_102)) (bS (i64.wrap (1000000 * x2))))),vi (c6 (gX (i64.wrap (1000 * i_101)) (bJ (i64.wrap (1000000 * x2)))))])))))))) (.obc (.obt (.obc (.obt (.ret (V.tup [vi (c6 (eH (i64.wrap (1000 * i_102)) (bS (i64.wrap (1000000 * x2))))),vi (c6 (gX (i64.wrap (1000 * i_101)) (bS (i64.wrap (1000000 * x2)))))]))))))))) (.br (decide (i_101 < 0)) (.obp (bJ (i64.wrap ((1000000:Int) * x2))=(0:Int)->False) (.obt (.obc (.obt (.obc (.obt (.ret (V.tup [vi (c6 (eH (i64.wrap (1000 * i_102)) (bJ (i64.wrap (1000000 * x2))))),vi (c6 (gX (i64.wrap (1000 * i_101)) (bJ (i64.wrap (1000000 * x2)))))])))))))) (.obc (.obt (.obc (.obt (.ret (V.tup [vi (c6 (eH (i64.wrap (1000 * i_102)) (bJ (i64.wrap (1000000 * x2))))),vi (c6 (gX (i64.wrap (1000 * i_101)) (bS (i64.wrap (1000000 * x2)))))])))))))))))))))))
def Gk (n0:Nat) (f0:FnV) (x2:Int):RT oe:=.ob (decide ((0:Int)<=0/\0 < (↑n0:Int))) (.ob (decide ((0:Int)<=0/\0 < (↑n0:Int))) (.enter [] (oe.L0 (0) (jv0 (f0 0)) (jv0 (f0 0))) []))
theorem IH (n0:Nat) (f0:FnV) (x2:Int):dw rQ u0 (Vy n0 f0 x2) (aN JJ rQ u0 K8 [V.sl n0 (elV tp1 f0),vi x2]) (Gk n0 f0 x2) (tA n0 f0 x2):=⟨⟨by kernel_rfl,by kernel_rfl⟩,fun s=>match s with | .L0 i_100 i_101 i_102=>⟨by kernel_rfl,by kernel_rfl⟩⟩
def qlo (m x:Int):Int:=bif decide (m < 0) then c6 (eH (i64.wrap (1000 * m)) (bS (i64.wrap (1000000 * x)))) else c6 (eH (i64.wrap (1000 * m)) (bJ (i64.wrap (1000000 * x))))
def qhi (m x:Int):Int:=bif decide (m < 0) then c6 (gX (i64.wrap (1000 * m)) (bJ (i64.wrap (1000000 * x)))) else c6 (gX (i64.wrap (1000 * m)) (bS (i64.wrap (1000000 * x))))
def lst (f0:FnV) (i:Nat):Int:=jv0 (f0 i)
def ei (n0:Nat) (f0:FnV) (x2:Int):Int:=qlo (mnZ (lst f0) (lst f0 0) n0) x2
def ej (n0:Nat) (f0:FnV) (x2:Int):Int:=qhi (mxZ (lst f0) (lst f0 0) n0) x2
def Rts (x:Int):Prop:=(bJ (i64.wrap (1000000 * x))=0->False)/\(bS (i64.wrap (1000000 * x))=0->False)
theorem Bp (n0:Nat) (f0:FnV) (x2:Int) (hp:1<=n0/\Rts x2):evR (Ev (tA n0 f0 x2)) (Gk n0 f0 x2) (.tup [.int .i64 (ei n0 f0 x2),.int .i64 (ej n0 f0 x2)]):=by
 obtain ⟨h1,h2,h3⟩:=hp
 refine aH (dqt (by omega)) (aH (dqt (by omega)) (aD ?_))
 have key:=dF (n:=n0) (P:=fun i=>Ev (tA n0 f0 x2) (.L0 i (mxZ (lst f0) (lst f0 0) i) (mnZ (lst f0) (lst f0 0) i)) (.tup [.int .i64 (ei n0 f0 x2),.int .i64 (ej n0 f0 x2)])) fun i hi ih=>by
  refine Ev.of rfl (yab fun hn=>aw (fun h=>?_) (fun h=>?_))
  ·have hlt:i < n0:=by have:=of_decide_eq_true h; omega
   refine yac hlt (yac hlt (aR ?_))
   rw [iE hlt hn]
   exact ih hlt
  ·have:i=n0:=by have:=of_decide_eq_false h; omega
   subst this
   refine ao (ac (ao (ac (aO h2 (ac (aO h3 (ac (aw (fun h0=>?_) (fun h0=>?_)))))))))
   ·refine aO h3 (ac (aw (fun h1=>?_) (fun h1=>?_)))
    ·exact aO h2 (ac (ao (ac (ao (ac (ah (by unfold ei ej qlo qhi; rw [h0,h1]; rfl)))))))
    ·exact ao (ac (ao (ac (ah (by unfold ei ej qlo qhi; rw [h0,h1]; rfl)))))
   ·refine aw (fun h1=>?_) (fun h1=>?_)
    ·exact aO h2 (ac (ao (ac (ao (ac (ah (by unfold ei ej qlo qhi; rw [h0,h1]; rfl)))))))
    ·exact ao (ac (ao (ac (ah (by unfold ei ej qlo qhi; rw [h0,h1]; rfl)))))
 exact key 0 (Nat.zero_le _)
theorem QJ (n0:Nat) (f0:FnV) (x2:Int) (hp:1<=n0/\Rts x2):evR (Ev (tA n0 f0 x2)) (Gk n0 f0 x2) (.tup [.int .i64 (ei n0 (elV tp1 f0) x2),.int .i64 (ej n0 (elV tp1 f0) x2)]):=Bp n0 f0 x2 hp
def Np:ap:=mkC [.sl tp1,.int .i64] (fun
 | [.sl n0 f0,.int _ x2]=>1<=n0/\Rts x2
 | _=>False) fun
 | [.sl n0 f0,.int _ x2]=>.tup [.int .i64 (ei n0 f0 x2),.int .i64 (ej n0 f0 x2)]
 | _=>.any
theorem Sz:(vP Np).Ok Tryz.prog 220:=mkE wY Tryz.func220 (by kernel_rfl) fun ds hp=>rfs (IH ..) (QJ _ _ _ hp)
end
noncomputable section
def yC:aY:=(71,.con Mu)::(220,.con Np)::rQ
theorem wF:aQ Tryz.prog eqs its yC:=.con Pl (.con Sz (wY))
def Br (x0 x1 x2 x3 x4 x5 x6 x7 x8 x9 x10 x11:Int):RT Empty:=.brt (.obt (.obt (.obt (.obc (.obt (.obt (.brt (.obt (.obt (.obt (.obc (.obt (.obt (.brt (.obt (.obt (.obt (.obc (.obt (.obt (.brt (.obt (.obt (.obt (.obc (.obt (.obt (.brf (.obp ((1:Nat)<=(4:Nat)) (.obt (.obp ((1:Nat)<=(4:Nat)) (.obt (.br (decide (d9 4 (elV tp1 (bA [vi (i64.wrap (1000 * aA x0 x1 x2 x3)),vi (i64.wrap (1000 * aA x0 x1 x4 x5)),vi (i64.wrap (1000 * aA x0 x1 x6 x7)),vi (i64.wrap (1000 * aA x0 x1 x8 x9))] 0 1)) < 0)) (.br (decide (dB 4 (elV tp1 (bA [vi (i64.wrap (1000 * aA x0 x1 x2 x3)),vi (i64.wrap (1000 * aA x0 x1 x4 x5)),vi (i64.wrap (1000 * aA x0 x1 x6 x7)),vi (i64.wrap (1000 * aA x0 x1 x8 x9))] 0 1)) < 0)) (.obp (x11=(0:Int)->False) (.obt (.obc (.obt (.obp (x10=(0:Int)->False) (.obt (.obc (.obt (.ret (V.tup [vi (bh (cw (d9 4 (elV tp1 (bA [vi (i64.wrap (1000 * aA x0 x1 x2 x3)),vi (i64.wrap (1000 * aA x0 x1 x4 x5)),vi (i64.wrap (1000 * aA x0 x1 x6 x7)),vi (i64.wrap (1000 * aA x0 x1 x8 x9))] 0 1))) x11)),vi (bh (c8 (dB 4 (elV tp1 (bA [vi (i64.wrap (1000 * aA x0 x1 x2 x3)),vi (i64.wrap (1000 * aA x0 x1 x4 x5)),vi (i64.wrap (1000 * aA x0 x1 x6 x7)),vi (i64.wrap (1000 * aA x0 x1 x8 x9))] 0 1))) x10))])))))))))) (.obp (x11=(0:Int)->False) (.obt (.obc (.obt (.obp (x11=(0:Int)->False) (.obt (.obc (.obt (.ret (V.tup [vi (bh (cw (d9 4 (elV tp1 (bA [vi (i64.wrap (1000 * aA x0 x1 x2 x3)),vi (i64.wrap (1000 * aA x0 x1 x4 x5)),vi (i64.wrap (1000 * aA x0 x1 x6 x7)),vi (i64.wrap (1000 * aA x0 x1 x8 x9))] 0 1))) x11)),vi (bh (c8 (dB 4 (elV tp1 (bA [vi (i64.wrap (1000 * aA x0 x1 x2 x3)),vi (i64.wrap (1000 * aA x0 x1 x4 x5)),vi (i64.wrap (1000 * aA x0 x1 x6 x7)),vi (i64.wrap (1000 * aA x0 x1 x8 x9))] 0 1))) x11))]))))))))))) (.br (decide (dB 4 (elV tp1 (bA [vi (i64.wrap (1000 * aA x0 x1 x2 x3)),vi (i64.wrap (1000 * aA x0 x1 x4 x5)),vi (i64.wrap (1000 * aA x0 x1 x6 x7)),vi (i64.wrap (1000 * aA x0 x1 x8 x9))] 0 1)) < 0)) (.obp (x10=(0:Int)->False) (.obt (.obc (.obt (.obp (x10=(0:Int)->False) (.obt (.obc (.obt (.ret (V.tup [vi (bh (cw (d9 4 (elV tp1 (bA [vi (i64.wrap (1000 * aA x0 x1 x2 x3)),vi (i64.wrap (1000 * aA x0 x1 x4 x5)),vi (i64.wrap (1000 * aA x0 x1 x6 x7)),vi (i64.wrap (1000 * aA x0 x1 x8 x9))] 0 1))) x10)),vi (bh (c8 (dB 4 (elV tp1 (bA [vi (i64.wrap (1000 * aA x0 x1 x2 x3)),vi (i64.wrap (1000 * aA x0 x1 x4 x5)),vi (i64.wrap (1000 * aA x0 x1 x6 x7)),vi (i64.wrap (1000 * aA x0 x1 x8 x9))] 0 1))) x10))])))))))))) (.obp (x10=(0:Int)->False) (.obt (.obc (.obt (.obp (x11=(0:Int)->False) (.obt (.obc (.obt (.ret (V.tup [vi (bh (cw (d9 4 (elV tp1 (bA [vi (i64.wrap (1000 * aA x0 x1 x2 x3)),vi (i64.wrap (1000 * aA x0 x1 x4 x5)),vi (i64.wrap (1000 * aA x0 x1 x6 x7)),vi (i64.wrap (1000 * aA x0 x1 x8 x9))] 0 1))) x10)),vi (bh (c8 (dB 4 (elV tp1 (bA [vi (i64.wrap (1000 * aA x0 x1 x2 x3)),vi (i64.wrap (1000 * aA x0 x1 x4 x5)),vi (i64.wrap (1000 * aA x0 x1 x6 x7)),vi (i64.wrap (1000 * aA x0 x1 x8 x9))] 0 1))) x11))]))))))))))))))))))))))))))))))))))))))))))))
theorem BN (x0 x1 x2 x3 x4 x5 x6 x7 x8 x9 x10 x11:Int):Fit noD (aN JJ yC uu5 Gr [V.fn 155 [V.agg [vi x0,vi x1]] [],V.pd [vi x2,vi x3,vi x4,vi x5,vi x6,vi x7,vi x8,vi x9],V.pd [vi x10],V.pd [vi x11]]) (Br x0 x1 x2 x3 x4 x5 x6 x7 x8 x9 x10 x11):=⟨by kernel_rfl,by kernel_rfl⟩
def fi (x0 x1 x2 x3 x4 x5 x6 x7 x8 x9 x10 x11:Int):Int:=bif decide (d9 4 (elV tp1 (bA [vi (i64.wrap (1000 * aA x0 x1 x2 x3)),vi (i64.wrap (1000 * aA x0 x1 x4 x5)),vi (i64.wrap (1000 * aA x0 x1 x6 x7)),vi (i64.wrap (1000 * aA x0 x1 x8 x9))] 0 1)) < 0) then bh (cw (d9 4 (elV tp1 (bA [vi (i64.wrap (1000 * aA x0 x1 x2 x3)),vi (i64.wrap (1000 * aA x0 x1 x4 x5)),vi (i64.wrap (1000 * aA x0 x1 x6 x7)),vi (i64.wrap (1000 * aA x0 x1 x8 x9))] 0 1))) x11) else bh (cw (d9 4 (elV tp1 (bA [vi (i64.wrap (1000 * aA x0 x1 x2 x3)),vi (i64.wrap (1000 * aA x0 x1 x4 x5)),vi (i64.wrap (1000 * aA x0 x1 x6 x7)),vi (i64.wrap (1000 * aA x0 x1 x8 x9))] 0 1))) x10)
def fo (x0 x1 x2 x3 x4 x5 x6 x7 x8 x9 x10 x11:Int):Int:=bif decide (dB 4 (elV tp1 (bA [vi (i64.wrap (1000 * aA x0 x1 x2 x3)),vi (i64.wrap (1000 * aA x0 x1 x4 x5)),vi (i64.wrap (1000 * aA x0 x1 x6 x7)),vi (i64.wrap (1000 * aA x0 x1 x8 x9))] 0 1)) < 0) then bh (c8 (dB 4 (elV tp1 (bA [vi (i64.wrap (1000 * aA x0 x1 x2 x3)),vi (i64.wrap (1000 * aA x0 x1 x4 x5)),vi (i64.wrap (1000 * aA x0 x1 x6 x7)),vi (i64.wrap (1000 * aA x0 x1 x8 x9))] 0 1))) x10) else bh (c8 (dB 4 (elV tp1 (bA [vi (i64.wrap (1000 * aA x0 x1 x2 x3)),vi (i64.wrap (1000 * aA x0 x1 x4 x5)),vi (i64.wrap (1000 * aA x0 x1 x6 x7)),vi (i64.wrap (1000 * aA x0 x1 x8 x9))] 0 1))) x11)
def ni (x0 x1 x2 x3 x4 x5 x6 x7 x8 x9 x10 x11:Int):V:=.tup [.int i64 (fi x0 x1 x2 x3 x4 x5 x6 x7 x8 x9 x10 x11),.int i64 (fo x0 x1 x2 x3 x4 x5 x6 x7 x8 x9 x10 x11)]
theorem Hp (x0 x1 x2 x3 x4 x5 x6 x7 x8 x9 x10 x11:Int) (hp:(x10=0->False)/\(x11=0->False)):evR noE (Br x0 x1 x2 x3 x4 x5 x6 x7 x8 x9 x10 x11) (ni x0 x1 x2 x3 x4 x5 x6 x7 x8 x9 x10 x11):=dY (ac (ac (ac (ao (ac (ac (dY (ac (ac (ac (ao (ac (ac (dY (ac (ac (ac (ao (ac (ac (dY (ac (ac (ac (ao (ac (ac (jJ (aO (by first | assumption | ((first | exact hp.1 | exact hp.2 | decide))) (ac (aO (by first | assumption | ((first | exact hp.1 | exact hp.2 | decide))) (ac (aw (fun h0=>aw (fun h1=>aO (by first | assumption | ((first | exact hp.1 | exact hp.2 | decide))) (ac (ao (ac (aO (by first | assumption | ((first | exact hp.1 | exact hp.2 | decide))) (ac (ao (ac (ah (by unfold ni fi fo; try rw [h0]; try rw [h1]; rfl)))))))))) (fun h1=>aO (by first | assumption | ((first | exact hp.1 | exact hp.2 | decide))) (ac (ao (ac (aO (by first | assumption | ((first | exact hp.1 | exact hp.2 | decide))) (ac (ao (ac (ah (by unfold ni fi fo; try rw [h0]; try rw [h1]; rfl))))))))))) (fun h0=>aw (fun h1=>aO (by first | assumption | ((first | exact hp.1 | exact hp.2 | decide))) (ac (ao (ac (aO (by first | assumption | ((first | exact hp.1 | exact hp.2 | decide))) (ac (ao (ac (ah (by unfold ni fi fo; try rw [h0]; try rw [h1]; rfl)))))))))) (fun h1=>aO (by first | assumption | ((first | exact hp.1 | exact hp.2 | decide))) (ac (ao (ac (aO (by first | assumption | ((first | exact hp.1 | exact hp.2 | decide))) (ac (ao (ac (ah (by unfold ni fi fo; try rw [h0]; try rw [h1]; rfl))))))))))))))))))))))))))))))))))))))))))))
def Cu:ap:=mkC [.fn 155 [.agg tp2] [],.pd [.int .i64,.int .i64,.int .i64,.int .i64,.int .i64,.int .i64,.int .i64,.int .i64],.pd tp1,.pd tp1] (fun
 | [.fn _ [.agg [.int _ x0,.int _ x1]] [],.pd [.int _ x2,.int _ x3,.int _ x4,.int _ x5,.int _ x6,.int _ x7,.int _ x8,.int _ x9],.pd [.int _ x10],.pd [.int _ x11]]=>(x10=0->False)/\(x11=0->False)
 | _=>False) fun
 | [.fn _ [.agg [.int _ x0,.int _ x1]] [],.pd [.int _ x2,.int _ x3,.int _ x4,.int _ x5,.int _ x6,.int _ x7,.int _ x8,.int _ x9],.pd [.int _ x10],.pd [.int _ x11]]=>ni x0 x1 x2 x3 x4 x5 x6 x7 x8 x9 x10 x11
 | _=>.any
theorem Gx:(vP Cu).Ok Tryz.prog 191:=mkE wF Tryz.func191 (by kernel_rfl) fun ds hp=>rf0 (BN ..) (Hp _ _ _ _ _ _ _ _ _ _ _ _ hp)
def yav (x0 x1 x2 x3 x4 x5 x6 x7 x8 x9 x10 x11:Int):RT Empty:=.brt (.obt (.obt (.obt (.obc (.obt (.obt (.brt (.obt (.obt (.obt (.obc (.obt (.obt (.brt (.obt (.obt (.obt (.obc (.obt (.obt (.brt (.obt (.obt (.obt (.obc (.obt (.obt (.brf (.obp ((1:Nat)<=(4:Nat)) (.obt (.obp ((1:Nat)<=(4:Nat)) (.obt (.br (decide (d9 4 (elV tp1 (bA [vi (i64.wrap (1000 * aB x0 x1 x2 x3)),vi (i64.wrap (1000 * aB x0 x1 x4 x5)),vi (i64.wrap (1000 * aB x0 x1 x6 x7)),vi (i64.wrap (1000 * aB x0 x1 x8 x9))] 0 1)) < 0)) (.br (decide (dB 4 (elV tp1 (bA [vi (i64.wrap (1000 * aB x0 x1 x2 x3)),vi (i64.wrap (1000 * aB x0 x1 x4 x5)),vi (i64.wrap (1000 * aB x0 x1 x6 x7)),vi (i64.wrap (1000 * aB x0 x1 x8 x9))] 0 1)) < 0)) (.obp (x11=(0:Int)->False) (.obt (.obc (.obt (.obp (x10=(0:Int)->False) (.obt (.obc (.obt (.ret (V.tup [vi (bh (cw (d9 4 (elV tp1 (bA [vi (i64.wrap (1000 * aB x0 x1 x2 x3)),vi (i64.wrap (1000 * aB x0 x1 x4 x5)),vi (i64.wrap (1000 * aB x0 x1 x6 x7)),vi (i64.wrap (1000 * aB x0 x1 x8 x9))] 0 1))) x11)),vi (bh (c8 (dB 4 (elV tp1 (bA [vi (i64.wrap (1000 * aB x0 x1 x2 x3)),vi (i64.wrap (1000 * aB x0 x1 x4 x5)),vi (i64.wrap (1000 * aB x0 x1 x6 x7)),vi (i64.wrap (1000 * aB x0 x1 x8 x9))] 0 1))) x10))])))))))))) (.obp (x11=(0:Int)->False) (.obt (.obc (.obt (.obp (x11=(0:Int)->False) (.obt (.obc (.obt (.ret (V.tup [vi (bh (cw (d9 4 (elV tp1 (bA [vi (i64.wrap (1000 * aB x0 x1 x2 x3)),vi (i64.wrap (1000 * aB x0 x1 x4 x5)),vi (i64.wrap (1000 * aB x0 x1 x6 x7)),vi (i64.wrap (1000 * aB x0 x1 x8 x9))] 0 1))) x11)),vi (bh (c8 (dB 4 (elV tp1 (bA [vi (i64.wrap (1000 * aB x0 x1 x2 x3)),vi (i64.wrap (1000 * aB x0 x1 x4 x5)),vi (i64.wrap (1000 * aB x0 x1 x6 x7)),vi (i64.wrap (1000 * aB x0 x1 x8 x9))] 0 1))) x11))]))))))))))) (.br (decide (dB 4 (elV tp1 (bA [vi (i64.wrap (1000 * aB x0 x1 x2 x3)),vi (i64.wrap (1000 * aB x0 x1 x4 x5)),vi (i64.wrap (1000 * aB x0 x1 x6 x7)),vi (i64.wrap (1000 * aB x0 x1 x8 x9))] 0 1)) < 0)) (.obp (x10=(0:Int)->False) (.obt (.obc (.obt (.obp (x10=(0:Int)->False) (.obt (.obc (.obt (.ret (V.tup [vi (bh (cw (d9 4 (elV tp1 (bA [vi (i64.wrap (1000 * aB x0 x1 x2 x3)),vi (i64.wrap (1000 * aB x0 x1 x4 x5)),vi (i64.wrap (1000 * aB x0 x1 x6 x7)),vi (i64.wrap (1000 * aB x0 x1 x8 x9))] 0 1))) x10)),vi (bh (c8 (dB 4 (elV tp1 (bA [vi (i64.wrap (1000 * aB x0 x1 x2 x3)),vi (i64.wrap (1000 * aB x0 x1 x4 x5)),vi (i64.wrap (1000 * aB x0 x1 x6 x7)),vi (i64.wrap (1000 * aB x0 x1 x8 x9))] 0 1))) x10))])))))))))) (.obp (x10=(0:Int)->False) (.obt (.obc (.obt (.obp (x11=(0:Int)->False) (.obt (.obc (.obt (.ret (V.tup [vi (bh (cw (d9 4 (elV tp1 (bA [vi (i64.wrap (1000 * aB x0 x1 x2 x3)),vi (i64.wrap (1000 * aB x0 x1 x4 x5)),vi (i64.wrap (1000 * aB x0 x1 x6 x7)),vi (i64.wrap (1000 * aB x0 x1 x8 x9))] 0 1))) x10)),vi (bh (c8 (dB 4 (elV tp1 (bA [vi (i64.wrap (1000 * aB x0 x1 x2 x3)),vi (i64.wrap (1000 * aB x0 x1 x4 x5)),vi (i64.wrap (1000 * aB x0 x1 x6 x7)),vi (i64.wrap (1000 * aB x0 x1 x8 x9))] 0 1))) x11))]))))))))))))))))))))))))))))))))))))))))))))
theorem Ek (x0 x1 x2 x3 x4 x5 x6 x7 x8 x9 x10 x11:Int):Fit noD (aN JJ yC uu5 Gr [V.fn 154 [V.agg [vi x0,vi x1]] [],V.pd [vi x2,vi x3,vi x4,vi x5,vi x6,vi x7,vi x8,vi x9],V.pd [vi x10],V.pd [vi x11]]) (yav x0 x1 x2 x3 x4 x5 x6 x7 x8 x9 x10 x11):=⟨by kernel_rfl,by kernel_rfl⟩
def fm (x0 x1 x2 x3 x4 x5 x6 x7 x8 x9 x10 x11:Int):Int:=bif decide (d9 4 (elV tp1 (bA [vi (i64.wrap (1000 * aB x0 x1 x2 x3)),vi (i64.wrap (1000 * aB x0 x1 x4 x5)),vi (i64.wrap (1000 * aB x0 x1 x6 x7)),vi (i64.wrap (1000 * aB x0 x1 x8 x9))] 0 1)) < 0) then bh (cw (d9 4 (elV tp1 (bA [vi (i64.wrap (1000 * aB x0 x1 x2 x3)),vi (i64.wrap (1000 * aB x0 x1 x4 x5)),vi (i64.wrap (1000 * aB x0 x1 x6 x7)),vi (i64.wrap (1000 * aB x0 x1 x8 x9))] 0 1))) x11) else bh (cw (d9 4 (elV tp1 (bA [vi (i64.wrap (1000 * aB x0 x1 x2 x3)),vi (i64.wrap (1000 * aB x0 x1 x4 x5)),vi (i64.wrap (1000 * aB x0 x1 x6 x7)),vi (i64.wrap (1000 * aB x0 x1 x8 x9))] 0 1))) x10)
def fw (x0 x1 x2 x3 x4 x5 x6 x7 x8 x9 x10 x11:Int):Int:=bif decide (dB 4 (elV tp1 (bA [vi (i64.wrap (1000 * aB x0 x1 x2 x3)),vi (i64.wrap (1000 * aB x0 x1 x4 x5)),vi (i64.wrap (1000 * aB x0 x1 x6 x7)),vi (i64.wrap (1000 * aB x0 x1 x8 x9))] 0 1)) < 0) then bh (c8 (dB 4 (elV tp1 (bA [vi (i64.wrap (1000 * aB x0 x1 x2 x3)),vi (i64.wrap (1000 * aB x0 x1 x4 x5)),vi (i64.wrap (1000 * aB x0 x1 x6 x7)),vi (i64.wrap (1000 * aB x0 x1 x8 x9))] 0 1))) x10) else bh (c8 (dB 4 (elV tp1 (bA [vi (i64.wrap (1000 * aB x0 x1 x2 x3)),vi (i64.wrap (1000 * aB x0 x1 x4 x5)),vi (i64.wrap (1000 * aB x0 x1 x6 x7)),vi (i64.wrap (1000 * aB x0 x1 x8 x9))] 0 1))) x11)
def nl (x0 x1 x2 x3 x4 x5 x6 x7 x8 x9 x10 x11:Int):V:=.tup [.int i64 (fm x0 x1 x2 x3 x4 x5 x6 x7 x8 x9 x10 x11),.int i64 (fw x0 x1 x2 x3 x4 x5 x6 x7 x8 x9 x10 x11)]
theorem GF (x0 x1 x2 x3 x4 x5 x6 x7 x8 x9 x10 x11:Int) (hp:(x10=0->False)/\(x11=0->False)):evR noE (yav x0 x1 x2 x3 x4 x5 x6 x7 x8 x9 x10 x11) (nl x0 x1 x2 x3 x4 x5 x6 x7 x8 x9 x10 x11):=dY (ac (ac (ac (ao (ac (ac (dY (ac (ac (ac (ao (ac (ac (dY (ac (ac (ac (ao (ac (ac (dY (ac (ac (ac (ao (ac (ac (jJ (aO (by first | assumption | ((first | exact hp.1 | exact hp.2 | decide))) (ac (aO (by first | assumption | ((first | exact hp.1 | exact hp.2 | decide))) (ac (aw (fun h0=>aw (fun h1=>aO (by first | assumption | ((first | exact hp.1 | exact hp.2 | decide))) (ac (ao (ac (aO (by first | assumption | ((first | exact hp.1 | exact hp.2 | decide))) (ac (ao (ac (ah (by unfold nl fm fw; try rw [h0]; try rw [h1]; rfl)))))))))) (fun h1=>aO (by first | assumption | ((first | exact hp.1 | exact hp.2 | decide))) (ac (ao (ac (aO (by first | assumption | ((first | exact hp.1 | exact hp.2 | decide))) (ac (ao (ac (ah (by unfold nl fm fw; try rw [h0]; try rw [h1]; rfl))))))))))) (fun h0=>aw (fun h1=>aO (by first | assumption | ((first | exact hp.1 | exact hp.2 | decide))) (ac (ao (ac (aO (by first | assumption | ((first | exact hp.1 | exact hp.2 | decide))) (ac (ao (ac (ah (by unfold nl fm fw; try rw [h0]; try rw [h1]; rfl)))))))))) (fun h1=>aO (by first | assumption | ((first | exact hp.1 | exact hp.2 | decide))) (ac (ao (ac (aO (by first | assumption | ((first | exact hp.1 | exact hp.2 | decide))) (ac (ao (ac (ah (by unfold nl fm fw; try rw [h0]; try rw [h1]; rfl))))))))))))))))))))))))))))))))))))))))))))
def DU:ap:=mkC [.fn 154 [.agg tp2] [],.pd [.int .i64,.int .i64,.int .i64,.int .i64,.int .i64,.int .i64,.int .i64,.int .i64],.pd tp1,.pd tp1] (fun
 | [.fn _ [.agg [.int _ x0,.int _ x1]] [],.pd [.int _ x2,.int _ x3,.int _ x4,.int _ x5,.int _ x6,.int _ x7,.int _ x8,.int _ x9],.pd [.int _ x10],.pd [.int _ x11]]=>(x10=0->False)/\(x11=0->False)
 | _=>False) fun
 | [.fn _ [.agg [.int _ x0,.int _ x1]] [],.pd [.int _ x2,.int _ x3,.int _ x4,.int _ x5,.int _ x6,.int _ x7,.int _ x8,.int _ x9],.pd [.int _ x10],.pd [.int _ x11]]=>nl x0 x1 x2 x3 x4 x5 x6 x7 x8 x9 x10 x11
 | _=>.any
theorem HD:(vP DU).Ok Tryz.prog 191:=mkE wF Tryz.func191 (by kernel_rfl) fun ds hp=>rf0 (Ek ..) (GF _ _ _ _ _ _ _ _ _ _ _ _ hp)
def orC (p:List V->Bool) (A B:ap):ap:=fun ds=>cond (p ds) (A ds) (B ds)
theorem xk {P:Program} {f:FuncId} (p:List V->Bool) (A B:ap) (hA:(vP A).Ok P f) (hB:(vP B).Ok P f):(vP (orC p A B)).Ok P f:=by
 have key:∀ {w0 args lh K},vP (orC p A B) w0 args lh K->vP A w0 args lh K ∨ vP B w0 args lh K:=by
  intro w0 args lh K ⟨ds,d,pr,r,h1,h2,h3⟩
  unfold orC at h2
  cases hc:p ds with
  | true=>rw [hc] at h2; exact .inl ⟨ds,d,pr,r,h1,h2,h3⟩
  | false=>rw [hc] at h2; exact .inr ⟨ds,d,pr,r,h1,h2,h3⟩
 exact ⟨fun B m lh w args vs K hrel hargs hsp=>(key hsp).elim (fun h=>hA.1 B m lh w args vs K hrel hargs h) (fun h=>hB.1 B m lh w args vs K hrel hargs h),
  fun _ _ _ _ _ hk ⟨ds,d,p,r,h1,h2,h3,h4,h5⟩=>⟨ds,d,p,r,h1,h2,h3,h4,hk _ _ h5⟩,fun _ _ _ _ ⟨_,_,_,_,_,_,_,_,h⟩=>h⟩
def RP:List V->Bool
 | .fn n _ _::_=>Nat.beq n (match (.fn 155 [] []:V) with | .fn k _ _=>k | _=>0)
 | _=>false
def NC:ap:=orC RP Cu DU
theorem Om:(vP NC).Ok Tryz.prog 191:=xk _ _ _ Gx HD
end
end Go.Dx
namespace Go.Dx
open Go.IntKind (i64 u64 u8)
open Go.Sx
noncomputable section
theorem mA (a l h:Int):cq a l h=!ba a l h:=by
 unfold cq ba
 by_cases h1:a < l
 ·rw [dqt h1,dqf (show ¬ l<=a by omega)]; rfl
 ·rw [dqf h1,dqt (show l<=a by omega)]
  by_cases h2:h < a
  ·rw [dqt h2,cond_false,cond_true]; exact dqf (by omega)
  ·rw [dqf h2,cond_false,cond_true]; exact dqt (by omega)
theorem rE {n:Nat} {p q:Nat->Bool} (h:∀ i,i < n->p i=q i):exB n p=exB n q:=by
 cases hq:exB n q with
 | true =>
   obtain ⟨i,hi,hp⟩:=H9.1 hq
   exact bC i hi (by rw [h i hi]; exact hp)
 | false =>
   refine bm fun i hi=>?_
   rw [h i hi]
   cases hp:q i with
   | false=>rfl
   | true=>rw [bC i hi hp] at hq; cases hq
theorem g8 (n:Nat) (f:Nat->List V):gU n f=!F51 n f:=by
 unfold gU uJ Az
 rw [jd]
 unfold exB F51
 congr 1
 congr 1
 funext i
 rw [mA]; rfl
theorem H6 (s:ByteArray):∀ (k i:Nat) (r:List UInt8),s.size - i=k->(ByteArray.toList.loop s i r).length=r.length+k:=by
 intro k
 induction k with
 | zero =>
   intro i r h
   rw [ByteArray.toList.loop]
   have:¬ i < s.size:=by omega
   simp [this]
 | succ k ih =>
   intro i r h
   rw [ByteArray.toList.loop]
   have:i < s.size:=by omega
   simp only [this,if_true]
   rw [ih (i+1) _ (by omega)]
   simp; omega
theorem Aq (s:ByteArray):(s.toList == (⟨#[]⟩:ByteArray).toList)=decide (s.size=0):=by
 have e:(⟨#[]⟩:ByteArray).toList=[]:=by decide +kernel
 rw [e]
 have hl:s.toList.length=s.size:=by
  unfold ByteArray.toList; rw [H6 s s.size 0 [] (by omega)]; simp
 by_cases h:s.size=0
 ·rw [dqt h]
  have:s.toList=[]:=List.eq_nil_of_length_eq_zero (by omega)
  rw [this]; rfl
 ·rw [dqf h]
  cases hs:s.toList with
  | nil=>rw [hs] at hl; simp at hl; omega
  | cons a l=>rfl
theorem ik {α:Type} {p:α->Bool}:∀ {l:List α},l.dropWhile p=[] ↔ ∀ x ∈ l,p x=true
 | []=>by simp
 | a::l=>by
   rw [List.dropWhile_cons]
   cases h:p a with
   | true=>simp only [if_true]; rw [ik]; simp [h]
   | false=>simp [h]
theorem yaD (l cs:List UInt8):Lib.trimS l cs=[] ↔ ∀ b ∈ l,cs.contains b=true:=by
 unfold Lib.trimS Lib.trimLeftS Lib.trimRightS
 rw [ik]
 constructor
 ·intro h
  have h1:l.reverse.dropWhile (cs.contains ·)=[]:=by
   cases hd:l.reverse.dropWhile (cs.contains ·) with
   | nil=>rfl
   | cons a r =>
     have ha:cs.contains a=true:=h a (by rw [hd]; simp)
     have hh:=List.head_dropWhile_not (cs.contains ·) (l:=l.reverse) (by rw [hd]; simp)
     simp only [hd,List.head_cons] at hh
     rw [ha] at hh; cases hh
  rw [ik] at h1
  exact fun b hb=>h1 b (by simpa using hb)
 ·intro h b hb
  have:b ∈ l.reverse:=by
   have:=List.mem_reverse.1 hb
   exact (List.dropWhile_sublist _).subset this
  exact h b (by simpa using this)
def nmB (b:Nat):Bool:=(decide (97<=b) && decide (b<=122)) || ((decide (48<=b) && decide (b<=57)) || decide (b=45))
theorem sg (b:UInt8):([97,98,99,100,101,102,103,104,105,106,107,108,109,110,111,112,113,114,115,116,117,118,119,120,121,122,48,49,50,51,52,53,54,55,56,57,45]:List UInt8).contains b=nmB b.toNat:=by
 have key:∀ n:Fin 256,([97,98,99,100,101,102,103,104,105,106,107,108,109,110,111,112,113,114,115,116,117,118,119,120,121,122,48,49,50,51,52,53,54,55,56,57,45]:List UInt8).contains (UInt8.ofNat n.val)=nmB n.val:=by decide +kernel
 have:=key ⟨b.toNat,b.toNat_lt⟩
 simpa using this
theorem zJ {l:List UInt8} {i:Nat} (h:i < l.length):l.getD i 0=l[i]:=by simp [List.getD,h]
theorem tj (s:ByteArray) (i:Nat):(!wi s i)=(nmB (s.data.toList.getD i 0).toNat && (decide (0 < i) || (decide (97<=(s.data.toList.getD i 0).toNat) && decide ((s.data.toList.getD i 0).toNat<=122)))):=by
 unfold wi nmB
 generalize (s.data.toList.getD i 0).toNat=b
 rw [Bool.eq_iff_iff]
 simp only [Bool.cond_eq_ite,Bool.not_eq_true',Bool.and_eq_true,Bool.or_eq_true,decide_eq_true_eq]
 split <;> split <;> (try split) <;> simp_all <;> omega
theorem zZ (s:ByteArray):jD s=iS s:=by
 unfold jD iS
 rw [Aq]
 have hsz:s.size=s.data.toList.length:=by rw [Array.length_toList]; rfl
 by_cases h0:s.size=0
 ·rw [dqt h0,h0]; rfl
 rw [dqf h0]
 have e0:decide (0 < (s.size:Int))=true:=dqt (by omega)
 rw [e0]
 by_cases h24:(s.size:Int)<=24
 case neg=>rw [dqf h24]; simp
 rw [dqt h24]
 simp only [Bool.not_false,cond_true,Bool.and_true]
 rw [Aq]
 rw [Bool.eq_iff_iff]
 have ht:(rf s (ByteArray.mk (Array.mk [97,98,99,100,101,102,103,104,105,106,107,108,109,110,111,112,113,114,115,116,117,118,119,120,121,122,48,49,50,51,52,53,54,55,56,57,45]))).size=0 ↔ ∀ b ∈ s.data.toList,nmB b.toNat=true:=by
  rw [show (rf s (ByteArray.mk (Array.mk [97,98,99,100,101,102,103,104,105,106,107,108,109,110,111,112,113,114,115,116,117,118,119,120,121,122,48,49,50,51,52,53,54,55,56,57,45]))).size=(Lib.trimS s.data.toList [97,98,99,100,101,102,103,104,105,106,107,108,109,110,111,112,113,114,115,116,117,118,119,120,121,122,48,49,50,51,52,53,54,55,56,57,45]).length from by simp [rf,ByteArray.size]]
  rw [List.length_eq_zero_iff,yaD]
  constructor
  ·intro h b hb; rw [← sg]; exact h b hb
  ·intro h b hb; rw [sg]; exact h b hb
 have hb:bL s.size (fun i=>!wi s i)=true ↔ (∀ b ∈ s.data.toList,nmB b.toNat=true)/\97<=(s.data.toList.getD 0 0).toNat/\(s.data.toList.getD 0 0).toNat<=122:=by
  rw [nt]
  constructor
  ·intro h
   refine ⟨fun b hb=>?_,?_⟩
   ·obtain ⟨i,hi,rfl⟩:=List.getElem_of_mem hb
    have:=h i (by omega)
    rw [tj,Bool.and_eq_true] at this
    rw [zJ hi] at this
    exact this.1
   ·have:=h 0 (by omega)
    rw [tj] at this
    simp only [Bool.and_eq_true,Bool.or_eq_true,decide_eq_true_eq] at this
    rcases this.2 with h1 | h1
    ·omega
    ·exact h1
  ·rintro ⟨h1,h2,h3⟩ i hi
   rw [tj]
   have hi':i < s.data.toList.length:=by omega
   rw [h1 _ (by rw [zJ hi']; exact List.getElem_mem hi')]
   by_cases hz:i=0
   ·subst hz; rw [dqt h2,dqt h3]; rfl
   ·simp; omega
 rw [hb,← ht]
 cases hd:decide ((rf s (ByteArray.mk (Array.mk [97,98,99,100,101,102,103,104,105,106,107,108,109,110,111,112,113,114,115,116,117,118,119,120,121,122,48,49,50,51,52,53,54,55,56,57,45]))).size=0) with
 | false =>
   have:=of_decide_eq_false hd
   simp [this]
 | true =>
   have:=of_decide_eq_true hd
   simp only [cond_true,this,true_and]
   rw [show s.data.1.getD 0 0=s.data.toList.getD 0 0 from rfl]
   generalize (s.data.toList.getD 0 0).toNat=b
   by_cases g:97<=b
   ·rw [dqt (show (97:Int)<=(b:Int) by omega)]
    simp only [cond_true,decide_eq_true_eq]; omega
   ·rw [dqf (show ¬ (97:Int)<=(b:Int) by omega)]
    simp; omega
end
noncomputable section
theorem Kx (x y:Int):nq x y=!l8 x y:=by unfold nq l8; exact g8 _ _
theorem Pi (n:Nat) (f:Nat->List V) (s:ByteArray):nZ n f s=exB n fun k=>(sv (hdV (f k))).toList == s.toList:=by
 unfold nZ A0; rw [jd]; rfl
theorem Ks (n:Nat) (f:Nat->List V) (s:ByteArray):na n f s=exB n fun k=>(sv (hdV (f k))).toList == s.toList:=by
 unfold na AK; rw [jd]; rfl
theorem RU (n:Nat) (f:Nat->List V):gN n f=exB n fun i=>!l8 (jv0 (f i)) (jv1 (f i)):=by
 unfold gN Au; rw [jd]; exact rE fun i _=>Kx _ _
theorem Am (n0:Nat) (f0:FnV) (i:Nat):c62 n0 (elV tyR f0) i=cR n0 f0 i:=by
 unfold c62 cR F63 F70 DT
 rw [zZ,Pi,RU]
 simp only [Int.toNat_natCast,Nat.sub_zero,Nat.zero_add,mA,Bool.not_not]
 rfl
theorem zk (n2:Nat) (f2:FnV) (i:Nat):c64 n2 (elV tyT f2) i=cT f2 i:=by
 show j4 (jv0 (f2 i)) (jv1 (f2 i)) (jv2 (f2 i)) (jv3 (f2 i)) (jv4 (f2 i))=_
 unfold cT j4 ud
 rw [g8]
 show (bif !!l8 _ _ then _ else _)=_
 generalize l8 _ _=p
 generalize jv2 (f2 i)=a
 generalize jv3 (f2 i)=z
 generalize jv4 (f2 i)=w
 cases p
 ·rfl
 ·simp only [Bool.not_true,Bool.not_false,cond_true]
  rw [mA]
  cases ha:ba a 1 20000
  ·simp only [Bool.not_false,Bool.not_true,cond_true,cond_false]
   by_cases hw:1<=w/\w<=1000
   ·have e:ba w 1 1000=false:=by unfold ba; rw [dqf (by omega),cond_false]; exact dqf (by omega)
    rw [e,bb (by omega) (by omega)]
    unfold ba
    by_cases hz:z < 0
    ·rw [dqt hz]; rfl
    ·rw [dqf hz]
     by_cases hz2:w<=z
     ·rw [dqt (show w - 1 < z by omega),dqt hz2]; rfl
     ·rw [dqf (show ¬ w - 1 < z by omega),dqf hz2,dqf (show ¬ 1000 < w by omega)]; rfl
   ·have e:ba w 1 1000=true:=by
     unfold ba
     by_cases h1:w < 1
     ·rw [dqt h1]; rfl
     ·rw [dqf h1,cond_false]; exact dqt (by omega)
    rw [e]
    have:(bif bif decide (z < 0) then true else decide (w<=z) then true else decide (1000 < w))=true:=by
     by_cases hz:z < 0
     ·rw [dqt hz]; rfl
     ·rw [dqf hz,cond_false]
      by_cases h2:w<=z
      ·rw [dqt h2]; rfl
      ·rw [dqf h2,cond_false]; exact dqt (by omega)
    rw [this]
    cases !ba z 0 (i64.wrap (w - 1)) <;> rfl
  ·rfl
theorem Oq (x0 x1 x2 x3:Int):il x0 x1 x2 x3=bif bif bif bif bif decide (x0 < 0) then true else decide (x1<=x0) then true else decide (1000 < x1) then true else decide (x2 < 0) then true else decide (x3<=x2) then true else decide (1000 < x3):=by
 have key:∀ a b:Int,((bif !ba b 1 1000 then ba a 0 (i64.wrap (b - 1)) else true)=true) ↔ (a < 0 ∨ b<=a ∨ 1000 < b):=by
  intro a b
  unfold ba
  by_cases h1:b < 1
  ·rw [dqt h1]; simp; omega
  ·rw [dqf h1]
   by_cases h2:1000 < b
   ·rw [dqt h2]; simp; omega
   ·rw [dqf h2,bb (by omega) (by omega)]
    simp only [cond_false,Bool.not_false,cond_true,Bool.cond_eq_ite]
    split <;> simp_all <;> omega
 have e1:=key x0 x1
 have e2:=key x2 x3
 have:il x0 x1 x2 x3=(bif !(bif !ba x1 1 1000 then ba x0 0 (i64.wrap (x1 - 1)) else true) then (bif !ba x3 1 1000 then ba x2 0 (i64.wrap (x3 - 1)) else true) else true):=by
  unfold il
  cases ba x1 1 1000 <;> cases ba x0 0 (i64.wrap (x1 - 1)) <;> rfl
 rw [this]
 generalize (bif !ba x1 1 1000 then ba x0 0 (i64.wrap (x1 - 1)) else true)=p at e1 ⊢
 generalize (bif !ba x3 1 1000 then ba x2 0 (i64.wrap (x3 - 1)) else true)=q at e2 ⊢
 rw [Bool.eq_iff_iff]
 simp only [Bool.cond_eq_ite]
 cases p <;> cases q <;> simp_all <;> omega
theorem uI (n4:Nat) (f4:FnV) (i:Nat):c66 n4 (elV tyF f4) i=cF f4 i:=by
 show kd (jv0 (f4 i)) (jv1 (f4 i)) (jv2 (f4 i)) (jv3 (f4 i)) (am (hdV (tlV (tlV (tlV (tlV (f4 i))))))) (fun j=>ae tp4 (atV (hdV (tlV (tlV (tlV (tlV (f4 i)))))) j))=_
 unfold cF kd F72
 rw [g8]
 have:∀ n (f:Nat->List V),m8 n f=exB n fun j=>B5 (f j):=by
  intro n f
  unfold m8 Ba; rw [jd]
  exact rE fun j _=>by rw [Oq]; rfl
 rw [this]
 rfl
theorem Yw (p q r t:Bool) (B:Int):(bif p then bif !q then bif !r then bif t then 7 else B else 7 else 7 else 7)=(bif bif bif bif !p then true else q then true else r then true else t then 7 else B):=by
 cases p <;> cases q <;> cases r <;> cases t <;> rfl
theorem C4 (n6:Nat) (f6:FnV) (i:Nat):c68 n6 (elV tyC f6) i=cC n6 f6 i:=by
 unfold c68 cC iz F73
 rw [zZ,Ks,g8]
 simp only [Int.toNat_natCast,Nat.sub_zero,Nat.zero_add]
 unfold JZ
 simp only [mA,Bool.not_not]
 rw [Yw]
 rfl
theorem dh {n:Nat} {c d:Nat->Int} (h:∀ i,c i=d i):dM n c=dM n d/\cj n c=cj n d:=by
 have:c=d:=funext h
 rw [this]; exact ⟨rfl,rfl⟩
theorem FX (n0:Nat) (f0:FnV) (n2:Nat) (f2:FnV) (n4:Nat) (f4:FnV) (n6:Nat) (f6:FnV) :
 (mK n0 f0 n2 f2 n4 f4 n6 f6,mz n0 f0 n2 f2 n4 f4 n6 f6,iA n0 f0 n2 f2 n4 f4 n6 f6)=F24 n0 f0 n2 f2 n4 f4 n6 f6:=by
 unfold mK mz iA F24 Bg z1 z2 z3 r24 r7 ln rl lc rS kR sd kT
 rw [(dh (Am n0 f0)).1,(dh (Am n0 f0)).2,(dh (zk n2 f2)).1,(dh (zk n2 f2)).2,(dh (uI n4 f4)).1,(dh (uI n4 f4)).2,(dh (C4 n6 f6)).1,(dh (C4 n6 f6)).2]
 cases (bif bif bif decide (8 < (n0:Int)) then true else decide (12 < (n2:Int)) then true else decide (8 < (n4:Int)) then true else decide (24 < (n6:Int)))
 ·simp only [cond_false]
  cases h1:cj n0 (cR n0 f0) != 0
  ·simp only [cond_false]
   cases h2:cj n2 (cT f2) != 0
   ·simp only [cond_false]
    cases h3:cj n4 (cF f4) != 0
    ·simp only [cond_false]
     cases h4:cj n6 (cC n6 f6) != 0
     ·rfl
     ·rfl
    ·rfl
   ·rfl
  ·rfl
 ·rfl
end
noncomputable section
theorem vm {n:Nat} {c:Nat->Int} (h:cj n c=0):∀ i,i < n->c i=0:=by
 unfold cj at h
 rcases Ec (n:=n) (p:=fun i=>c i != 0) with ⟨_,h2⟩ | ⟨j,h1,h2,h3,_⟩
 ·intro i hi
  have:=h2 i hi
  simpa using this
 ·rw [h2] at h
  have:((j:Int) == -1)=false:=by rw [beq_eq_false_iff_ne]; omega
  rw [this,cond_false,Int.toNat_natCast] at h
  rw [h] at h3; cases h3
section
variable {n0:Nat} {f0:Nat->List V} {n2:Nat} {f2:Nat->List V} {n4:Nat} {f4:Nat->List V} {n6:Nat} {f6:Nat->List V} {i j m l:Int}
structure Nw (n0:Nat) (f0:FnV) (n2:Nat) (f2:FnV) (n4:Nat) (f4:FnV) (n6:Nat) (f6:FnV):Prop where
 l0:n0<=8
 l2:n2<=12
 l4:n4<=8
 l6:n6<=24
 rd:∀ i,i < n0->cR n0 f0 i=0
 tr:∀ i,i < n2->cT f2 i=0
 fr:∀ i,i < n4->cF f4 i=0
 cl:∀ i,i < n6->cC n6 f6 i=0
theorem gA {n:Nat} {c:Nat->Int} {k:Int} {z:Int × Int × Int} (h:(r24 n c k z).2.2=0):(∀ i,i < n->c i=0)/\z.2.2=0:=by
 unfold r24 at h
 cases hb:cj n c != 0 with
 | true=>rw [hb] at h; simp only [cond_true] at h; rw [h] at hb; cases hb
 | false =>
   rw [hb] at h
   exact ⟨vm (by simpa using hb),h⟩
theorem Gb (h:jU n0 f0 n2 f2 n4 f4 n6 f6=0):Nw n0 f0 n2 f2 n4 f4 n6 f6:=by
 unfold jU F24 at h
 cases hl:Bg n0 f0 n2 f2 n4 f4 n6 f6 with
 | true=>rw [hl] at h; cases h
 | false =>
   rw [hl,cond_false] at h
   obtain ⟨h1,h⟩:=gA h
   unfold z1 at h
   obtain ⟨h2,h⟩:=gA h
   unfold z2 at h
   obtain ⟨h3,h⟩:=gA h
   unfold z3 at h
   obtain ⟨h4,_⟩:=gA h
   unfold Bg at hl
   simp only [Bool.cond_eq_ite,Bool.ite_eq_false_distrib] at hl
   have:n0<=8/\n2<=12/\n4<=8/\n6<=24:=by
    refine ⟨?_,?_,?_,?_⟩ <;> (apply Classical.byContradiction; intro hn) <;> simp_all <;> omega
   exact ⟨this.1,this.2.1,this.2.2.1,this.2.2.2,h1,h2,h3,h4⟩
theorem EC:iA n0 f0 n2 f2 n4 f4 n6 f6=jU n0 f0 n2 f2 n4 f4 n6 f6:=congrArg (fun t=>t.2.2) (FX n0 f0 n2 f2 n4 f4 n6 f6)
end
end
end Go.Dx
namespace Go.Dx
open Go.IntKind (i64 u64 u8)
open Go.Sx Go.Proofs
abbrev aS:List Ty:=[Ty.str,Ty.sl tp1,Ty.sl tp1,Ty.sl [Ty.sl tp1],Ty.int i64,Ty.int i64]
abbrev aT:List Ty:=[Ty.str,Ty.int i64,Ty.int i64,Ty.int i64,Ty.int i64,Ty.int i64,Ty.int i64,Ty.int i64,Ty.int i64,Ty.int i64,Ty.int i64,Ty.int i64,Ty.int i64,Ty.int i64]
structure FJ (n0:Nat) (f0:FnV) (n2:Nat) (f2:FnV):Prop where
 l0:n0<=10
 l2:n2<=20
 tb:∀ i,i < n0->gx (elV aS f0) i=0
 lm:∀ i,i < n2->gV n0 (elV aT f2) i=0
theorem wz {n0:Nat} {f0:Nat->List V} {n2:Nat} {f2:Nat->List V} (h:yae n0 f0 n2 f2=0):FJ n0 f0 n2 f2:=by
 unfold yae qV at h
 cases hl:(bif decide (10 < (n0:Int)) then true else decide (20 < (n2:Int))) with
 | true=>rw [hl] at h; cases h
 | false =>
   rw [hl] at h
   obtain ⟨h1,h2⟩:=gA h
   obtain ⟨h3,_⟩:=gA h2
   have a:(decide (10 < (n0:Int)))=false:=by cases hh:decide (10 < (n0:Int)) with | false=>rfl | true=>rw [hh] at hl; cases hl
   rw [a] at hl
   have b:=of_decide_eq_false hl
   have a:=of_decide_eq_false a
   exact ⟨by omega,by omega,h1,h3⟩
theorem ini {x a b:Int} (h:yaa x a b=true):a<=x/\x<=b:=by
 unfold yaa at h
 cases h1:decide (a<=x) with
 | false=>rw [h1] at h; cases h
 | true=>rw [h1] at h; exact ⟨of_decide_eq_true h1,of_decide_eq_true h⟩
theorem TY {a b:Bool} (h:or2 a b=false):a=true/\b=true:=by
 unfold or2 at h
 cases a <;> cases b <;> first | exact ⟨rfl,rfl⟩ | cases h
def tbN (x:List V):Nat:=am (hdV (tlV (tlV (tlV x))))
def tbF (x:List V):Nat->List V:=atV (hdV (tlV (tlV (tlV x))))
structure nM (x:List V):Prop where
 u:2<=am (hdV (tlV x))/\am (hdV (tlV x))<=12
 v:2<=am (hdV (tlV (tlV x)))/\am (hdV (tlV (tlV x)))<=12
 n:tbN x=am (hdV (tlV x))
 row:∀ i,i < tbN x->am (hdV (tbF x i))=am (hdV (tlV (tlV x)))
 side:0<=jv4 x/\jv4 x<=10000000
 sky:0<=jv5 x/\jv5 x<=10000000
 val:∀ i,i < tbN x->∀ j,j < am (hdV (tbF x i))->0<=jv0 (atV (hdV (tbF x i)) j)/\jv0 (atV (hdV (tbF x i)) j)<=10000000
theorem j9 {b:Bool} {k z:Int} (h:(bif b then k else z)=0) (hk:k ≠ 0):b=false/\z=0:=by
 cases b with
 | true=>exact absurd h hk
 | false=>exact ⟨rfl,h⟩
theorem notf {b:Bool} (h:(!b)=false):b=true:=by cases b <;> first | rfl | cases h
theorem vY {a b:Bool} (h:(a && b)=true):a=true/\b=true:=by cases a <;> cases b <;> first | exact ⟨rfl,rfl⟩ | cases h
theorem Yy {n:Nat} {p:Nat->Bool} (h:exB n p=false):∀ i,i < n->p i=false:=fun i hi=>by
 cases hp:p i with
 | false=>rfl
 | true=>rw [bC i hi hp] at h; cases h
theorem Pd {f0:Nat->List V} {a:Nat} (h:gx (elV aS f0) a=0):nM (f0 a):=by
 unfold gx at h
 obtain ⟨_,h⟩:=j9 h (by decide)
 obtain ⟨_,h⟩:=j9 h (by decide)
 unfold AD at h
 obtain ⟨h1,h⟩:=j9 h (by decide)
 obtain ⟨_,h⟩:=j9 h (by decide)
 obtain ⟨_,h⟩:=j9 h (by decide)
 obtain ⟨h2,h⟩:=j9 h (by decide)
 obtain ⟨h3,h⟩:=j9 h (by decide)
 obtain ⟨h4,_⟩:=j9 h (by decide)
 obtain ⟨u,v⟩:=TY h1
 have u:=ini u
 have v:=ini v
 have g:iu (jv4 (f0 a)) (jv5 (f0 a))=true:=(vY (notf h4)).1
 have w:bL (tbN (f0 a)) (eP (am (hdV (tlV (tlV (f0 a))))) (elV [.sl tp1] (tbF (f0 a))))=true:=(vY (notf h4)).2
 have row:∀ i,i < tbN (f0 a)->am (hdV (tbF (f0 a) i))=am (hdV (tlV (tlV (f0 a)))):=fun i hi=>by
  have:=Yy h3 i hi
  have:((am (hdV (tbF (f0 a) i)):Int) != (am (hdV (tlV (tlV (f0 a)))):Int))=false:=this
  have:=eq_of_beq (by simpa using this:((am (hdV (tbF (f0 a) i)):Int) == (am (hdV (tlV (tlV (f0 a)))):Int))=true)
  omega
 unfold iu at g
 have g1:yaa (jv4 (f0 a)) 0 10000000=true:=by
  cases hh:yaa (jv4 (f0 a)) 0 10000000 with
  | true=>rfl
  | false=>rw [hh] at g; cases g
 rw [g1] at g
 exact ⟨⟨by have:=u.1; exact Int.ofNat_le.1 this,by have:=u.2; exact Int.ofNat_le.1 this⟩,⟨by have:=v.1; exact Int.ofNat_le.1 this,by have:=v.2; exact Int.ofNat_le.1 this⟩,
  by have:((tbN (f0 a):Int) != (am (hdV (tlV (f0 a))):Int))=false:=h2
     have:=eq_of_beq (by simpa using this:((tbN (f0 a):Int) == (am (hdV (tlV (f0 a))):Int))=true)
     omega,
  row,ini g1,ini g,fun i hi j hj=>by
   rw [row i hi] at hj
   exact ini (db (db w i hi) j hj)⟩
structure VW (n0:Nat) (x:List V):Prop where
 t:0<=jv1 x/\jv1 x < n0
 kind:1<=jv2 x/\jv2 x<=3
 lum:1<=jv3 x/\jv3 x<=1000000
theorem RO {n0:Nat} {f2:Nat->List V} {a:Nat} (hn:n0<=10) (h:gV n0 (elV aT f2) a=0):VW n0 (f2 a):=by
 unfold gV at h
 obtain ⟨_,h⟩:=j9 h (by decide)
 obtain ⟨_,h⟩:=j9 h (by decide)
 unfold EB AV at h
 obtain ⟨h1,h⟩:=j9 h (by decide)
 obtain ⟨h2,h⟩:=j9 h (by decide)
 obtain ⟨h3,h⟩:=j9 h (by decide)
 have h1:=ini (notf h1:yaa (jv1 (f2 a)) 0 (i64.wrap ((n0:Int) - 1))=true)
 have h2:=ini (notf h2:yaa (jv2 (f2 a)) 1 3=true)
 have h3:=ini ((vY (notf h3)).1:yaa (jv3 (f2 a)) 1 1000000=true)
 rw [bb (by omega) (by omega)] at h1
 exact ⟨⟨h1.1,by omega⟩,h2,h3⟩
def Hd (dx dy:Int):Prop:=(-1000<=dx/\dx<=1000)/\(-1000<=dy/\dy<=1000)/\(dx ≠ 0 ∨ dy ≠ 0)
def Bd (x:Int):Prop:=-1000000000<=x/\x<=1000000000
theorem GI {a b:Int} (ha:Bd a) (hb:-1000<=b/\b<=1000):-1000000000000<=a * b/\a * b<=1000000000000:=by
 unfold Bd at ha
 have h:=Nat.mul_le_mul (show a.natAbs<=1000000000 by omega) (show b.natAbs<=1000 by omega)
 rw [← Int.natAbs_mul] at h
 omega
theorem sqB {a:Int} (ha:-1000<=a/\a<=1000):0<=a * a/\a * a<=1000000/\(a ≠ 0->1<=a * a):=by
 have h:=Nat.mul_le_mul (show a.natAbs<=1000 by omega) (show a.natAbs<=1000 by omega)
 rw [← Int.natAbs_mul_self' a]
 refine ⟨by omega,by omega,fun h0=>?_⟩
 have:1<=a.natAbs * a.natAbs:=Nat.mul_le_mul (show 1<=a.natAbs by omega) (show 1<=a.natAbs by omega)
 omega
theorem hdS {dx dy:Int} (h:Hd dx dy):1<=be dx dy/\be dx dy<=2000000:=by
 obtain ⟨a,b,c⟩:=h
 have h1:=sqB a
 have h2:=sqB b
 unfold be
 rw [bb (x:=dx * dx) (by omega) (by omega),bb (x:=dy * dy) (by omega) (by omega),bb (by omega) (by omega)]
 rcases c with c | c
 ·have:=h1.2.2 c; omega
 ·have:=h2.2.2 c; omega
theorem o8 (x:Int):bh x=c6 x:=by unfold bh c6; omega
theorem HX {n:Nat}:dC n<=n:=by
 have h:=(kL n).1
 cases hr:dC n with
 | zero=>omega
 | succ k =>
   rw [hr] at h
   have:=Nat.mul_le_mul (show 1<=k+1 by omega) (Nat.le_refl (k+1))
   omega
theorem Fh {n:Nat} (h:1<=n):1<=dC n:=by
 have h2:=(kL n).2
 cases hr:dC n with
 | zero=>rw [hr] at h2; omega
 | succ k=>omega
theorem o9 {x:Int} (h:x<=3999999999999999999):cz x=bS x:=by
 unfold cz bS gT jw
 rw [show min x 4611686018427387903=x by omega,show min x 3999999999999999999=x by omega]
theorem Bm {x:Int} (h:x<=3999999999999999999):b9 x=bJ x:=by
 unfold b9 bJ
 rw [o9 h]
theorem uF {x:Int} (h1:1<=x):1<=bS x/\bS x<=3999999999999999999:=by
 unfold bS
 have a:=Fh (n:=jw x) (by unfold jw; omega)
 have b:=HX (n:=jw x)
 have:jw x<=3999999999999999999:=by unfold jw; omega
 omega
theorem PK {x:Int} (h1:1<=x):1<=bJ x:=by
 have:=uF h1
 unfold bJ
 cases decide (i64.wrap (bS x * bS x) < x) with
 | true=>show 1<=i64.wrap (bS x+1); rw [bb (by omega) (by omega)]; omega
 | false=>exact this.1
theorem rts {s:Int} (h:1<=s/\s<=2000000):Rts s:=by
 unfold Rts
 rw [bb (x:=1000000 * s) (by omega) (by omega)]
 exact ⟨fun h0=>by have:=PK (x:=1000000 * s) (by omega); omega,fun h0=>by have:=(uF (x:=1000000 * s) (by omega)).1; omega⟩
def Big (x:Int):Prop:=-2000000000000<=x/\x<=2000000000000
theorem lr {a:Int} (h:Big a):i64.wrap (1000 * a)=1000 * a:=by unfold Big at h; exact bb (by omega) (by omega)
theorem CS {a b c d s:Int} (ha:Big a) (hb:Big b) (hc:Big c) (hd:Big d) (hs:1<=s/\s<=2000000) :
 (bif decide (min (min (min (min (i64.wrap (1000 * a)) (i64.wrap (1000 * a))) (i64.wrap (1000 * b))) (i64.wrap (1000 * c))) (i64.wrap (1000 * d)) < 0)
   then bh (cw (min (min (min (min (i64.wrap (1000 * a)) (i64.wrap (1000 * a))) (i64.wrap (1000 * b))) (i64.wrap (1000 * c))) (i64.wrap (1000 * d))) (cz (i64.wrap (1000000 * s))))
   else bh (cw (min (min (min (min (i64.wrap (1000 * a)) (i64.wrap (1000 * a))) (i64.wrap (1000 * b))) (i64.wrap (1000 * c))) (i64.wrap (1000 * d))) (b9 (i64.wrap (1000000 * s)))))=qlo (min (min (min (min a a) c) b) d) s:=by
 have hm:Big (min (min (min (min a a) c) b) d):=by unfold Big at *; omega
 rw [lr ha,lr hb,lr hc,lr hd]
 unfold qlo
 rw [lr hm,o8,o8,o9 (by rw [bb (by omega) (by omega)]; omega),Bm (by rw [bb (by omega) (by omega)]; omega)]
 rw [show min (min (min (min (1000 * a) (1000 * a)) (1000 * b)) (1000 * c)) (1000 * d)=1000 * min (min (min (min a a) c) b) d by omega]
 rw [show decide (1000 * min (min (min (min a a) c) b) d < 0)=decide (min (min (min (min a a) c) b) d < 0) from decide_eq_decide.2 (by omega)]
 rfl
theorem Ci {a b c d s:Int} (ha:Big a) (hb:Big b) (hc:Big c) (hd:Big d) (hs:1<=s/\s<=2000000) :
 (bif decide (max (max (max (max (i64.wrap (1000 * a)) (i64.wrap (1000 * a))) (i64.wrap (1000 * b))) (i64.wrap (1000 * c))) (i64.wrap (1000 * d)) < 0)
   then bh (c8 (max (max (max (max (i64.wrap (1000 * a)) (i64.wrap (1000 * a))) (i64.wrap (1000 * b))) (i64.wrap (1000 * c))) (i64.wrap (1000 * d))) (b9 (i64.wrap (1000000 * s))))
   else bh (c8 (max (max (max (max (i64.wrap (1000 * a)) (i64.wrap (1000 * a))) (i64.wrap (1000 * b))) (i64.wrap (1000 * c))) (i64.wrap (1000 * d))) (cz (i64.wrap (1000000 * s)))))=qhi (max (max (max (max a a) c) b) d) s:=by
 have hm:Big (max (max (max (max a a) c) b) d):=by unfold Big at *; omega
 rw [lr ha,lr hb,lr hc,lr hd]
 unfold qhi
 rw [lr hm,o8,o8,o9 (by rw [bb (by omega) (by omega)]; omega),Bm (by rw [bb (by omega) (by omega)]; omega)]
 rw [show max (max (max (max (1000 * a) (1000 * a)) (1000 * b)) (1000 * c)) (1000 * d)=1000 * max (max (max (max a a) c) b) d by omega]
 rw [show decide (1000 * max (max (max (max a a) c) b) d < 0)=decide (max (max (max (max a a) c) b) d < 0) from decide_eq_decide.2 (by omega)]
 rfl
theorem acB {dx dy x y:Int} (h:Hd dx dy) (hx:Bd x) (hy:Bd y):Big (i64.wrap (i64.wrap (x * dy) - i64.wrap (y * dx))):=by
 have h1:=GI hx h.2.1
 have h2:=GI hy h.1
 unfold Big
 rw [bb (x:=x * dy) (by omega) (by omega),bb (x:=y * dx) (by omega) (by omega),bb (by omega) (by omega)]
 omega
theorem alB {dx dy x y:Int} (h:Hd dx dy) (hx:Bd x) (hy:Bd y):Big (i64.wrap (i64.wrap (x * dx)+i64.wrap (y * dy))):=by
 have h1:=GI hx h.1
 have h2:=GI hy h.2.1
 unfold Big
 rw [bb (x:=x * dx) (by omega) (by omega),bb (x:=y * dy) (by omega) (by omega),bb (by omega) (by omega)]
 omega
noncomputable section
def yG:aY:=(191,.con NC)::yC
theorem wC:aQ Tryz.prog eqs its yG:=.con Om (wF)
theorem Ls {ts:List Ty} {ds:List V} (h:ae ts ds=ds):gP ts ds []=gQ ts ds []:=by
 have:=dU ts ds []
 rw [h] at this
 exact this
theorem fl4 (a b c d:Int):elV tp1 (gH (bf 3 (bf 2 (bf 1 (fun _=>[.int .i64 a]) fun _=>[.int .i64 b]) fun _=>[.int .i64 c]) fun _=>[.int .i64 d]))=gH (bf 3 (bf 2 (bf 1 (fun _=>[.int .i64 a]) fun _=>[.int .i64 b]) fun _=>[.int .i64 c]) fun _=>[.int .i64 d]):=by
 funext i
 unfold elV gH bf
 cases Nat.blt i 3 <;> cases Nat.blt i 2 <;> cases Nat.blt i 1 <;> rfl
def Mm (x0 x1 x2 x3 x4 x5:Int):RT Empty:=.brt (.obt (.brf (.obt (.brf (.obt (.obt (.obt (.obt (.brt (.obt (.brt (.obt (.brf (.obt (.obt (.obt (.obt (.brt (.obt (.brf (.obt (.brt (.obt (.obt (.obt (.obt (.brt (.obt (.brt (.obt (.brt (.obt (.obt (.obt (.obt (.brf (.obe ([Ty.sl tp1,Ty.int i64]) ([V.sl 4 (gH (bf 3 (bf 2 (bf 1 (fun x=>[vi (i64.wrap (i64.wrap (x0 * x5) - i64.wrap (x2 * x4)))]) fun x=>[vi (i64.wrap (i64.wrap (x1 * x5) - i64.wrap (x2 * x4)))]) fun x=>[vi (i64.wrap (i64.wrap (x0 * x5) - i64.wrap (x3 * x4)))]) fun x=>[vi (i64.wrap (i64.wrap (x1 * x5) - i64.wrap (x3 * x4)))])),vi (i64.wrap (i64.wrap (x4 * x4)+i64.wrap (x5 * x5)))]) (.obp ((1:Nat)<=(4:Nat)/\(bJ (i64.wrap ((1000000:Int) * i64.wrap (i64.wrap (x4 * x4)+i64.wrap (x5 * x5))))=(0:Int)->False)/\(bS (i64.wrap ((1000000:Int) * i64.wrap (i64.wrap (x4 * x4)+i64.wrap (x5 * x5))))=(0:Int)->False)) (.obt (.obt (.obe ([Ty.sl tp1,Ty.int i64]) ([V.sl 4 (gH (bf 3 (bf 2 (bf 1 (fun x=>[vi (i64.wrap (i64.wrap (x0 * x4)+i64.wrap (x2 * x5)))]) fun x=>[vi (i64.wrap (i64.wrap (x1 * x4)+i64.wrap (x2 * x5)))]) fun x=>[vi (i64.wrap (i64.wrap (x0 * x4)+i64.wrap (x3 * x5)))]) fun x=>[vi (i64.wrap (i64.wrap (x1 * x4)+i64.wrap (x3 * x5)))])),vi (i64.wrap (i64.wrap (x4 * x4)+i64.wrap (x5 * x5)))]) (.obp ((1:Nat)<=(4:Nat)/\(bJ (i64.wrap ((1000000:Int) * i64.wrap (i64.wrap (x4 * x4)+i64.wrap (x5 * x5))))=(0:Int)->False)/\(bS (i64.wrap ((1000000:Int) * i64.wrap (i64.wrap (x4 * x4)+i64.wrap (x5 * x5))))=(0:Int)->False)) (.obt (.obt (.ret (V.agg [vi (ei 4 (gH (bf 3 (bf 2 (bf 1 (fun x=>[vi (i64.wrap (i64.wrap (x0 * x5) - i64.wrap (x2 * x4)))]) fun x=>[vi (i64.wrap (i64.wrap (x1 * x5) - i64.wrap (x2 * x4)))]) fun x=>[vi (i64.wrap (i64.wrap (x0 * x5) - i64.wrap (x3 * x4)))]) fun x=>[vi (i64.wrap (i64.wrap (x1 * x5) - i64.wrap (x3 * x4)))])) (i64.wrap (i64.wrap (x4 * x4)+i64.wrap (x5 * x5)))),vi (ej 4 (gH (bf 3 (bf 2 (bf 1 (fun x=>[vi (i64.wrap (i64.wrap (x0 * x5) - i64.wrap (x2 * x4)))]) fun x=>[vi (i64.wrap (i64.wrap (x1 * x5) - i64.wrap (x2 * x4)))]) fun x=>[vi (i64.wrap (i64.wrap (x0 * x5) - i64.wrap (x3 * x4)))]) fun x=>[vi (i64.wrap (i64.wrap (x1 * x5) - i64.wrap (x3 * x4)))])) (i64.wrap (i64.wrap (x4 * x4)+i64.wrap (x5 * x5)))),vi (ei 4 (gH (bf 3 (bf 2 (bf 1 (fun x=>[vi (i64.wrap (i64.wrap (x0 * x4)+i64.wrap (x2 * x5)))]) fun x=>[vi (i64.wrap (i64.wrap (x1 * x4)+i64.wrap (x2 * x5)))]) fun x=>[vi (i64.wrap (i64.wrap (x0 * x4)+i64.wrap (x3 * x5)))]) fun x=>[vi (i64.wrap (i64.wrap (x1 * x4)+i64.wrap (x3 * x5)))])) (i64.wrap (i64.wrap (x4 * x4)+i64.wrap (x5 * x5)))),vi (ej 4 (gH (bf 3 (bf 2 (bf 1 (fun x=>[vi (i64.wrap (i64.wrap (x0 * x4)+i64.wrap (x2 * x5)))]) fun x=>[vi (i64.wrap (i64.wrap (x1 * x4)+i64.wrap (x2 * x5)))]) fun x=>[vi (i64.wrap (i64.wrap (x0 * x4)+i64.wrap (x3 * x5)))]) fun x=>[vi (i64.wrap (i64.wrap (x1 * x4)+i64.wrap (x3 * x5)))])) (i64.wrap (i64.wrap (x4 * x4)+i64.wrap (x5 * x5))))]))))))))))))))))))))))))))))))))))))))))))))))
theorem Kk (x0 x1 x2 x3 x4 x5:Int):Fit noD (aN JJ yG uu5 Uc [vi x0,vi x1,vi x2,vi x3,vi x4,vi x5]) (Mm x0 x1 x2 x3 x4 x5):=⟨by kernel_rfl,by kernel_rfl⟩
def eV (x0 x1 x2 x3 x4 x5:Int):Int:=ei 4 (gH (bf 3 (bf 2 (bf 1 (fun x=>[vi (i64.wrap (i64.wrap (x0 * x5) - i64.wrap (x2 * x4)))]) fun x=>[vi (i64.wrap (i64.wrap (x1 * x5) - i64.wrap (x2 * x4)))]) fun x=>[vi (i64.wrap (i64.wrap (x0 * x5) - i64.wrap (x3 * x4)))]) fun x=>[vi (i64.wrap (i64.wrap (x1 * x5) - i64.wrap (x3 * x4)))])) (i64.wrap (i64.wrap (x4 * x4)+i64.wrap (x5 * x5)))
def fe (x0 x1 x2 x3 x4 x5:Int):Int:=ej 4 (gH (bf 3 (bf 2 (bf 1 (fun x=>[vi (i64.wrap (i64.wrap (x0 * x5) - i64.wrap (x2 * x4)))]) fun x=>[vi (i64.wrap (i64.wrap (x1 * x5) - i64.wrap (x2 * x4)))]) fun x=>[vi (i64.wrap (i64.wrap (x0 * x5) - i64.wrap (x3 * x4)))]) fun x=>[vi (i64.wrap (i64.wrap (x1 * x5) - i64.wrap (x3 * x4)))])) (i64.wrap (i64.wrap (x4 * x4)+i64.wrap (x5 * x5)))
def eX (x0 x1 x2 x3 x4 x5:Int):Int:=ei 4 (gH (bf 3 (bf 2 (bf 1 (fun x=>[vi (i64.wrap (i64.wrap (x0 * x4)+i64.wrap (x2 * x5)))]) fun x=>[vi (i64.wrap (i64.wrap (x1 * x4)+i64.wrap (x2 * x5)))]) fun x=>[vi (i64.wrap (i64.wrap (x0 * x4)+i64.wrap (x3 * x5)))]) fun x=>[vi (i64.wrap (i64.wrap (x1 * x4)+i64.wrap (x3 * x5)))])) (i64.wrap (i64.wrap (x4 * x4)+i64.wrap (x5 * x5)))
def e8 (x0 x1 x2 x3 x4 x5:Int):Int:=ej 4 (gH (bf 3 (bf 2 (bf 1 (fun x=>[vi (i64.wrap (i64.wrap (x0 * x4)+i64.wrap (x2 * x5)))]) fun x=>[vi (i64.wrap (i64.wrap (x1 * x4)+i64.wrap (x2 * x5)))]) fun x=>[vi (i64.wrap (i64.wrap (x0 * x4)+i64.wrap (x3 * x5)))]) fun x=>[vi (i64.wrap (i64.wrap (x1 * x4)+i64.wrap (x3 * x5)))])) (i64.wrap (i64.wrap (x4 * x4)+i64.wrap (x5 * x5)))
def Gs (x0 x1 x2 x3 x4 x5:Int):V:=.agg [.int i64 (eV x0 x1 x2 x3 x4 x5),.int i64 (fe x0 x1 x2 x3 x4 x5),.int i64 (eX x0 x1 x2 x3 x4 x5),.int i64 (e8 x0 x1 x2 x3 x4 x5)]
theorem Q1 (x0 x1 x2 x3 x4 x5:Int) (hp:Rts (i64.wrap (i64.wrap (x4 * x4)+i64.wrap (x5 * x5)))):evR noE (Mm x0 x1 x2 x3 x4 x5) (Gs x0 x1 x2 x3 x4 x5):=dY (ac (jJ (ac (jJ (ac (ac (ac (ac (dY (ac (dY (ac (jJ (ac (ac (ac (ac (dY (ac (jJ (ac (dY (ac (ac (ac (ac (dY (ac (dY (ac (dY (ac (ac (ac (ac (jJ (M2 (by exact Ls (congrArg (fun f=>[V.sl 4 f,_]) (fl4 ..))) (aO (by first | assumption | (exact ⟨by decide,hp⟩)) (ac (ac (M2 (by exact Ls (congrArg (fun f=>[V.sl 4 f,_]) (fl4 ..))) (aO (by first | assumption | (exact ⟨by decide,hp⟩)) (ac (ac (ah (by unfold Gs eV fe eX e8; rfl))))))))))))))))))))))))))))))))))))))))))))))
def L9:ap:=mkC [.int .i64,.int .i64,.int .i64,.int .i64,.int .i64,.int .i64] (fun
 | [.int _ x0,.int _ x1,.int _ x2,.int _ x3,.int _ x4,.int _ x5]=>Rts (i64.wrap (i64.wrap (x4 * x4)+i64.wrap (x5 * x5)))
 | _=>False) fun
 | [.int _ x0,.int _ x1,.int _ x2,.int _ x3,.int _ x4,.int _ x5]=>Gs x0 x1 x2 x3 x4 x5
 | _=>.any
theorem Qd:(vP L9).Ok Tryz.prog 151:=mkE wC Tryz.func151 (by kernel_rfl) fun ds hp=>rf0 (Kk ..) (Q1 _ _ _ _ _ _ hp)
def Ey (x0 x1 x2 x3 x4 x5:Int):RT Empty:=.obc (.obt (.obc (.obt (.obc (.obt (.obp ((b9 (i64.wrap ((1000000:Int) * be x0 x1))=(0:Int)->False)/\(cz (i64.wrap ((1000000:Int) * be x0 x1))=(0:Int)->False)) (.obt (.obp ((b9 (i64.wrap ((1000000:Int) * be x0 x1))=(0:Int)->False)/\(cz (i64.wrap ((1000000:Int) * be x0 x1))=(0:Int)->False)) (.obt (.ret (V.agg [vi (fi x0 x1 x2 x4 x2 x5 x3 x4 x3 x5 (b9 (i64.wrap (1000000 * be x0 x1))) (cz (i64.wrap (1000000 * be x0 x1)))),vi (fo x0 x1 x2 x4 x2 x5 x3 x4 x3 x5 (b9 (i64.wrap (1000000 * be x0 x1))) (cz (i64.wrap (1000000 * be x0 x1)))),vi (fm x0 x1 x2 x4 x2 x5 x3 x4 x3 x5 (b9 (i64.wrap (1000000 * be x0 x1))) (cz (i64.wrap (1000000 * be x0 x1)))),vi (fw x0 x1 x2 x4 x2 x5 x3 x4 x3 x5 (b9 (i64.wrap (1000000 * be x0 x1))) (cz (i64.wrap (1000000 * be x0 x1))))])))))))))))
theorem Jo (x0 x1 x2 x3 x4 x5:Int):Fit noD (aN JJ yG u0 zQ [V.agg [vi x0,vi x1],vi x2,vi x3,vi x4,vi x5]) (Ey x0 x1 x2 x3 x4 x5):=⟨by kernel_rfl,by kernel_rfl⟩
def Xu (x0 x1 x2 x3 x4 x5:Int):Int:=fi x0 x1 x2 x4 x2 x5 x3 x4 x3 x5 (b9 (i64.wrap (1000000 * be x0 x1))) (cz (i64.wrap (1000000 * be x0 x1)))
def XJ (x0 x1 x2 x3 x4 x5:Int):Int:=fo x0 x1 x2 x4 x2 x5 x3 x4 x3 x5 (b9 (i64.wrap (1000000 * be x0 x1))) (cz (i64.wrap (1000000 * be x0 x1)))
def Xw (x0 x1 x2 x3 x4 x5:Int):Int:=fm x0 x1 x2 x4 x2 x5 x3 x4 x3 x5 (b9 (i64.wrap (1000000 * be x0 x1))) (cz (i64.wrap (1000000 * be x0 x1)))
def Xq (x0 x1 x2 x3 x4 x5:Int):Int:=fw x0 x1 x2 x4 x2 x5 x3 x4 x3 x5 (b9 (i64.wrap (1000000 * be x0 x1))) (cz (i64.wrap (1000000 * be x0 x1)))
theorem Yl {x0 x1 x2 x3 x4 x5:Int} (hd:Hd x0 x1) (h2:Bd x2) (h3:Bd x3) (h4:Bd x4) (h5:Bd x5):fi x0 x1 x2 x4 x2 x5 x3 x4 x3 x5 (b9 (i64.wrap (1000000 * be x0 x1))) (cz (i64.wrap (1000000 * be x0 x1)))=eV x2 x3 x4 x5 x0 x1:=CS (acB hd h2 h4) (acB hd h2 h5) (acB hd h3 h4) (acB hd h3 h5) (hdS hd)
theorem Yz {x0 x1 x2 x3 x4 x5:Int} (hd:Hd x0 x1) (h2:Bd x2) (h3:Bd x3) (h4:Bd x4) (h5:Bd x5):fo x0 x1 x2 x4 x2 x5 x3 x4 x3 x5 (b9 (i64.wrap (1000000 * be x0 x1))) (cz (i64.wrap (1000000 * be x0 x1)))=fe x2 x3 x4 x5 x0 x1:=Ci (acB hd h2 h4) (acB hd h2 h5) (acB hd h3 h4) (acB hd h3 h5) (hdS hd)
theorem YG {x0 x1 x2 x3 x4 x5:Int} (hd:Hd x0 x1) (h2:Bd x2) (h3:Bd x3) (h4:Bd x4) (h5:Bd x5):fm x0 x1 x2 x4 x2 x5 x3 x4 x3 x5 (b9 (i64.wrap (1000000 * be x0 x1))) (cz (i64.wrap (1000000 * be x0 x1)))=eX x2 x3 x4 x5 x0 x1:=CS (alB hd h2 h4) (alB hd h2 h5) (alB hd h3 h4) (alB hd h3 h5) (hdS hd)
theorem YL {x0 x1 x2 x3 x4 x5:Int} (hd:Hd x0 x1) (h2:Bd x2) (h3:Bd x3) (h4:Bd x4) (h5:Bd x5):fw x0 x1 x2 x4 x2 x5 x3 x4 x3 x5 (b9 (i64.wrap (1000000 * be x0 x1))) (cz (i64.wrap (1000000 * be x0 x1)))=e8 x2 x3 x4 x5 x0 x1:=Ci (alB hd h2 h4) (alB hd h2 h5) (alB hd h3 h4) (alB hd h3 h5) (hdS hd)
theorem F2 (x0 x1 x2 x3 x4 x5:Int) (hp:Hd x0 x1/\Bd x2/\Bd x3/\Bd x4/\Bd x5):evR noE (Ey x0 x1 x2 x3 x4 x5) (.agg [.int .i64 (eV x2 x3 x4 x5 x0 x1),.int .i64 (fe x2 x3 x4 x5 x0 x1),.int .i64 (eX x2 x3 x4 x5 x0 x1),.int .i64 (e8 x2 x3 x4 x5 x0 x1)]):=by
 obtain ⟨hd,h2,h3,h4,h5⟩:=hp
 have hs:=hdS hd
 have hr:=rts hs
 have hw:i64.wrap (1000000 * be x0 x1)<=3999999999999999999:=by rw [bb (by omega) (by omega)]; omega
 unfold Rts at hr
 rw [← Bm hw,← o9 hw] at hr
 exact ao (ac (ao (ac (ao (ac (aO hr (ac (aO hr (ac (ah (by rw [Yl hd h2 h3 h4 h5,Yz hd h2 h3 h4 h5,YG hd h2 h3 h4 h5,YL hd h2 h3 h4 h5])))))))))))
theorem OH (x0 x1 x2 x3 x4 x5:Int) (hp:Hd x0 x1/\Bd x2/\Bd x3/\Bd x4/\Bd x5):evR noE (Ey x0 x1 x2 x3 x4 x5) (.agg [.int .i64 (eV x2 x3 x4 x5 x0 x1),.int .i64 (fe x2 x3 x4 x5 x0 x1),.int .i64 (eX x2 x3 x4 x5 x0 x1),.int .i64 (e8 x2 x3 x4 x5 x0 x1)]):=F2 x0 x1 x2 x3 x4 x5 hp
def MH:ap:=mkC [.agg tp2,.int .i64,.int .i64,.int .i64,.int .i64] (fun
 | [.agg [.int _ x0,.int _ x1],.int _ x2,.int _ x3,.int _ x4,.int _ x5]=>Hd x0 x1/\Bd x2/\Bd x3/\Bd x4/\Bd x5
 | _=>False) fun
 | [.agg [.int _ x0,.int _ x1],.int _ x2,.int _ x3,.int _ x4,.int _ x5]=>.agg [.int .i64 (eV x2 x3 x4 x5 x0 x1),.int .i64 (fe x2 x3 x4 x5 x0 x1),.int .i64 (eX x2 x3 x4 x5 x0 x1),.int .i64 (e8 x2 x3 x4 x5 x0 x1)]
 | _=>.any
theorem QO:(vP MH).Ok Tryz.prog 125:=mkE wC Tryz.func125 (by kernel_rfl) fun ds hp=>rf0 (Jo ..) (OH _ _ _ _ _ _ hp)
end
noncomputable section
def BQ:aY:=(151,.con L9)::(125,.con MH)::yG
theorem Fv:aQ Tryz.prog eqs its BQ:=.con Qd (.con QO (wC))
theorem oS {v:Int} {n:Nat} (h:(!aF v (-1) (i64.wrap ((n:Int) - 1)))=false) (h2:decide (0<=v)=true) (hn:true=true->n<=9223372036854775807):decide (0<=v/\v < (n:Int))=true:=by
 have:=ini (x:=v) (notf h)
 have hn:=hn rfl
 rw [bb (by omega) (by omega)] at this
 have:=of_decide_eq_true h2
 exact dqt (by omega)
def OD (n0 n2:Nat) (f2:FnV) (n13 n15:Nat) (x:Int):Prop:=(0<=x/\x < n13)/\(0<=x/\x < n15)/\∀ i:Nat,i < n2->0<=jv1 (f2 i)/\jv1 (f2 i) < n0
theorem ri {n0 n2:Nat} {f2:Nat->List V} {n13 n15:Nat} {x v:Int} (h:OD n0 n2 f2 n13 n15 x) (hv:decide (0<=v/\v < (n2:Int))=true):decide (0<=jv1 (f2 v.toNat)/\jv1 (f2 v.toNat) < (n0:Int))=true:=by
 have:=of_decide_eq_true hv
 exact dqt (h.2.2 v.toNat (by omega))
def M4 (n0:Nat) (f0:FnV) (n2:Nat) (f2:FnV) (x4:Int) (n5:Nat) (f5:FnV) (n7:Nat) (f7:FnV) (n9:Nat) (f9:FnV) (n11:Nat) (f11:FnV) (n13:Nat) (f13:FnV) (n15:Nat) (f15:FnV) (x17:Int):RT Empty:=.ob (decide (0<=x17/\x17 < (↑n13:Int))) (.ob (decide (0<=x17/\x17 < (↑n15:Int))) (.asm (true=true->n2<=9223372036854775807) (.obc (.obt (.br (!aF (jv0 (f13 x17.toNat)) (-1) (i64.wrap ((↑n2:Int) - 1))) (.ret (vi 4)) (.obc (.obt (.obi (.br (!!aF (jv0 (f15 x17.toNat)) 0 200000) (.ob (!!aF (jv0 (f15 x17.toNat)) 0 200000) (.obc (.obt (.obi (.br (!!aF (jv1 (f15 x17.toNat)) 0 600) (.ob (!!aF (jv1 (f15 x17.toNat)) 0 600) (.obc (.obt (.br (!aF (jv2 (f15 x17.toNat)) 0 1000) (.ret (vi 7)) (.br (decide (0<=jv0 (f13 x17.toNat))) (.ob (decide (0<=jv0 (f13 x17.toNat)/\jv0 (f13 x17.toNat) < (↑n2:Int))) (.ob (decide (0<=jv1 (f2 (jv0 (f13 x17.toNat)).toNat)/\jv1 (f2 (jv0 (f13 x17.toNat)).toNat) < (↑n0:Int))) (.obc (.obt (.br (decide (100000000000 < i64.wrap (max (kZ (am (hdV (tlV (tlV (tlV (f0 (jv1 (f2 (jv0 (f13 x17.toNat)).toNat)).toNat)))))) (fun i=>ae [Ty.sl tp1] (atV (hdV (tlV (tlV (tlV (f0 (jv1 (f2 (jv0 (f13 x17.toNat)).toNat)).toNat))))) i)) (jv4 (f0 (jv1 (f2 (jv0 (f13 x17.toNat)).toNat)).toNat))) (jv5 (f0 (jv1 (f2 (jv0 (f13 x17.toNat)).toNat)).toNat)) * jv3 (f2 (jv0 (f13 x17.toNat)).toNat)))) (.ret (vi 7)) (.ret (vi 0))))))) (.ret (vi 0))))))) (.ret (vi 7))))))) (.ret (vi 7)))))))))))
theorem GH (n0:Nat) (f0:FnV) (n2:Nat) (f2:FnV) (x4:Int) (n5:Nat) (f5:FnV) (n7:Nat) (f7:FnV) (n9:Nat) (f9:FnV) (n11:Nat) (f11:FnV) (n13:Nat) (f13:FnV) (n15:Nat) (f15:FnV) (x17:Int):Fit noD (aN JJ BQ u0 VM [V.agg [V.sl n0 (elV [Ty.str,Ty.sl tp1,Ty.sl tp1,Ty.sl [Ty.sl tp1],Ty.int i64,Ty.int i64] f0),V.sl n2 (elV [Ty.str,Ty.int i64,Ty.int i64,Ty.int i64,Ty.int i64,Ty.int i64,Ty.int i64,Ty.int i64,Ty.int i64,Ty.int i64,Ty.int i64,Ty.int i64,Ty.int i64,Ty.int i64] f2),vi x4,V.sl n5 (elV tyR f5),V.sl n7 (elV tyT f7),V.sl n9 (elV tyF f9),V.sl n11 (elV tyC f11),V.sl n13 (elV tp1 f13),V.sl n15 (elV [Ty.int i64,Ty.int i64,Ty.int i64] f15)],vi x17]) (M4 n0 f0 n2 f2 x4 n5 f5 n7 f7 n9 f9 n11 f11 n13 f13 n15 f15 x17):=⟨by kernel_rfl,by kernel_rfl⟩
def dW (f0:FnV) (n2:Nat) (f2 f13 f15:FnV) (x17:Int):Int:=bif !aF (jv0 (f13 x17.toNat)) (-1) (i64.wrap ((↑n2:Int) - 1)) then 4 else bif !!aF (jv0 (f15 x17.toNat)) 0 200000 then bif !!aF (jv1 (f15 x17.toNat)) 0 600 then bif !aF (jv2 (f15 x17.toNat)) 0 1000 then 7 else bif decide (0<=jv0 (f13 x17.toNat)) then bif decide (100000000000 < i64.wrap (max (kZ (am (hdV (tlV (tlV (tlV (f0 (jv1 (f2 (jv0 (f13 x17.toNat)).toNat)).toNat)))))) (fun i=>ae [Ty.sl tp1] (atV (hdV (tlV (tlV (tlV (f0 (jv1 (f2 (jv0 (f13 x17.toNat)).toNat)).toNat))))) i)) (jv4 (f0 (jv1 (f2 (jv0 (f13 x17.toNat)).toNat)).toNat))) (jv5 (f0 (jv1 (f2 (jv0 (f13 x17.toNat)).toNat)).toNat)) * jv3 (f2 (jv0 (f13 x17.toNat)).toNat))) then 7 else 0 else 0 else 7 else 7
def mP (n0:Nat) (f0:FnV) (n2:Nat) (f2:FnV) (x4:Int) (n5:Nat) (f5:FnV) (n7:Nat) (f7:FnV) (n9:Nat) (f9:FnV) (n11:Nat) (f11:FnV) (n13:Nat) (f13:FnV) (n15:Nat) (f15:FnV) (x17:Int):V:=.int i64 (dW f0 n2 f2 f13 f15 x17)
theorem Sf (n0:Nat) (f0:FnV) (n2:Nat) (f2:FnV) (x4:Int) (n5:Nat) (f5:FnV) (n7:Nat) (f7:FnV) (n9:Nat) (f9:FnV) (n11:Nat) (f11:FnV) (n13:Nat) (f13:FnV) (n15:Nat) (f15:FnV) (x17:Int) (hp:OD n0 n2 f2 n13 n15 x17):evR noE (M4 n0 f0 n2 f2 x4 n5 f5 n7 f7 n9 f9 n11 f11 n13 f13 n15 f15 x17) (mP n0 f0 n2 f2 x4 n5 f5 n7 f7 n9 f9 n11 f11 n13 f13 n15 f15 x17):=aH (by first | assumption | (first | exact dqt hp.1 | exact dqt hp.2.1 | exact oS h0 h4 a0 | exact ri hp (oS h0 h4 a0))) (aH (by first | assumption | (first | exact dqt hp.1 | exact dqt hp.2.1 | exact oS h0 h4 a0 | exact ri hp (oS h0 h4 a0))) (aE (fun a0=>ao (ac (aw (fun h0=>ah (by unfold mP dW; try rw [h0]; rfl)) (fun h0=>ao (ac (ak (aw (fun h1=>aH (by first | assumption | (first | exact dqt hp.1 | exact dqt hp.2.1 | exact oS h0 h4 a0 | exact ri hp (oS h0 h4 a0))) (ao (ac (ak (aw (fun h2=>aH (by first | assumption | (first | exact dqt hp.1 | exact dqt hp.2.1 | exact oS h0 h4 a0 | exact ri hp (oS h0 h4 a0))) (ao (ac (aw (fun h3=>ah (by unfold mP dW; try rw [h0]; try rw [h1]; try rw [h2]; try rw [h3]; rfl)) (fun h3=>aw (fun h4=>aH (by first | assumption | (first | exact dqt hp.1 | exact dqt hp.2.1 | exact oS h0 h4 a0 | exact ri hp (oS h0 h4 a0))) (aH (by first | assumption | (first | exact dqt hp.1 | exact dqt hp.2.1 | exact oS h0 h4 a0 | exact ri hp (oS h0 h4 a0))) (ao (ac (aw (fun h5=>ah (by unfold mP dW; try rw [h0]; try rw [h1]; try rw [h2]; try rw [h3]; try rw [h4]; try rw [h5]; rfl)) (fun h5=>ah (by unfold mP dW; try rw [h0]; try rw [h1]; try rw [h2]; try rw [h3]; try rw [h4]; try rw [h5]; rfl))))))) (fun h4=>ah (by unfold mP dW; try rw [h0]; try rw [h1]; try rw [h2]; try rw [h3]; try rw [h4]; rfl))))))) (fun h2=>ah (by unfold mP dW; try rw [h0]; try rw [h1]; try rw [h2]; rfl))))))) (fun h1=>ah (by unfold mP dW; try rw [h0]; try rw [h1]; rfl)))))))))))
def N6:ap:=mkC [.agg [.sl [.str,.sl tp1,.sl tp1,.sl [.sl tp1],.int .i64,.int .i64],.sl [.str,.int .i64,.int .i64,.int .i64,.int .i64,.int .i64,.int .i64,.int .i64,.int .i64,.int .i64,.int .i64,.int .i64,.int .i64,.int .i64],.int .i64,.sl tyR,.sl tyT,.sl tyF,.sl tyC,.sl tp1,.sl [.int .i64,.int .i64,.int .i64]],.int .i64] (fun
 | [.agg [.sl n0 f0,.sl n2 f2,.int _ x4,.sl n5 f5,.sl n7 f7,.sl n9 f9,.sl n11 f11,.sl n13 f13,.sl n15 f15],.int _ x17]=>OD n0 n2 f2 n13 n15 x17
 | _=>False) fun
 | [.agg [.sl n0 f0,.sl n2 f2,.int _ x4,.sl n5 f5,.sl n7 f7,.sl n9 f9,.sl n11 f11,.sl n13 f13,.sl n15 f15],.int _ x17]=>mP n0 f0 n2 f2 x4 n5 f5 n7 f7 n9 f9 n11 f11 n13 f13 n15 f15 x17
 | _=>.any
theorem PD:(vP N6).Ok Tryz.prog 67:=mkE Fv Tryz.func67 (by kernel_rfl) fun ds hp=>rf0 (GH ..) (Sf _ _ _ _ _ _ _ _ _ _ _ _ _ _ _ _ _ _ hp)
end
theorem z6 {p:Nat->Int} {z:Int}:∀ k:Nat,1<=k->mxZ p z k=max z (mxZ p (p 0) k)
 | 0,h=>absurd h (by decide)
 | 1,_=>by show max z (p 0)=max z (max (p 0) (p 0)); rw [Int.max_self]
 | k+2,_=>by
   show max (mxZ p z (k+1)) (p (k+1))=max z (max (mxZ p (p 0) (k+1)) (p (k+1)))
   rw [z6 (k+1) (by omega),Int.max_assoc]
theorem tt {n5:Nat} {f5:Nat->List V} {z:Int} (h:∀ i,i < n5->1<=am (hdV (f5 i))):l7 n5 f5 z=kZ n5 f5 z:=by
 unfold l7 kZ
 have:∀ k,k<=n5->mxZ (fun i=>uu f5 i) z k=grR f5 z k:=fun k=>by
  induction k with
  | zero=>intro _; rfl
  | succ k ih =>
    intro hk
    show max (mxZ (fun i=>uu f5 i) z k) (uu f5 k)=mxZ (fun j=>jv0 (atV (hdV (f5 k)) j)) (grR f5 z k) (am (hdV (f5 k)))
    rw [ih (by omega),z6 _ (h k (by omega))]
    rfl
 exact this n5 (Nat.le_refl _)
abbrev tyU:List Ty:=[Ty.int i64,Ty.int i64,Ty.int i64]
def gr4 (x:List V):Int:=kZ (tbN x) (elV [.sl tp1] (tbF x)) (jv4 x)
def ck3 (n0:Nat) (f0:FnV) (x4:Int):Int:=bif !aF x4 (-1) (i64.wrap ((n0:Int) - 1)) then 4 else bif decide (0<=x4) then (bif decide (10000 < gr4 (f0 x4.toNat)) then 7 else 0) else 0
def OJ (f0:FnV) (x:List V):Bool:=decide (100000000000 < i64.wrap (max (gr4 (f0 (jv1 x).toNat)) (jv5 ((f0 (jv1 x).toNat))) * jv3 x))
def sC (a b c d e g:Bool):Int:=bif !a then 4 else bif !!b then (bif !!c then (bif !d then 7 else bif e then (bif g then 7 else 0) else 0) else 7) else 7
def nQ (f0:FnV) (n2:Nat) (f2 f13 f15:Nat->List V) (i:Nat):Int:=sC (aF (jv0 ((f13 i))) (-1) (i64.wrap ((n2:Int) - 1))) (aF (jv0 ((f15 i))) 0 200000) (aF (jv1 ((f15 i))) 0 600) (aF (jv2 ((f15 i))) 0 1000) (decide (0<=jv0 ((f13 i)))) (OJ f0 (f2 (jv0 ((f13 i))).toNat))
theorem Xe (f0:FnV) (n2:Nat) (f2 f13 f15:Nat->List V) (i:Nat):dW (elV aS f0) n2 (elV aT f2) (elV tp1 f13) (elV tyU f15) i=nQ f0 n2 f2 f13 f15 i:=by
 unfold dW nQ sC OJ gr4
 rfl
theorem T0 {a b c d e g:Bool} (h:a=false):sC a b c d e g=4:=by subst h; rfl
theorem Wd {a b c d e g:Bool} (h:a=true) (h2:b=false):sC a b c d e g=7:=by subst h h2; rfl
theorem Wh {a b c d e g:Bool} (h:a=true) (h2:b=true) (h3:c=false):sC a b c d e g=7:=by subst h h2 h3; rfl
theorem S9 {a b c d e g:Bool} (h:a=true) (h2:b=true) (h3:c=true) (h4:d=false):sC a b c d e g=7:=by subst h h2 h3 h4; rfl
theorem Vt {a b c d e g:Bool} (h:a=true) (h2:b=true) (h3:c=true) (h4:d=true) (h5:e=false):sC a b c d e g=0:=by subst h h2 h3 h4 h5; rfl
theorem Wv {a b c d e g:Bool} (h:a=true) (h2:b=true) (h3:c=true) (h4:d=true) (h5:e=true) (h6:g=true):sC a b c d e g=7:=by subst h h2 h3 h4 h5 h6; rfl
theorem Uw {a b c d e g:Bool} (h:a=true) (h2:b=true) (h3:c=true) (h4:d=true) (h5:e=true) (h6:g=false):sC a b c d e g=0:=by subst h h2 h3 h4 h5 h6; rfl
def vt (n11 n13 n15:Nat):Bool:=bif (n13:Int) != (n11:Int) then true else (n15:Int) != (n11:Int)
def ck4 (n0:Nat) (f0:FnV) (n2:Nat) (f2:FnV) (x4:Int) (n5:Nat) (f5:FnV) (n7:Nat) (f7:FnV) (n9:Nat) (f9:FnV) (n11:Nat) (f11:FnV) (n13:Nat) (f13:FnV) (n15:Nat) (f15:FnV):Int × Int × Int:=bif yae n0 (elV aS f0) n2 (elV aT f2) != 0 then (1,0,yae n0 (elV aS f0) n2 (elV aT f2)) else bif jU n5 (elV tyR f5) n7 (elV tyT f7) n9 (elV tyF f9) n11 (elV tyC f11) != 0 then (2,0,jU n5 (elV tyR f5) n7 (elV tyT f7) n9 (elV tyF f9) n11 (elV tyC f11)) else bif ck3 n0 f0 x4 != 0 then (3,0,ck3 n0 f0 x4) else bif vt n11 n13 n15 then (4,0,2) else r24 n11 (nQ f0 n2 f2 f13 f15) 4 (0,0,0)
def eW (n0:Nat) (f0:FnV) (n2:Nat) (f2:FnV) (x4:Int) (n5:Nat) (f5:FnV) (n7:Nat) (f7:FnV) (n9:Nat) (f9:FnV) (n11:Nat) (f11:FnV) (n13:Nat) (f13:FnV) (n15:Nat) (f15:FnV):Int:=(ck4 n0 f0 n2 f2 x4 n5 f5 n7 f7 n9 f9 n11 f11 n13 f13 n15 f15).1
def eY (n0:Nat) (f0:FnV) (n2:Nat) (f2:FnV) (x4:Int) (n5:Nat) (f5:FnV) (n7:Nat) (f7:FnV) (n9:Nat) (f9:FnV) (n11:Nat) (f11:FnV) (n13:Nat) (f13:FnV) (n15:Nat) (f15:FnV):Int:=(ck4 n0 f0 n2 f2 x4 n5 f5 n7 f7 n9 f9 n11 f11 n13 f13 n15 f15).2.1
def dm (n0:Nat) (f0:FnV) (n2:Nat) (f2:FnV) (x4:Int) (n5:Nat) (f5:FnV) (n7:Nat) (f7:FnV) (n9:Nat) (f9:FnV) (n11:Nat) (f11:FnV) (n13:Nat) (f13:FnV) (n15:Nat) (f15:FnV):Int:=(ck4 n0 f0 n2 f2 x4 n5 f5 n7 f7 n9 f9 n11 f11 n13 f13 n15 f15).2.2
theorem pI {n11 n13 n15:Nat} (h:vt n11 n13 n15=false):n13=n11/\n15=n11:=by
 unfold vt at h
 cases h1:((n13:Int) != (n11:Int)) with
 | true=>rw [h1] at h; cases h
 | false =>
   rw [h1] at h
   have h:((n15:Int) != (n11:Int))=false:=h
   have h1:=eq_of_beq (by simpa using h1:((n13:Int) == (n11:Int))=true)
   have h:=eq_of_beq (by simpa using h:((n15:Int) == (n11:Int))=true)
   omega
noncomputable section
def oF:aY:=(67,.con N6)::BQ
theorem v8:aQ Tryz.prog eqs its oF:=.con PD (Fv)
theorem qN {x:Int} (h:(x != 0)=false):x=0:=eq_of_beq (by simpa using h:(x == 0)=true)
theorem WP {x:Int} (h:x ≠ 0):(x != 0)=true:=by simpa using h
theorem wN {b:Bool} (h:(!b)=true):b=false:=by cases b <;> first | rfl | cases h
theorem oR {b:Bool} (h:(!!b)=true):b=true:=by cases b <;> first | rfl | cases h
theorem EA {b:Bool} (h:(!!b)=false):b=false:=by cases b <;> first | rfl | cases h
theorem tg {S:Type} {Nx:S->V->Prop} {r:V} {b:Bool} {x y:RT S} (h:b=true) (hx:evR Nx x r):evR Nx (.br b x y) r:=aw (fun _=>hx) (fun h'=>by rw [h] at h'; cases h')
theorem tK {S:Type} {Nx:S->V->Prop} {r:V} {b:Bool} {x y:RT S} (h:b=false) (hx:evR Nx y r):evR Nx (.br b x y) r:=aw (fun h'=>by rw [h] at h'; cases h') (fun _=>hx)
theorem nM.of_el {f0:Nat->List V} {i:Nat} (h:nM (elV aS f0 i)):nM (f0 i):=⟨h.u,h.v,h.n,h.row,h.side,h.sky,h.val⟩
theorem sE {x:List V} (h:nM x):∀ i:Nat,i < am (hdV (tlV (tlV (tlV x))))->1<=am (hdV (atV (hdV (tlV (tlV (tlV x)))) i)):=fun i hi=>by
 have h1:=h.row i hi
 have h2:=h.v.1
 show 1<=am (hdV (tbF x i))
 omega
theorem sB {x:List V} (h:nM x):∀ i:Nat,i < tbN x->1<=am (hdV (elV [.sl tp1] (tbF x) i)):=sE h
theorem srf {x4:Int} {n0:Nat} (h:aF x4 (-1) (i64.wrap ((n0:Int) - 1))=true) (h2:decide (0<=x4)=true) (hn:n0<=9223372036854775807):decide (0<=x4/\x4 < (n0:Int))=true:=by
 have:=ini h
 rw [bb (by omega) (by omega)] at this
 have:=of_decide_eq_true h2
 exact dqt (by omega)
inductive mC where
 | L0 (i_100:Int)
def JY (n0:Nat) (f0:FnV) (n2:Nat) (f2:FnV) (x4:Int) (n5:Nat) (f5:FnV) (n7:Nat) (f7:FnV) (n9:Nat) (f9:FnV) (n11:Nat) (f11:FnV) (n13:Nat) (f13:FnV) (n15:Nat) (f15:FnV):mC->Env × List O × Option Ex
 | .L0 i_100=>([(9,vi i_100),(8,vi (↑n11:Int)),(1,V.pl 0 0)],[O.cells [V.sl n0 (elV [Ty.str,Ty.sl tp1,Ty.sl tp1,Ty.sl [Ty.sl tp1],Ty.int i64,Ty.int i64] f0),V.sl n2 (elV [Ty.str,Ty.int i64,Ty.int i64,Ty.int i64,Ty.int i64,Ty.int i64,Ty.int i64,Ty.int i64,Ty.int i64,Ty.int i64,Ty.int i64,Ty.int i64,Ty.int i64,Ty.int i64] f2),vi x4,V.sl n5 (elV tyR f5),V.sl n7 (elV tyT f7),V.sl n9 (elV tyF f9),V.sl n11 (elV tyC f11),V.sl n13 (elV tp1 f13),V.sl n15 (elV [Ty.int i64,Ty.int i64,Ty.int i64] f15)] 35],none)
def yaU:mC->JJ
 | .L0 i_100=>(0,[])
def uU (n0:Nat) (f0:FnV) (n2:Nat) (f2:FnV) (x4:Int) (n5:Nat) (f5:FnV) (n7:Nat) (f7:FnV) (n9:Nat) (f9:FnV) (n11:Nat) (f11:FnV) (n13:Nat) (f13:FnV) (n15:Nat) (f15:FnV) (cx:List Cx):Lp JJ:=lpT (atT (aN JJ oF u0 Mp [V.agg [V.sl n0 (elV [Ty.str,Ty.sl tp1,Ty.sl tp1,Ty.sl [Ty.sl tp1],Ty.int i64,Ty.int i64] f0),V.sl n2 (elV [Ty.str,Ty.int i64,Ty.int i64,Ty.int i64,Ty.int i64,Ty.int i64,Ty.int i64,Ty.int i64,Ty.int i64,Ty.int i64,Ty.int i64,Ty.int i64,Ty.int i64,Ty.int i64] f2),vi x4,V.sl n5 (elV tyR f5),V.sl n7 (elV tyT f7),V.sl n9 (elV tyF f9),V.sl n11 (elV tyC f11),V.sl n13 (elV tp1 f13),V.sl n15 (elV [Ty.int i64,Ty.int i64,Ty.int i64] f15)]]) [false,false,false,true,false,false])
def Oi (n0:Nat) (f0:FnV) (n2:Nat) (f2:FnV) (x4:Int) (n5:Nat) (f5:FnV) (n7:Nat) (f7:FnV) (n9:Nat) (f9:FnV) (n11:Nat) (f11:FnV) (n13:Nat) (f13:FnV) (n15:Nat) (f15:FnV):JJ->Lp JJ
 | (0,cx)=>uU n0 f0 n2 f2 x4 n5 f5 n7 f7 n9 f9 n11 f11 n13 f13 n15 f15 cx
 | (_,cx)=>uU n0 f0 n2 f2 x4 n5 f5 n7 f7 n9 f9 n11 f11 n13 f13 n15 f15 cx
def Xj (n0:Nat) (f0:FnV) (n2:Nat) (f2:FnV) (x4:Int) (n5:Nat) (f5:FnV) (n7:Nat) (f7:FnV) (n9:Nat) (f9:FnV) (n11:Nat) (f11:FnV) (n13:Nat) (f13:FnV) (n15:Nat) (f15:FnV):LD JJ mC:=⟨yaU,Oi n0 f0 n2 f2 x4 n5 f5 n7 f7 n9 f9 n11 f11 n13 f13 n15 f15,JY n0 f0 n2 f2 x4 n5 f5 n7 f7 n9 f9 n11 f11 n13 f13 n15 f15⟩
def pK (n0:Nat) (f0:FnV) (n2:Nat) (f2:FnV) (x4:Int) (n5:Nat) (f5:FnV) (n7:Nat) (f7:FnV) (n9:Nat) (f9:FnV) (n11:Nat) (f11:FnV) (n13:Nat) (f13:FnV) (n15:Nat) (f15:FnV):mC->RT mC
 | .L0 i_100=>.br (decide (i_100 < (↑n11:Int))) (.obp (((0:Int)<=i_100/\i_100 < (↑n13:Int))/\((0:Int)<=i_100/\i_100 < (↑n15:Int))/\∀ (i:Nat),i < n2->(0:Int)<=jv1 (f2 i)/\jv1 (f2 i) < (↑n0:Int)) (.obt (.br (dW (elV [Ty.str,Ty.sl tp1,Ty.sl tp1,Ty.sl [Ty.sl tp1],Ty.int i64,Ty.int i64] f0) n2 (elV [Ty.str,Ty.int i64,Ty.int i64,Ty.int i64,Ty.int i64,Ty.int i64,Ty.int i64,Ty.int i64,Ty.int i64,Ty.int i64,Ty.int i64,Ty.int i64,Ty.int i64,Ty.int i64] f2) (elV tp1 f13) (elV [Ty.int i64,Ty.int i64,Ty.int i64] f15) i_100 != 0) (.ret (V.tup [vi 4,vi i_100,vi (dW (elV [Ty.str,Ty.sl tp1,Ty.sl tp1,Ty.sl [Ty.sl tp1],Ty.int i64,Ty.int i64] f0) n2 (elV [Ty.str,Ty.int i64,Ty.int i64,Ty.int i64,Ty.int i64,Ty.int i64,Ty.int i64,Ty.int i64,Ty.int i64,Ty.int i64,Ty.int i64,Ty.int i64,Ty.int i64,Ty.int i64] f2) (elV tp1 f13) (elV [Ty.int i64,Ty.int i64,Ty.int i64] f15) i_100)])) (.next [some (some 0)] (mC.L0 (i64.wrap (i_100+1))) [])))) (.ret (V.tup [vi 0,vi 0,vi 0]))
def BH (n0:Nat) (f0:FnV) (n2:Nat) (f2:FnV) (x4:Int) (n5:Nat) (f5:FnV) (n7:Nat) (f7:FnV) (n9:Nat) (f9:FnV) (n11:Nat) (f11:FnV) (n13:Nat) (f13:FnV) (n15:Nat) (f15:FnV):RT mC:=.obp ((∀ (i:Nat),i < n0->(sv (hdV (f0 i))).size<=(9223372036854775807:Nat))/\∀ (i:Nat),i < n2->(sv (hdV (f2 i))).size<=(9223372036854775807:Nat)) (.obt (.br (yae n0 (elV [Ty.str,Ty.sl tp1,Ty.sl tp1,Ty.sl [Ty.sl tp1],Ty.int i64,Ty.int i64] f0) n2 (elV [Ty.str,Ty.int i64,Ty.int i64,Ty.int i64,Ty.int i64,Ty.int i64,Ty.int i64,Ty.int i64,Ty.int i64,Ty.int i64,Ty.int i64,Ty.int i64,Ty.int i64,Ty.int i64] f2) != 0) (.ret (V.tup [vi 1,vi 0,vi (yae n0 (elV [Ty.str,Ty.sl tp1,Ty.sl tp1,Ty.sl [Ty.sl tp1],Ty.int i64,Ty.int i64] f0) n2 (elV [Ty.str,Ty.int i64,Ty.int i64,Ty.int i64,Ty.int i64,Ty.int i64,Ty.int i64,Ty.int i64,Ty.int i64,Ty.int i64,Ty.int i64,Ty.int i64,Ty.int i64,Ty.int i64] f2))])) (.obp ((∀ (i:Nat),i < n5->(sv (hdV (f5 i))).size<=(9223372036854775807:Nat))/\∀ (i:Nat),i < n11->(sv (hdV (f11 i))).size<=(9223372036854775807:Nat)) (.obt (.br (jU n5 (elV tyR f5) n7 (elV tyT f7) n9 (elV tyF f9) n11 (elV tyC f11) != 0) (.ret (V.tup [vi 2,vi 0,vi (jU n5 (elV tyR f5) n7 (elV tyT f7) n9 (elV tyF f9) n11 (elV tyC f11))])) (.asm (true=true->n0<=9223372036854775807) (.obc (.obt (.br (!aF x4 (-1) (i64.wrap ((↑n0:Int) - 1))) (.ret (V.tup [vi 3,vi 0,vi 4])) (.obi (.obi (.obi (.obi (.obi (.obj (decide (0<=x4)) (decide (0<=x4/\x4 < (↑n0:Int))) (.obi (.br (decide (0<=x4)) (.ob (decide (0<=x4)) (.obc (.obt (.br (decide (10000 < kZ (am (hdV (tlV (tlV (tlV (f0 x4.toNat)))))) (fun i=>ae [Ty.sl tp1] (atV (hdV (tlV (tlV (tlV (f0 x4.toNat))))) i)) (jv4 (f0 x4.toNat)))) (.ret (V.tup [vi 3,vi 0,vi 7])) (.asm (true=true->n11<=9223372036854775807) (.asm (true=true->n13<=9223372036854775807) (.obi (.obi (.asm ((!(↑n13:Int) != (↑n11:Int))=true->n15<=9223372036854775807) (.obi (.obi (.obi (.br (bif (↑n13:Int) != (↑n11:Int) then true else (↑n15:Int) != (↑n11:Int)) (.ret (V.tup [vi 4,vi 0,vi 2])) (.enter [some (some 0)] (mC.L0 (0)) [])))))))))))))) (.asm (true=true->n11<=9223372036854775807) (.asm (true=true->n13<=9223372036854775807) (.obi (.obi (.asm ((!(↑n13:Int) != (↑n11:Int))=true->n15<=9223372036854775807) (.obi (.obi (.obi (.br (bif (↑n13:Int) != (↑n11:Int) then true else (↑n15:Int) != (↑n11:Int)) (.ret (V.tup [vi 4,vi 0,vi 2])) (.enter [some (some 0)] (mC.L0 (0)) [])))))))))))))))))))))))))))
theorem Ha (n0:Nat) (f0:FnV) (n2:Nat) (f2:FnV) (x4:Int) (n5:Nat) (f5:FnV) (n7:Nat) (f7:FnV) (n9:Nat) (f9:FnV) (n11:Nat) (f11:FnV) (n13:Nat) (f13:FnV) (n15:Nat) (f15:FnV):dw oF u0 (Xj n0 f0 n2 f2 x4 n5 f5 n7 f7 n9 f9 n11 f11 n13 f13 n15 f15) (aN JJ oF u0 Mp [V.agg [V.sl n0 (elV [Ty.str,Ty.sl tp1,Ty.sl tp1,Ty.sl [Ty.sl tp1],Ty.int i64,Ty.int i64] f0),V.sl n2 (elV [Ty.str,Ty.int i64,Ty.int i64,Ty.int i64,Ty.int i64,Ty.int i64,Ty.int i64,Ty.int i64,Ty.int i64,Ty.int i64,Ty.int i64,Ty.int i64,Ty.int i64,Ty.int i64] f2),vi x4,V.sl n5 (elV tyR f5),V.sl n7 (elV tyT f7),V.sl n9 (elV tyF f9),V.sl n11 (elV tyC f11),V.sl n13 (elV tp1 f13),V.sl n15 (elV [Ty.int i64,Ty.int i64,Ty.int i64] f15)]]) (BH n0 f0 n2 f2 x4 n5 f5 n7 f7 n9 f9 n11 f11 n13 f13 n15 f15) (pK n0 f0 n2 f2 x4 n5 f5 n7 f7 n9 f9 n11 f11 n13 f13 n15 f15):=⟨⟨by kernel_rfl,by kernel_rfl⟩,fun s=>match s with | .L0 i_100=>⟨by kernel_rfl,by kernel_rfl⟩⟩
theorem xO (n0:Nat) (f0:FnV) (n2:Nat) (f2:FnV) (x4:Int) (n5:Nat) (f5:FnV) (n7:Nat) (f7:FnV) (n9:Nat) (f9:FnV) (n11:Nat) (f11 f13 f15:FnV) (hn:n11<=9223372036854775807) (hT:∀ i,i < n0->nM (f0 i)) (hL:∀ i:Nat,i < n2->0<=jv1 (f2 i)/\jv1 (f2 i) < n0):Ev (pK n0 f0 n2 f2 x4 n5 f5 n7 f7 n9 f9 n11 f11 n11 f13 n11 f15) (.L0 0) (tri (r24 n11 (nQ f0 n2 f2 f13 f15) 4 (0,0,0))):=by
 refine fL (n:=n11) hn (fun i=>nQ f0 n2 f2 f13 f15 i != 0) (P:=fun i=>Ev (pK n0 f0 n2 f2 x4 n5 f5 n7 f7 n9 f9 n11 f11 n11 f13 n11 f15) (.L0 i) _) (fun i hlt hj next=>Ev.of rfl (bK hlt (aO ⟨⟨by omega,by omega⟩,⟨by omega,by omega⟩,hL⟩ (ac ?_)))) (fun hj=>Ev.of rfl (bu (ah (by rw [gY 4 _ hj]; rfl))))
 rw [show dW (elV aS f0) n2 (elV aT f2) (elV tp1 f13) (elV tyU f15) i=nQ f0 n2 f2 f13 f15 i from Xe ..]
 exact aw (fun h=>ah (by rw [yag 4 _ hlt h hj]; rfl)) (fun h=>aR (next h))
theorem EQ (n0:Nat) (f0:FnV) (n2:Nat) (f2:FnV) (x4:Int) (n5:Nat) (f5:FnV) (n7:Nat) (f7:FnV) (n9:Nat) (f9:FnV) (n11:Nat) (f11:FnV) (n13:Nat) (f13:FnV) (n15:Nat) (f15:FnV) (hp:aI n0 f0/\aI n2 f2/\aI n5 f5/\aI n11 f11):evR (Ev (pK n0 f0 n2 f2 x4 n5 f5 n7 f7 n9 f9 n11 f11 n13 f13 n15 f15)) (BH n0 f0 n2 f2 x4 n5 f5 n7 f7 n9 f9 n11 f11 n13 f13 n15 f15) (.tup [.int .i64 (eW n0 f0 n2 f2 x4 n5 f5 n7 f7 n9 f9 n11 f11 n13 f13 n15 f15),.int .i64 (eY n0 f0 n2 f2 x4 n5 f5 n7 f7 n9 f9 n11 f11 n13 f13 n15 f15),.int .i64 (dm n0 f0 n2 f2 x4 n5 f5 n7 f7 n9 f9 n11 f11 n13 f13 n15 f15)]):=by
 obtain ⟨p0,p2,p5,p11⟩:=hp
 show evR _ _ (tri (ck4 n0 f0 n2 f2 x4 n5 f5 n7 f7 n9 f9 n11 f11 n13 f13 n15 f15))
 unfold ck4
 refine aO ⟨p0,p2⟩ (ac (aw (fun h=>ah (by rw [h]; rfl)) (fun h=>?_)))
 rw [h]
 have V2:=wz (n0:=n0) (f0:=elV aS f0) (n2:=n2) (f2:=elV aT f2) (qN h)
 have hT:∀ i,i < n0->nM (f0 i):=fun i hi=>nM.of_el (Pd (V2.tb i hi))
 have hL:∀ i:Nat,i < n2->0<=jv1 (f2 i)/\jv1 (f2 i) < n0:=fun i hi=>(RO V2.l0 (V2.lm i hi)).t
 refine aO ⟨p5,p11⟩ (ac (aw (fun h'=>ah (by rw [h']; rfl)) (fun h'=>?_)))
 rw [h']
 have V3:=Gb (n0:=n5) (f0:=elV tyR f5) (n2:=n7) (f2:=elV tyT f7) (n4:=n9) (f4:=elV tyF f9) (n6:=n11) (f6:=elV tyC f11) (qN h')
 refine yab fun hn0=>ao (ac (aw (fun h1=>?_) (fun h1=>?_)))
 ·have hk:ck3 n0 f0 x4=4:=by
   unfold ck3
   rw [show aF x4 (-1) (i64.wrap ((n0:Int) - 1))=false from wN h1]; rfl
  exact ah (by rw [hk]; rfl)
 ·have h1:aF x4 (-1) (i64.wrap ((n0:Int) - 1))=true:=notf h1
  refine ak (ak (ak (ak (ak (oH (fun h2=>?_) (ak (aw (fun h2=>?_) (fun h2=>?_))))))))
  ·exact srf h1 h2 hn0
  ·have hx:=of_decide_eq_true (srf h1 h2 hn0)
   refine aH h2 (ao (ac (aw (fun h3=>?_) (fun h3=>?_))))
   ·have hk:ck3 n0 f0 x4=7:=by
     unfold ck3 gr4
     rw [h1,h2]; exact congrArg (fun b=>bif b then (7:Int) else 0) h3
    exact ah (by rw [hk]; rfl)
   have hk:ck3 n0 f0 x4=0:=by
    unfold ck3 gr4
    rw [h1,h2]; exact congrArg (fun b=>bif b then (7:Int) else 0) h3
   rw [hk]
   cases hl:vt n11 n13 n15 with
   | true=>exact aE fun _=>aE fun _=>ak (ak (aE fun _=>ak (ak (ak (tg hl (ah rfl))))))
   | false =>
     obtain ⟨e1,e2⟩:=pI hl
     refine aE fun _=>aE fun _=>ak (ak (aE fun _=>ak (ak (ak (tK hl (aD ?_))))))
     subst e1 e2
     exact xO _ _ _ _ _ _ _ _ _ _ _ _ _ _ _ (by have:=V3.l6; omega) hT hL
  ·have hk:ck3 n0 f0 x4=0:=by
    unfold ck3
    rw [h1,h2]; rfl
   rw [hk]
   cases hl:vt n11 n13 n15 with
   | true=>exact aE fun _=>aE fun _=>ak (ak (aE fun _=>ak (ak (ak (tg hl (ah rfl))))))
   | false =>
     obtain ⟨e1,e2⟩:=pI hl
     refine aE fun _=>aE fun _=>ak (ak (aE fun _=>ak (ak (ak (tK hl (aD ?_))))))
     subst e1 e2
     exact xO _ _ _ _ _ _ _ _ _ _ _ _ _ _ _ (by have:=V3.l6; omega) hT hL
theorem Qb (n0:Nat) (f0:FnV) (n2:Nat) (f2:FnV) (x4:Int) (n5:Nat) (f5:FnV) (n7:Nat) (f7:FnV) (n9:Nat) (f9:FnV) (n11:Nat) (f11:FnV) (n13:Nat) (f13:FnV) (n15:Nat) (f15:FnV) (hp:aI n0 (elV [.str,.sl tp1,.sl tp1,.sl [.sl tp1],.int .i64,.int .i64] f0)/\aI n2 (elV [.str,.int .i64,.int .i64,.int .i64,.int .i64,.int .i64,.int .i64,.int .i64,.int .i64,.int .i64,.int .i64,.int .i64,.int .i64,.int .i64] f2)/\aI n5 (elV tyR f5)/\aI n11 (elV tyC f11)):evR (Ev (pK n0 f0 n2 f2 x4 n5 f5 n7 f7 n9 f9 n11 f11 n13 f13 n15 f15)) (BH n0 f0 n2 f2 x4 n5 f5 n7 f7 n9 f9 n11 f11 n13 f13 n15 f15) (.tup [.int .i64 (eW n0 (elV [.str,.sl tp1,.sl tp1,.sl [.sl tp1],.int .i64,.int .i64] f0) n2 (elV [.str,.int .i64,.int .i64,.int .i64,.int .i64,.int .i64,.int .i64,.int .i64,.int .i64,.int .i64,.int .i64,.int .i64,.int .i64,.int .i64] f2) x4 n5 (elV tyR f5) n7 (elV tyT f7) n9 (elV tyF f9) n11 (elV tyC f11) n13 (elV tp1 f13) n15 (elV [.int .i64,.int .i64,.int .i64] f15)),.int .i64 (eY n0 (elV [.str,.sl tp1,.sl tp1,.sl [.sl tp1],.int .i64,.int .i64] f0) n2 (elV [.str,.int .i64,.int .i64,.int .i64,.int .i64,.int .i64,.int .i64,.int .i64,.int .i64,.int .i64,.int .i64,.int .i64,.int .i64,.int .i64] f2) x4 n5 (elV tyR f5) n7 (elV tyT f7) n9 (elV tyF f9) n11 (elV tyC f11) n13 (elV tp1 f13) n15 (elV [.int .i64,.int .i64,.int .i64] f15)),.int .i64 (dm n0 (elV [.str,.sl tp1,.sl tp1,.sl [.sl tp1],.int .i64,.int .i64] f0) n2 (elV [.str,.int .i64,.int .i64,.int .i64,.int .i64,.int .i64,.int .i64,.int .i64,.int .i64,.int .i64,.int .i64,.int .i64,.int .i64,.int .i64] f2) x4 n5 (elV tyR f5) n7 (elV tyT f7) n9 (elV tyF f9) n11 (elV tyC f11) n13 (elV tp1 f13) n15 (elV [.int .i64,.int .i64,.int .i64] f15))]):=EQ n0 f0 n2 f2 x4 n5 f5 n7 f7 n9 f9 n11 f11 n13 f13 n15 f15 hp
def yaP:ap:=mkC [.agg [.sl [.str,.sl tp1,.sl tp1,.sl [.sl tp1],.int .i64,.int .i64],.sl [.str,.int .i64,.int .i64,.int .i64,.int .i64,.int .i64,.int .i64,.int .i64,.int .i64,.int .i64,.int .i64,.int .i64,.int .i64,.int .i64],.int .i64,.sl tyR,.sl tyT,.sl tyF,.sl tyC,.sl tp1,.sl [.int .i64,.int .i64,.int .i64]]] (fun
 | [.agg [.sl n0 f0,.sl n2 f2,.int _ x4,.sl n5 f5,.sl n7 f7,.sl n9 f9,.sl n11 f11,.sl n13 f13,.sl n15 f15]]=>aI n0 f0/\aI n2 f2/\aI n5 f5/\aI n11 f11
 | _=>False) fun
 | [.agg [.sl n0 f0,.sl n2 f2,.int _ x4,.sl n5 f5,.sl n7 f7,.sl n9 f9,.sl n11 f11,.sl n13 f13,.sl n15 f15]]=>.tup [.int .i64 (eW n0 f0 n2 f2 x4 n5 f5 n7 f7 n9 f9 n11 f11 n13 f13 n15 f15),.int .i64 (eY n0 f0 n2 f2 x4 n5 f5 n7 f7 n9 f9 n11 f11 n13 f13 n15 f15),.int .i64 (dm n0 f0 n2 f2 x4 n5 f5 n7 f7 n9 f9 n11 f11 n13 f13 n15 f15)]
 | _=>.any
theorem Rv:(vP yaP).Ok Tryz.prog 23:=mkE v8 Tryz.func23 (by kernel_rfl) fun ds hp=>rfs (Ha ..) (Qb _ _ _ _ _ _ _ _ _ _ _ _ _ _ _ _ _ hp)
inductive lg where
 | L0 (i_100:Int)
def Iy (n0:Nat) (f0:FnV) (n2:Nat) (f2:FnV) (x4:Int) (n5:Nat) (f5:FnV) (n7:Nat) (f7:FnV) (n9:Nat) (f9:FnV) (n11:Nat) (f11:FnV) (n13:Nat) (f13:FnV) (n15:Nat) (f15:FnV):lg->Env × List O × Option Ex
 | .L0 i_100=>([(82,vi i_100),(81,vi (↑n13:Int)),(80,V.sl n13 (elV tp1 f13)),(1,V.pl 0 0)],[O.cells [V.sl n0 (elV [Ty.str,Ty.sl tp1,Ty.sl tp1,Ty.sl [Ty.sl tp1],Ty.int i64,Ty.int i64] f0),V.sl n2 (elV [Ty.str,Ty.int i64,Ty.int i64,Ty.int i64,Ty.int i64,Ty.int i64,Ty.int i64,Ty.int i64,Ty.int i64,Ty.int i64,Ty.int i64,Ty.int i64,Ty.int i64,Ty.int i64] f2),vi x4,V.sl n5 (elV tyR f5),V.sl n7 (elV tyT f7),V.sl n9 (elV tyF f9),V.sl n11 (elV tyC f11),V.sl n13 (elV tp1 f13),V.sl n15 (elV [Ty.int i64,Ty.int i64,Ty.int i64] f15)] 35],none)
def SJ:lg->JJ
 | .L0 i_100=>(0,[])
def uZ (n0:Nat) (f0:FnV) (n2:Nat) (f2:FnV) (x4:Int) (n5:Nat) (f5:FnV) (n7:Nat) (f7:FnV) (n9:Nat) (f9:FnV) (n11:Nat) (f11:FnV) (n13:Nat) (f13:FnV) (n15:Nat) (f15:FnV) (cx:List Cx):Lp JJ:=lpT (atT (aN JJ oF u0 Lv [V.agg [V.sl n0 (elV [Ty.str,Ty.sl tp1,Ty.sl tp1,Ty.sl [Ty.sl tp1],Ty.int i64,Ty.int i64] f0),V.sl n2 (elV [Ty.str,Ty.int i64,Ty.int i64,Ty.int i64,Ty.int i64,Ty.int i64,Ty.int i64,Ty.int i64,Ty.int i64,Ty.int i64,Ty.int i64,Ty.int i64,Ty.int i64,Ty.int i64] f2),vi x4,V.sl n5 (elV tyR f5),V.sl n7 (elV tyT f7),V.sl n9 (elV tyF f9),V.sl n11 (elV tyC f11),V.sl n13 (elV tp1 f13),V.sl n15 (elV [Ty.int i64,Ty.int i64,Ty.int i64] f15)]]) [false,false,false,true,false,false])
def Of (n0:Nat) (f0:FnV) (n2:Nat) (f2:FnV) (x4:Int) (n5:Nat) (f5:FnV) (n7:Nat) (f7:FnV) (n9:Nat) (f9:FnV) (n11:Nat) (f11:FnV) (n13:Nat) (f13:FnV) (n15:Nat) (f15:FnV):JJ->Lp JJ
 | (0,cx)=>uZ n0 f0 n2 f2 x4 n5 f5 n7 f7 n9 f9 n11 f11 n13 f13 n15 f15 cx
 | (_,cx)=>uZ n0 f0 n2 f2 x4 n5 f5 n7 f7 n9 f9 n11 f11 n13 f13 n15 f15 cx
def WB (n0:Nat) (f0:FnV) (n2:Nat) (f2:FnV) (x4:Int) (n5:Nat) (f5:FnV) (n7:Nat) (f7:FnV) (n9:Nat) (f9:FnV) (n11:Nat) (f11:FnV) (n13:Nat) (f13:FnV) (n15:Nat) (f15:FnV):LD JJ lg:=⟨SJ,Of n0 f0 n2 f2 x4 n5 f5 n7 f7 n9 f9 n11 f11 n13 f13 n15 f15,Iy n0 f0 n2 f2 x4 n5 f5 n7 f7 n9 f9 n11 f11 n13 f13 n15 f15⟩
def qf (n0:Nat) (f0:FnV) (n2:Nat) (f2:FnV) (x4:Int) (n5:Nat) (f5:FnV) (n7:Nat) (f7:FnV) (n9:Nat) (f9:FnV) (n11:Nat) (f11:FnV) (n13:Nat) (f13:FnV) (n15:Nat) (f15:FnV):lg->RT lg
 | .L0 i_100=>.br (decide (i_100 < (↑n13:Int))) (.ob (decide (0<=i_100/\i_100 < (↑n13:Int))) (.ob (decide (0<=i_100/\i_100 < (↑n15:Int))) (.asm (true=true->n2<=9223372036854775807) (.obc (.obt (.br (!cO (jv0 (f13 i_100.toNat)) (-1) (i64.wrap ((↑n2:Int) - 1))) (.ret (V.tup [vi 4,vi i_100,vi 4])) (.obc (.obt (.obi (.br (!!cO (jv0 (f15 i_100.toNat)) 0 200000) (.ob (!!cO (jv0 (f15 i_100.toNat)) 0 200000) (.obc (.obt (.obi (.br (!!cO (jv1 (f15 i_100.toNat)) 0 600) (.ob (!!cO (jv1 (f15 i_100.toNat)) 0 600) (.obc (.obt (.br (!cO (jv2 (f15 i_100.toNat)) 0 1000) (.ret (V.tup [vi 4,vi i_100,vi 7])) (.br (decide (jv0 (f13 i_100.toNat) < 0)) (.next [some (some 0)] (lg.L0 (i64.wrap (i_100+1))) []) (.ob (decide (0<=jv0 (f13 i_100.toNat)/\jv0 (f13 i_100.toNat) < (↑n2:Int))) (.ob (decide (0<=jv1 (f2 (jv0 (f13 i_100.toNat)).toNat)/\jv1 (f2 (jv0 (f13 i_100.toNat)).toNat) < (↑n0:Int))) (.obp (∀ (i:Nat),i < am (hdV (tlV (tlV (tlV (f0 (jv1 (f2 (jv0 (f13 i_100.toNat)).toNat)).toNat)))))->(1:Nat)<=am (hdV (atV (hdV (tlV (tlV (tlV (f0 (jv1 (f2 (jv0 (f13 i_100.toNat)).toNat)).toNat))))) i))) (.obt (.br (decide (100000000000 < i64.wrap (max (l7 (am (hdV (tlV (tlV (tlV (f0 (jv1 (f2 (jv0 (f13 i_100.toNat)).toNat)).toNat)))))) (fun i=>ae [Ty.sl tp1] (atV (hdV (tlV (tlV (tlV (f0 (jv1 (f2 (jv0 (f13 i_100.toNat)).toNat)).toNat))))) i)) (jv4 (f0 (jv1 (f2 (jv0 (f13 i_100.toNat)).toNat)).toNat))) (jv5 (f0 (jv1 (f2 (jv0 (f13 i_100.toNat)).toNat)).toNat)) * jv3 (f2 (jv0 (f13 i_100.toNat)).toNat)))) (.ret (V.tup [vi 4,vi i_100,vi 7])) (.next [some (some 0)] (lg.L0 (i64.wrap (i_100+1))) []))))))))))) (.ret (V.tup [vi 4,vi i_100,vi 7]))))))) (.ret (V.tup [vi 4,vi i_100,vi 7])))))))))))) (.ret (V.tup [vi 0,vi 0,vi 0]))
def BC (n0:Nat) (f0:FnV) (n2:Nat) (f2:FnV) (x4:Int) (n5:Nat) (f5:FnV) (n7:Nat) (f7:FnV) (n9:Nat) (f9:FnV) (n11:Nat) (f11:FnV) (n13:Nat) (f13:FnV) (n15:Nat) (f15:FnV):RT lg:=.obp ((∀ (i:Nat),i < n0->(sv (hdV (f0 i))).size<=(9223372036854775807:Nat))/\∀ (i:Nat),i < n2->(sv (hdV (f2 i))).size<=(9223372036854775807:Nat)) (.obt (.br (e7 n0 (elV [Ty.str,Ty.sl tp1,Ty.sl tp1,Ty.sl [Ty.sl tp1],Ty.int i64,Ty.int i64] f0) n2 (elV [Ty.str,Ty.int i64,Ty.int i64,Ty.int i64,Ty.int i64,Ty.int i64,Ty.int i64,Ty.int i64,Ty.int i64,Ty.int i64,Ty.int i64,Ty.int i64,Ty.int i64,Ty.int i64] f2) != 0) (.ret (V.tup [vi 1,vi 0,vi (e7 n0 (elV [Ty.str,Ty.sl tp1,Ty.sl tp1,Ty.sl [Ty.sl tp1],Ty.int i64,Ty.int i64] f0) n2 (elV [Ty.str,Ty.int i64,Ty.int i64,Ty.int i64,Ty.int i64,Ty.int i64,Ty.int i64,Ty.int i64,Ty.int i64,Ty.int i64,Ty.int i64,Ty.int i64,Ty.int i64,Ty.int i64] f2))])) (.obp ((∀ (i:Nat),i < n5->(sv (hdV (f5 i))).size<=(9223372036854775807:Nat))/\∀ (i:Nat),i < n11->(sv (hdV (f11 i))).size<=(9223372036854775807:Nat)) (.obt (.br (iA n5 (elV tyR f5) n7 (elV tyT f7) n9 (elV tyF f9) n11 (elV tyC f11) != 0) (.ret (V.tup [vi 2,vi 0,vi (iA n5 (elV tyR f5) n7 (elV tyT f7) n9 (elV tyF f9) n11 (elV tyC f11))])) (.asm (true=true->n11<=9223372036854775807) (.asm (true=true->n0<=9223372036854775807) (.obc (.obt (.br (!cO x4 (-1) (i64.wrap ((↑n0:Int) - 1))) (.ret (V.tup [vi 3,vi 0,vi 4])) (.obi (.obi (.obi (.obi (.obi (.obj (decide (0<=x4)) (decide (0<=x4/\x4 < (↑n0:Int))) (.obi (.br (decide (0<=x4)) (.ob (decide (0<=x4)) (.obp (∀ (i:Nat),i < am (hdV (tlV (tlV (tlV (f0 x4.toNat)))))->(1:Nat)<=am (hdV (atV (hdV (tlV (tlV (tlV (f0 x4.toNat))))) i))) (.obt (.br (decide (10000 < l7 (am (hdV (tlV (tlV (tlV (f0 x4.toNat)))))) (fun i=>ae [Ty.sl tp1] (atV (hdV (tlV (tlV (tlV (f0 x4.toNat))))) i)) (jv4 (f0 x4.toNat)))) (.ret (V.tup [vi 3,vi 0,vi 7])) (.asm (true=true->n13<=9223372036854775807) (.obi (.obi (.asm ((!(↑n13:Int) != (↑n11:Int))=true->n15<=9223372036854775807) (.obi (.obi (.obi (.br (bif (↑n13:Int) != (↑n11:Int) then true else (↑n15:Int) != (↑n11:Int)) (.ret (V.tup [vi 4,vi 0,vi 2])) (.asm (true=true->n13<=9223372036854775807) (.enter [some (some 0)] (lg.L0 (0)) [])))))))))))))) (.asm (true=true->n13<=9223372036854775807) (.obi (.obi (.asm ((!(↑n13:Int) != (↑n11:Int))=true->n15<=9223372036854775807) (.obi (.obi (.obi (.br (bif (↑n13:Int) != (↑n11:Int) then true else (↑n15:Int) != (↑n11:Int)) (.ret (V.tup [vi 4,vi 0,vi 2])) (.asm (true=true->n13<=9223372036854775807) (.enter [some (some 0)] (lg.L0 (0)) []))))))))))))))))))))))))))))
theorem H4 (n0:Nat) (f0:FnV) (n2:Nat) (f2:FnV) (x4:Int) (n5:Nat) (f5:FnV) (n7:Nat) (f7:FnV) (n9:Nat) (f9:FnV) (n11:Nat) (f11:FnV) (n13:Nat) (f13:FnV) (n15:Nat) (f15:FnV):dw oF u0 (WB n0 f0 n2 f2 x4 n5 f5 n7 f7 n9 f9 n11 f11 n13 f13 n15 f15) (aN JJ oF u0 Lv [V.agg [V.sl n0 (elV [Ty.str,Ty.sl tp1,Ty.sl tp1,Ty.sl [Ty.sl tp1],Ty.int i64,Ty.int i64] f0),V.sl n2 (elV [Ty.str,Ty.int i64,Ty.int i64,Ty.int i64,Ty.int i64,Ty.int i64,Ty.int i64,Ty.int i64,Ty.int i64,Ty.int i64,Ty.int i64,Ty.int i64,Ty.int i64,Ty.int i64] f2),vi x4,V.sl n5 (elV tyR f5),V.sl n7 (elV tyT f7),V.sl n9 (elV tyF f9),V.sl n11 (elV tyC f11),V.sl n13 (elV tp1 f13),V.sl n15 (elV [Ty.int i64,Ty.int i64,Ty.int i64] f15)]]) (BC n0 f0 n2 f2 x4 n5 f5 n7 f7 n9 f9 n11 f11 n13 f13 n15 f15) (qf n0 f0 n2 f2 x4 n5 f5 n7 f7 n9 f9 n11 f11 n13 f13 n15 f15):=⟨⟨by kernel_rfl,by kernel_rfl⟩,fun s=>match s with | .L0 i_100=>⟨by kernel_rfl,by kernel_rfl⟩⟩
theorem zo (n0:Nat) (f0:FnV) (n2:Nat) (f2:FnV) (x4:Int) (n5:Nat) (f5:FnV) (n7:Nat) (f7:FnV) (n9:Nat) (f9:FnV) (n11:Nat) (f11 f13 f15:FnV) (hn:n11<=9223372036854775807) (hT:∀ i,i < n0->nM (f0 i)) (hL:∀ i:Nat,i < n2->0<=jv1 (f2 i)/\jv1 (f2 i) < n0):Ev (qf n0 f0 n2 f2 x4 n5 f5 n7 f7 n9 f9 n11 f11 n11 f13 n11 f15) (.L0 0) (tri (r24 n11 (nQ f0 n2 f2 f13 f15) 4 (0,0,0))):=by
 refine fL (n:=n11) hn (fun i=>nQ f0 n2 f2 f13 f15 i != 0) (P:=fun i=>Ev (qf n0 f0 n2 f2 x4 n5 f5 n7 f7 n9 f9 n11 f11 n11 f13 n11 f15) (.L0 i) _) (fun i hlt hj next=>Ev.of rfl (bK hlt (yac hlt (yac hlt (yab fun hn2=>ao (ac ?_)))))) (fun hj=>Ev.of rfl (bu (ah (by rw [gY 4 _ hj]; rfl))))
 have L:∀ e,e ≠ 0->nQ f0 n2 f2 f13 f15 i=e->toA (V.tup [V.int .i64 4,V.int .i64 i,V.int .i64 e])=toA (tri (r24 n11 (nQ f0 n2 f2 f13 f15) 4 (0,0,0))):=fun e he hc=>by
  rw [yag 4 _ hlt (by rw [hc]; exact WP he) hj,hc]; rfl
 have N:nQ f0 n2 f2 f13 f15 i=0->(nQ f0 n2 f2 f13 f15 i != 0)=false:=fun h=>by rw [h]; rfl
 refine aw (fun h0=>ah (L 4 (by decide) (T0 (wN h0)))) (fun h0=>ao (ac (ak (aw (fun h1=>aH h1 (ao (ac (ak ?_)))) (fun h1=>ah (L 7 (by decide) (Wd (notf h0) (EA h1))))))))
 refine aw (fun h2=>aH h2 (ao (ac ?_))) (fun h2=>ah (L 7 (by decide) (Wh (notf h0) (oR h1) (EA h2))))
 refine aw (fun h3=>ah (L 7 (by decide) (S9 (notf h0) (oR h1) (oR h2) (wN h3)))) (fun h3=>?_)
 refine aw (fun h4=>aR (next (N (Vt (notf h0) (oR h1) (oR h2) (notf h3) (dqf (fun hh:0<=jv0 (f13 (i:Int).toNat)=>by have:=of_decide_eq_true h4; omega)))))) (fun h4=>?_)
 have h5:decide (0<=jv0 (f13 (i:Int).toNat))=true:=dqt (by have:=of_decide_eq_false h4; omega)
 have hv:=srf (notf h0) h5 hn2
 have hv':=of_decide_eq_true hv
 have ht:=hL (jv0 (f13 (i:Int).toNat)).toNat (by omega)
 have hr:=hT (jv1 (f2 (jv0 (f13 (i:Int).toNat)).toNat)).toNat (by omega)
 refine aH hv (aH (dqt ht) (aO (sE hr) (ac ?_)))
 have hb:∀ b,decide (100000000000 < i64.wrap (max (l7 (tbN (f0 (jv1 (f2 (jv0 (f13 (i:Int).toNat)).toNat)).toNat)) (elV [.sl tp1] (tbF (f0 (jv1 (f2 (jv0 (f13 (i:Int).toNat)).toNat)).toNat))) (jv4 (f0 (jv1 (f2 (jv0 (f13 (i:Int).toNat)).toNat)).toNat))) (jv5 (f0 (jv1 (f2 (jv0 (f13 (i:Int).toNat)).toNat)).toNat)) * jv3 (f2 (jv0 (f13 (i:Int).toNat)).toNat)))=b->OJ f0 (f2 (jv0 (f13 i)).toNat)=b:=fun b h=>by
  rw [tt (sB hr)] at h; exact h
 exact aw (fun h6=>ah (L 7 (by decide) (Wv (notf h0) (oR h1) (oR h2) (notf h3) h5 (hb true h6)))) (fun h6=>aR (next (N (Uw (notf h0) (oR h1) (oR h2) (notf h3) h5 (hb false h6)))))
theorem EW (n0:Nat) (f0:FnV) (n2:Nat) (f2:FnV) (x4:Int) (n5:Nat) (f5:FnV) (n7:Nat) (f7:FnV) (n9:Nat) (f9:FnV) (n11:Nat) (f11:FnV) (n13:Nat) (f13:FnV) (n15:Nat) (f15:FnV) (hp:aI n0 f0/\aI n2 f2/\aI n5 f5/\aI n11 f11):evR (Ev (qf n0 f0 n2 f2 x4 n5 f5 n7 f7 n9 f9 n11 f11 n13 f13 n15 f15)) (BC n0 f0 n2 f2 x4 n5 f5 n7 f7 n9 f9 n11 f11 n13 f13 n15 f15) (.tup [.int .i64 (eW n0 f0 n2 f2 x4 n5 f5 n7 f7 n9 f9 n11 f11 n13 f13 n15 f15),.int .i64 (eY n0 f0 n2 f2 x4 n5 f5 n7 f7 n9 f9 n11 f11 n13 f13 n15 f15),.int .i64 (dm n0 f0 n2 f2 x4 n5 f5 n7 f7 n9 f9 n11 f11 n13 f13 n15 f15)]):=by
 obtain ⟨p0,p2,p5,p11⟩:=hp
 show evR _ _ (tri (ck4 n0 f0 n2 f2 x4 n5 f5 n7 f7 n9 f9 n11 f11 n13 f13 n15 f15))
 unfold ck4
 rw [← show e7 n0 (elV aS f0) n2 (elV aT f2)=yae n0 (elV aS f0) n2 (elV aT f2) from congrArg (fun t=>t.2.2) (rR ..),← EC]
 refine aO ⟨p0,p2⟩ (ac (aw (fun h=>ah (by rw [h]; rfl)) (fun h=>?_)))
 rw [h]
 have V2:=wz (n0:=n0) (f0:=elV aS f0) (n2:=n2) (f2:=elV aT f2) ((congrArg (fun t=>t.2.2) (rR ..)).symm.trans (qN h))
 have hT:∀ i,i < n0->nM (f0 i):=fun i hi=>nM.of_el (Pd (V2.tb i hi))
 have hL:∀ i:Nat,i < n2->0<=jv1 (f2 i)/\jv1 (f2 i) < n0:=fun i hi=>(RO V2.l0 (V2.lm i hi)).t
 refine aO ⟨p5,p11⟩ (ac (aw (fun h'=>ah (by rw [h']; rfl)) (fun h'=>?_)))
 rw [h']
 have V3:=Gb (n0:=n5) (f0:=elV tyR f5) (n2:=n7) (f2:=elV tyT f7) (n4:=n9) (f4:=elV tyF f9) (n6:=n11) (f6:=elV tyC f11) (EC.symm.trans (qN h'))
 refine aE fun _=>?_
 refine yab fun hn0=>ao (ac (aw (fun h1=>?_) (fun h1=>?_)))
 ·have hk:ck3 n0 f0 x4=4:=by
   unfold ck3
   rw [show aF x4 (-1) (i64.wrap ((n0:Int) - 1))=false from wN h1]; rfl
  exact ah (by rw [hk]; rfl)
 ·have h1:aF x4 (-1) (i64.wrap ((n0:Int) - 1))=true:=notf h1
  refine ak (ak (ak (ak (ak (oH (fun h2=>?_) (ak (aw (fun h2=>?_) (fun h2=>?_))))))))
  ·exact srf h1 h2 hn0
  ·have hx:=of_decide_eq_true (srf h1 h2 hn0)
   refine aH h2 (aO (sE (hT _ (by omega))) (ac (aw (fun h3=>?_) (fun h3=>?_))))
   ·have hk:ck3 n0 f0 x4=7:=by
     unfold ck3 gr4
     rw [h1,h2,← tt (sB (hT x4.toNat (by omega)))]; exact congrArg (fun b=>bif b then (7:Int) else 0) h3
    exact ah (by rw [hk]; rfl)
   have hk:ck3 n0 f0 x4=0:=by
    unfold ck3 gr4
    rw [h1,h2,← tt (sB (hT x4.toNat (by omega)))]; exact congrArg (fun b=>bif b then (7:Int) else 0) h3
   rw [hk]
   cases hl:vt n11 n13 n15 with
   | true=>exact aE fun _=>ak (ak (aE fun _=>ak (ak (ak (tg hl (ah rfl))))))
   | false =>
     obtain ⟨e1,e2⟩:=pI hl
     refine aE fun _=>ak (ak (aE fun _=>ak (ak (ak (tK hl (aE fun _=>aD ?_))))))
     subst e1 e2
     exact zo _ _ _ _ _ _ _ _ _ _ _ _ _ _ _ (by have:=V3.l6; omega) hT hL
  ·have hk:ck3 n0 f0 x4=0:=by
    unfold ck3
    rw [h1,h2]; rfl
   rw [hk]
   cases hl:vt n11 n13 n15 with
   | true=>exact aE fun _=>ak (ak (aE fun _=>ak (ak (ak (tg hl (ah rfl))))))
   | false =>
     obtain ⟨e1,e2⟩:=pI hl
     refine aE fun _=>ak (ak (aE fun _=>ak (ak (ak (tK hl (aE fun _=>aD ?_))))))
     subst e1 e2
     exact zo _ _ _ _ _ _ _ _ _ _ _ _ _ _ _ (by have:=V3.l6; omega) hT hL
theorem Sl (n0:Nat) (f0:FnV) (n2:Nat) (f2:FnV) (x4:Int) (n5:Nat) (f5:FnV) (n7:Nat) (f7:FnV) (n9:Nat) (f9:FnV) (n11:Nat) (f11:FnV) (n13:Nat) (f13:FnV) (n15:Nat) (f15:FnV) (hp:aI n0 (elV [.str,.sl tp1,.sl tp1,.sl [.sl tp1],.int .i64,.int .i64] f0)/\aI n2 (elV [.str,.int .i64,.int .i64,.int .i64,.int .i64,.int .i64,.int .i64,.int .i64,.int .i64,.int .i64,.int .i64,.int .i64,.int .i64,.int .i64] f2)/\aI n5 (elV tyR f5)/\aI n11 (elV tyC f11)):evR (Ev (qf n0 f0 n2 f2 x4 n5 f5 n7 f7 n9 f9 n11 f11 n13 f13 n15 f15)) (BC n0 f0 n2 f2 x4 n5 f5 n7 f7 n9 f9 n11 f11 n13 f13 n15 f15) (.tup [.int .i64 (eW n0 (elV [.str,.sl tp1,.sl tp1,.sl [.sl tp1],.int .i64,.int .i64] f0) n2 (elV [.str,.int .i64,.int .i64,.int .i64,.int .i64,.int .i64,.int .i64,.int .i64,.int .i64,.int .i64,.int .i64,.int .i64,.int .i64,.int .i64] f2) x4 n5 (elV tyR f5) n7 (elV tyT f7) n9 (elV tyF f9) n11 (elV tyC f11) n13 (elV tp1 f13) n15 (elV [.int .i64,.int .i64,.int .i64] f15)),.int .i64 (eY n0 (elV [.str,.sl tp1,.sl tp1,.sl [.sl tp1],.int .i64,.int .i64] f0) n2 (elV [.str,.int .i64,.int .i64,.int .i64,.int .i64,.int .i64,.int .i64,.int .i64,.int .i64,.int .i64,.int .i64,.int .i64,.int .i64,.int .i64] f2) x4 n5 (elV tyR f5) n7 (elV tyT f7) n9 (elV tyF f9) n11 (elV tyC f11) n13 (elV tp1 f13) n15 (elV [.int .i64,.int .i64,.int .i64] f15)),.int .i64 (dm n0 (elV [.str,.sl tp1,.sl tp1,.sl [.sl tp1],.int .i64,.int .i64] f0) n2 (elV [.str,.int .i64,.int .i64,.int .i64,.int .i64,.int .i64,.int .i64,.int .i64,.int .i64,.int .i64,.int .i64,.int .i64,.int .i64,.int .i64] f2) x4 n5 (elV tyR f5) n7 (elV tyT f7) n9 (elV tyF f9) n11 (elV tyC f11) n13 (elV tp1 f13) n15 (elV [.int .i64,.int .i64,.int .i64] f15))]):=EW n0 f0 n2 f2 x4 n5 f5 n7 f7 n9 f9 n11 f11 n13 f13 n15 f15 hp
def M9:ap:=mkC [.agg [.sl [.str,.sl tp1,.sl tp1,.sl [.sl tp1],.int .i64,.int .i64],.sl [.str,.int .i64,.int .i64,.int .i64,.int .i64,.int .i64,.int .i64,.int .i64,.int .i64,.int .i64,.int .i64,.int .i64,.int .i64,.int .i64],.int .i64,.sl tyR,.sl tyT,.sl tyF,.sl tyC,.sl tp1,.sl [.int .i64,.int .i64,.int .i64]]] (fun
 | [.agg [.sl n0 f0,.sl n2 f2,.int _ x4,.sl n5 f5,.sl n7 f7,.sl n9 f9,.sl n11 f11,.sl n13 f13,.sl n15 f15]]=>aI n0 f0/\aI n2 f2/\aI n5 f5/\aI n11 f11
 | _=>False) fun
 | [.agg [.sl n0 f0,.sl n2 f2,.int _ x4,.sl n5 f5,.sl n7 f7,.sl n9 f9,.sl n11 f11,.sl n13 f13,.sl n15 f15]]=>.tup [.int .i64 (eW n0 f0 n2 f2 x4 n5 f5 n7 f7 n9 f9 n11 f11 n13 f13 n15 f15),.int .i64 (eY n0 f0 n2 f2 x4 n5 f5 n7 f7 n9 f9 n11 f11 n13 f13 n15 f15),.int .i64 (dm n0 f0 n2 f2 x4 n5 f5 n7 f7 n9 f9 n11 f11 n13 f13 n15 f15)]
 | _=>.any
theorem CV:(vP M9).Ok Tryz.prog 22:=mkE v8 Tryz.func22 (by kernel_rfl) fun ds hp=>rfs (H4 ..) (Sl _ _ _ _ _ _ _ _ _ _ _ _ _ _ _ _ _ hp)
end
noncomputable section
def vh:aY:=(23,.con yaP)::(22,.con M9)::oF
theorem tn:aQ Tryz.prog eqs its vh:=.con Rv (.con CV (v8))
def ckE (n0:Nat) (f0:FnV) (n2:Nat) (f2:FnV) (x4:Int) (n5:Nat) (f5:FnV) (n7:Nat) (f7:FnV) (n9:Nat) (f9:FnV) (n11:Nat) (f11:FnV) (n13:Nat) (f13:FnV) (n15:Nat) (f15:FnV):Int:=dm n0 (elV [Ty.str,Ty.sl tp1,Ty.sl tp1,Ty.sl [Ty.sl tp1],Ty.int i64,Ty.int i64] f0) n2 (elV [Ty.str,Ty.int i64,Ty.int i64,Ty.int i64,Ty.int i64,Ty.int i64,Ty.int i64,Ty.int i64,Ty.int i64,Ty.int i64,Ty.int i64,Ty.int i64,Ty.int i64,Ty.int i64] f2) x4 n5 (elV tyR f5) n7 (elV tyT f7) n9 (elV tyF f9) n11 (elV tyC f11) n13 (elV tp1 f13) n15 (elV [Ty.int i64,Ty.int i64,Ty.int i64] f15)
def Gh (n0:Nat) (f0:FnV) (n2:Nat) (f2:FnV) (x4:Int) (n5:Nat) (f5:FnV) (n7:Nat) (f7:FnV) (n9:Nat) (f9:FnV) (n11:Nat) (f11:FnV) (n13:Nat) (f13:FnV) (n15:Nat) (f15:FnV):RT Empty:=.obp ((∀ (i:Nat),i < n0->(sv (hdV (f0 i))).size<=(9223372036854775807:Nat))/\(∀ (i:Nat),i < n2->(sv (hdV (f2 i))).size<=(9223372036854775807:Nat))/\(∀ (i:Nat),i < n5->(sv (hdV (f5 i))).size<=(9223372036854775807:Nat))/\∀ (i:Nat),i < n11->(sv (hdV (f11 i))).size<=(9223372036854775807:Nat)) (.obt (.ret (vi (dm n0 (elV [Ty.str,Ty.sl tp1,Ty.sl tp1,Ty.sl [Ty.sl tp1],Ty.int i64,Ty.int i64] f0) n2 (elV [Ty.str,Ty.int i64,Ty.int i64,Ty.int i64,Ty.int i64,Ty.int i64,Ty.int i64,Ty.int i64,Ty.int i64,Ty.int i64,Ty.int i64,Ty.int i64,Ty.int i64,Ty.int i64] f2) x4 n5 (elV tyR f5) n7 (elV tyT f7) n9 (elV tyF f9) n11 (elV tyC f11) n13 (elV tp1 f13) n15 (elV [Ty.int i64,Ty.int i64,Ty.int i64] f15)))))
theorem G6 (n0:Nat) (f0:FnV) (n2:Nat) (f2:FnV) (x4:Int) (n5:Nat) (f5:FnV) (n7:Nat) (f7:FnV) (n9:Nat) (f9:FnV) (n11:Nat) (f11:FnV) (n13:Nat) (f13:FnV) (n15:Nat) (f15:FnV):Fit noD (aN JJ vh u0 Nk [V.agg [V.sl n0 (elV [Ty.str,Ty.sl tp1,Ty.sl tp1,Ty.sl [Ty.sl tp1],Ty.int i64,Ty.int i64] f0),V.sl n2 (elV [Ty.str,Ty.int i64,Ty.int i64,Ty.int i64,Ty.int i64,Ty.int i64,Ty.int i64,Ty.int i64,Ty.int i64,Ty.int i64,Ty.int i64,Ty.int i64,Ty.int i64,Ty.int i64] f2),vi x4,V.sl n5 (elV tyR f5),V.sl n7 (elV tyT f7),V.sl n9 (elV tyF f9),V.sl n11 (elV tyC f11),V.sl n13 (elV tp1 f13),V.sl n15 (elV [Ty.int i64,Ty.int i64,Ty.int i64] f15)]]) (Gh n0 f0 n2 f2 x4 n5 f5 n7 f7 n9 f9 n11 f11 n13 f13 n15 f15):=⟨by kernel_rfl,by kernel_rfl⟩
def XI (n0:Nat) (f0:FnV) (n2:Nat) (f2:FnV) (x4:Int) (n5:Nat) (f5:FnV) (n7:Nat) (f7:FnV) (n9:Nat) (f9:FnV) (n11:Nat) (f11:FnV) (n13:Nat) (f13:FnV) (n15:Nat) (f15:FnV):Int:=dm n0 (elV [Ty.str,Ty.sl tp1,Ty.sl tp1,Ty.sl [Ty.sl tp1],Ty.int i64,Ty.int i64] f0) n2 (elV [Ty.str,Ty.int i64,Ty.int i64,Ty.int i64,Ty.int i64,Ty.int i64,Ty.int i64,Ty.int i64,Ty.int i64,Ty.int i64,Ty.int i64,Ty.int i64,Ty.int i64,Ty.int i64] f2) x4 n5 (elV tyR f5) n7 (elV tyT f7) n9 (elV tyF f9) n11 (elV tyC f11) n13 (elV tp1 f13) n15 (elV [Ty.int i64,Ty.int i64,Ty.int i64] f15)
theorem Er (n0:Nat) (f0:FnV) (n2:Nat) (f2:FnV) (x4:Int) (n5:Nat) (f5:FnV) (n7:Nat) (f7:FnV) (n9:Nat) (f9:FnV) (n11:Nat) (f11:FnV) (n13:Nat) (f13:FnV) (n15:Nat) (f15:FnV) (hp:aI n0 f0/\aI n2 f2/\aI n5 f5/\aI n11 f11):evR noE (Gh n0 f0 n2 f2 x4 n5 f5 n7 f7 n9 f9 n11 f11 n13 f13 n15 f15) (.int .i64 (ckE n0 f0 n2 f2 x4 n5 f5 n7 f7 n9 f9 n11 f11 n13 f13 n15 f15)):=aO hp (ac (ah rfl))
theorem QT (n0:Nat) (f0:FnV) (n2:Nat) (f2:FnV) (x4:Int) (n5:Nat) (f5:FnV) (n7:Nat) (f7:FnV) (n9:Nat) (f9:FnV) (n11:Nat) (f11:FnV) (n13:Nat) (f13:FnV) (n15:Nat) (f15:FnV) (hp:aI n0 (elV [.str,.sl tp1,.sl tp1,.sl [.sl tp1],.int .i64,.int .i64] f0)/\aI n2 (elV [.str,.int .i64,.int .i64,.int .i64,.int .i64,.int .i64,.int .i64,.int .i64,.int .i64,.int .i64,.int .i64,.int .i64,.int .i64,.int .i64] f2)/\aI n5 (elV tyR f5)/\aI n11 (elV tyC f11)):evR noE (Gh n0 f0 n2 f2 x4 n5 f5 n7 f7 n9 f9 n11 f11 n13 f13 n15 f15) (.int .i64 (ckE n0 (elV [.str,.sl tp1,.sl tp1,.sl [.sl tp1],.int .i64,.int .i64] f0) n2 (elV [.str,.int .i64,.int .i64,.int .i64,.int .i64,.int .i64,.int .i64,.int .i64,.int .i64,.int .i64,.int .i64,.int .i64,.int .i64,.int .i64] f2) x4 n5 (elV tyR f5) n7 (elV tyT f7) n9 (elV tyF f9) n11 (elV tyC f11) n13 (elV tp1 f13) n15 (elV [.int .i64,.int .i64,.int .i64] f15))):=Er n0 f0 n2 f2 x4 n5 f5 n7 f7 n9 f9 n11 f11 n13 f13 n15 f15 hp
def Me:ap:=mkC [.agg [.sl [.str,.sl tp1,.sl tp1,.sl [.sl tp1],.int .i64,.int .i64],.sl [.str,.int .i64,.int .i64,.int .i64,.int .i64,.int .i64,.int .i64,.int .i64,.int .i64,.int .i64,.int .i64,.int .i64,.int .i64,.int .i64],.int .i64,.sl tyR,.sl tyT,.sl tyF,.sl tyC,.sl tp1,.sl [.int .i64,.int .i64,.int .i64]]] (fun
 | [.agg [.sl n0 f0,.sl n2 f2,.int _ x4,.sl n5 f5,.sl n7 f7,.sl n9 f9,.sl n11 f11,.sl n13 f13,.sl n15 f15]]=>aI n0 f0/\aI n2 f2/\aI n5 f5/\aI n11 f11
 | _=>False) fun
 | [.agg [.sl n0 f0,.sl n2 f2,.int _ x4,.sl n5 f5,.sl n7 f7,.sl n9 f9,.sl n11 f11,.sl n13 f13,.sl n15 f15]]=>.int .i64 (ckE n0 f0 n2 f2 x4 n5 f5 n7 f7 n9 f9 n11 f11 n13 f13 n15 f15)
 | _=>.any
theorem S2:(vP Me).Ok Tryz.prog 46:=mkE tn Tryz.func46 (by kernel_rfl) fun ds hp=>rf0 (G6 ..) (QT _ _ _ _ _ _ _ _ _ _ _ _ _ _ _ _ _ hp)
def Dj (n0:Nat) (f0:FnV) (n2:Nat) (f2:FnV) (x4:Int) (n5:Nat) (f5:FnV) (n7:Nat) (f7:FnV) (n9:Nat) (f9:FnV) (n11:Nat) (f11:FnV) (n13:Nat) (f13:FnV) (n15:Nat) (f15:FnV):RT Empty:=.obp ((∀ (i:Nat),i < n0->(sv (hdV (f0 i))).size<=(9223372036854775807:Nat))/\(∀ (i:Nat),i < n2->(sv (hdV (f2 i))).size<=(9223372036854775807:Nat))/\(∀ (i:Nat),i < n5->(sv (hdV (f5 i))).size<=(9223372036854775807:Nat))/\∀ (i:Nat),i < n11->(sv (hdV (f11 i))).size<=(9223372036854775807:Nat)) (.obt (.ret (vi (dm n0 (elV [Ty.str,Ty.sl tp1,Ty.sl tp1,Ty.sl [Ty.sl tp1],Ty.int i64,Ty.int i64] f0) n2 (elV [Ty.str,Ty.int i64,Ty.int i64,Ty.int i64,Ty.int i64,Ty.int i64,Ty.int i64,Ty.int i64,Ty.int i64,Ty.int i64,Ty.int i64,Ty.int i64,Ty.int i64,Ty.int i64] f2) x4 n5 (elV tyR f5) n7 (elV tyT f7) n9 (elV tyF f9) n11 (elV tyC f11) n13 (elV tp1 f13) n15 (elV [Ty.int i64,Ty.int i64,Ty.int i64] f15)))))
theorem HE (n0:Nat) (f0:FnV) (n2:Nat) (f2:FnV) (x4:Int) (n5:Nat) (f5:FnV) (n7:Nat) (f7:FnV) (n9:Nat) (f9:FnV) (n11:Nat) (f11:FnV) (n13:Nat) (f13:FnV) (n15:Nat) (f15:FnV):Fit noD (aN JJ vh u0 WO [V.agg [V.sl n0 (elV [Ty.str,Ty.sl tp1,Ty.sl tp1,Ty.sl [Ty.sl tp1],Ty.int i64,Ty.int i64] f0),V.sl n2 (elV [Ty.str,Ty.int i64,Ty.int i64,Ty.int i64,Ty.int i64,Ty.int i64,Ty.int i64,Ty.int i64,Ty.int i64,Ty.int i64,Ty.int i64,Ty.int i64,Ty.int i64,Ty.int i64] f2),vi x4,V.sl n5 (elV tyR f5),V.sl n7 (elV tyT f7),V.sl n9 (elV tyF f9),V.sl n11 (elV tyC f11),V.sl n13 (elV tp1 f13),V.sl n15 (elV [Ty.int i64,Ty.int i64,Ty.int i64] f15)]]) (Dj n0 f0 n2 f2 x4 n5 f5 n7 f7 n9 f9 n11 f11 n13 f13 n15 f15):=⟨by kernel_rfl,by kernel_rfl⟩
def XA (n0:Nat) (f0:FnV) (n2:Nat) (f2:FnV) (x4:Int) (n5:Nat) (f5:FnV) (n7:Nat) (f7:FnV) (n9:Nat) (f9:FnV) (n11:Nat) (f11:FnV) (n13:Nat) (f13:FnV) (n15:Nat) (f15:FnV):Int:=dm n0 (elV [Ty.str,Ty.sl tp1,Ty.sl tp1,Ty.sl [Ty.sl tp1],Ty.int i64,Ty.int i64] f0) n2 (elV [Ty.str,Ty.int i64,Ty.int i64,Ty.int i64,Ty.int i64,Ty.int i64,Ty.int i64,Ty.int i64,Ty.int i64,Ty.int i64,Ty.int i64,Ty.int i64,Ty.int i64,Ty.int i64] f2) x4 n5 (elV tyR f5) n7 (elV tyT f7) n9 (elV tyF f9) n11 (elV tyC f11) n13 (elV tp1 f13) n15 (elV [Ty.int i64,Ty.int i64,Ty.int i64] f15)
theorem D3 (n0:Nat) (f0:FnV) (n2:Nat) (f2:FnV) (x4:Int) (n5:Nat) (f5:FnV) (n7:Nat) (f7:FnV) (n9:Nat) (f9:FnV) (n11:Nat) (f11:FnV) (n13:Nat) (f13:FnV) (n15:Nat) (f15:FnV) (hp:aI n0 f0/\aI n2 f2/\aI n5 f5/\aI n11 f11):evR noE (Dj n0 f0 n2 f2 x4 n5 f5 n7 f7 n9 f9 n11 f11 n13 f13 n15 f15) (.int .i64 (ckE n0 f0 n2 f2 x4 n5 f5 n7 f7 n9 f9 n11 f11 n13 f13 n15 f15)):=aO hp (ac (ah rfl))
theorem SY (n0:Nat) (f0:FnV) (n2:Nat) (f2:FnV) (x4:Int) (n5:Nat) (f5:FnV) (n7:Nat) (f7:FnV) (n9:Nat) (f9:FnV) (n11:Nat) (f11:FnV) (n13:Nat) (f13:FnV) (n15:Nat) (f15:FnV) (hp:aI n0 (elV [.str,.sl tp1,.sl tp1,.sl [.sl tp1],.int .i64,.int .i64] f0)/\aI n2 (elV [.str,.int .i64,.int .i64,.int .i64,.int .i64,.int .i64,.int .i64,.int .i64,.int .i64,.int .i64,.int .i64,.int .i64,.int .i64,.int .i64] f2)/\aI n5 (elV tyR f5)/\aI n11 (elV tyC f11)):evR noE (Dj n0 f0 n2 f2 x4 n5 f5 n7 f7 n9 f9 n11 f11 n13 f13 n15 f15) (.int .i64 (ckE n0 (elV [.str,.sl tp1,.sl tp1,.sl [.sl tp1],.int .i64,.int .i64] f0) n2 (elV [.str,.int .i64,.int .i64,.int .i64,.int .i64,.int .i64,.int .i64,.int .i64,.int .i64,.int .i64,.int .i64,.int .i64,.int .i64,.int .i64] f2) x4 n5 (elV tyR f5) n7 (elV tyT f7) n9 (elV tyF f9) n11 (elV tyC f11) n13 (elV tp1 f13) n15 (elV [.int .i64,.int .i64,.int .i64] f15))):=D3 n0 f0 n2 f2 x4 n5 f5 n7 f7 n9 f9 n11 f11 n13 f13 n15 f15 hp
def MX:ap:=mkC [.agg [.sl [.str,.sl tp1,.sl tp1,.sl [.sl tp1],.int .i64,.int .i64],.sl [.str,.int .i64,.int .i64,.int .i64,.int .i64,.int .i64,.int .i64,.int .i64,.int .i64,.int .i64,.int .i64,.int .i64,.int .i64,.int .i64],.int .i64,.sl tyR,.sl tyT,.sl tyF,.sl tyC,.sl tp1,.sl [.int .i64,.int .i64,.int .i64]]] (fun
 | [.agg [.sl n0 f0,.sl n2 f2,.int _ x4,.sl n5 f5,.sl n7 f7,.sl n9 f9,.sl n11 f11,.sl n13 f13,.sl n15 f15]]=>aI n0 f0/\aI n2 f2/\aI n5 f5/\aI n11 f11
 | _=>False) fun
 | [.agg [.sl n0 f0,.sl n2 f2,.int _ x4,.sl n5 f5,.sl n7 f7,.sl n9 f9,.sl n11 f11,.sl n13 f13,.sl n15 f15]]=>.int .i64 (ckE n0 f0 n2 f2 x4 n5 f5 n7 f7 n9 f9 n11 f11 n13 f13 n15 f15)
 | _=>.any
theorem OK:(vP MX).Ok Tryz.prog 69:=mkE tn Tryz.func69 (by kernel_rfl) fun ds hp=>rf0 (HE ..) (SY _ _ _ _ _ _ _ _ _ _ _ _ _ _ _ _ _ hp)
def LG (x0 x1 x2 x3:Int):RT Empty:=.obc (.obt (.obi (.obi (.obi (.obi (.obi (.obi (.obi (.obi (.obi (.obi (.ret (V.bool (bif bif mQ 4 (elV tp1 (bA [vi x0,vi x2,vi x1,vi x3] 0 1)) then decide (x0<=x2) else false then decide (x1<=x3) else false))))))))))))))
theorem Iv (x0 x1 x2 x3:Int):Fit noD (aN JJ vh u0 M3 [V.agg [vi x0,vi x1,vi x2,vi x3]]) (LG x0 x1 x2 x3):=⟨by kernel_rfl,by kernel_rfl⟩
def cS (x0 x1 x2 x3:Int):Bool:=bif bif mQ 4 (elV tp1 (bA [vi x0,vi x2,vi x1,vi x3] 0 1)) then decide (x0<=x2) else false then decide (x1<=x3) else false
def EG (x0 x1 x2 x3:Int):V:=.bool (cS x0 x1 x2 x3)
theorem O3 (x0 x1 x2 x3:Int):evR noE (LG x0 x1 x2 x3) (EG x0 x1 x2 x3):=ao (ac (ak (ak (ak (ak (ak (ak (ak (ak (ak (ak (ah (by unfold EG cS; rfl)))))))))))))
def K2:ap:=mkC [.agg tp4] (fun _=>True) fun
 | [.agg [.int _ x0,.int _ x1,.int _ x2,.int _ x3]]=>EG x0 x1 x2 x3
 | _=>.any
theorem SC:(vP K2).Ok Tryz.prog 47:=mkE tn Tryz.func47 (by kernel_rfl) fun ds hp=>rf0 (Iv ..) (O3 _ _ _ _)
end
noncomputable section
def tW:aY:=(46,.con Me)::(69,.con MX)::(47,.con K2)::vh
theorem s3:aQ Tryz.prog eqs its tW:=.con S2 (.con OK (.con SC (tn)))
def NF (s0:ByteArray) (x1 x2 x3 x4 x5 x6 x7 x8 x9:Int):RT Empty:=.obp ((bJ (i64.wrap ((1000000:Int) * i64.wrap (i64.wrap (x4 * x4)+i64.wrap (x5 * x5))))=(0:Int)->False)/\(bS (i64.wrap ((1000000:Int) * i64.wrap (i64.wrap (x4 * x4)+i64.wrap (x5 * x5))))=(0:Int)->False)) (.obt (.ret (V.agg [vi (eV (i64.wrap (x6 - x1)) (i64.wrap (x8 - x1)) (i64.wrap (x7 - x2)) (i64.wrap (x9 - x2)) x4 x5),vi (fe (i64.wrap (x6 - x1)) (i64.wrap (x8 - x1)) (i64.wrap (x7 - x2)) (i64.wrap (x9 - x2)) x4 x5),vi (eX (i64.wrap (x6 - x1)) (i64.wrap (x8 - x1)) (i64.wrap (x7 - x2)) (i64.wrap (x9 - x2)) x4 x5),vi (e8 (i64.wrap (x6 - x1)) (i64.wrap (x8 - x1)) (i64.wrap (x7 - x2)) (i64.wrap (x9 - x2)) x4 x5)])))
theorem KT (s0:ByteArray) (x1 x2 x3 x4 x5 x6 x7 x8 x9:Int):Fit noD (aN JJ tW u0 TI [V.agg [V.str s0,vi x1,vi x2,vi x3,vi x4,vi x5],V.agg [vi x6,vi x7,vi x8,vi x9]]) (NF s0 x1 x2 x3 x4 x5 x6 x7 x8 x9):=⟨by kernel_rfl,by kernel_rfl⟩
def bD (x1 x2 x4 x5 x6 x7 x8 x9:Int):Int:=eV (i64.wrap (x6 - x1)) (i64.wrap (x8 - x1)) (i64.wrap (x7 - x2)) (i64.wrap (x9 - x2)) x4 x5
def bE (x1 x2 x4 x5 x6 x7 x8 x9:Int):Int:=fe (i64.wrap (x6 - x1)) (i64.wrap (x8 - x1)) (i64.wrap (x7 - x2)) (i64.wrap (x9 - x2)) x4 x5
def bF (x1 x2 x4 x5 x6 x7 x8 x9:Int):Int:=eX (i64.wrap (x6 - x1)) (i64.wrap (x8 - x1)) (i64.wrap (x7 - x2)) (i64.wrap (x9 - x2)) x4 x5
def bG (x1 x2 x4 x5 x6 x7 x8 x9:Int):Int:=e8 (i64.wrap (x6 - x1)) (i64.wrap (x8 - x1)) (i64.wrap (x7 - x2)) (i64.wrap (x9 - x2)) x4 x5
def ER (s0:ByteArray) (x1 x2 x3 x4 x5 x6 x7 x8 x9:Int):V:=.agg [.int i64 (bD x1 x2 x4 x5 x6 x7 x8 x9),.int i64 (bE x1 x2 x4 x5 x6 x7 x8 x9),.int i64 (bF x1 x2 x4 x5 x6 x7 x8 x9),.int i64 (bG x1 x2 x4 x5 x6 x7 x8 x9)]
theorem O4 (s0:ByteArray) (x1 x2 x3 x4 x5 x6 x7 x8 x9:Int) (hp:Rts (i64.wrap (i64.wrap (x4 * x4)+i64.wrap (x5 * x5)))):evR noE (NF s0 x1 x2 x3 x4 x5 x6 x7 x8 x9) (ER s0 x1 x2 x3 x4 x5 x6 x7 x8 x9):=aO (by first | assumption | (exact hp)) (ac (ah (by unfold ER bD bE bF bG; rfl)))
def MY:ap:=mkC [.agg tyC,.agg tp4] (fun
 | [.agg [.str s0,.int _ x1,.int _ x2,.int _ x3,.int _ x4,.int _ x5],.agg [.int _ x6,.int _ x7,.int _ x8,.int _ x9]]=>Rts (i64.wrap (i64.wrap (x4 * x4)+i64.wrap (x5 * x5)))
 | _=>False) fun
 | [.agg [.str s0,.int _ x1,.int _ x2,.int _ x3,.int _ x4,.int _ x5],.agg [.int _ x6,.int _ x7,.int _ x8,.int _ x9]]=>ER s0 x1 x2 x3 x4 x5 x6 x7 x8 x9
 | _=>.any
theorem QS:(vP MY).Ok Tryz.prog 70:=mkE s3 Tryz.func70 (by kernel_rfl) fun ds hp=>rf0 (KT ..) (O4 _ _ _ _ _ _ _ _ _ _ hp)
def BI (s0:ByteArray) (x1 x2 x3 x4 x5 x6 x7 x8 x9:Int):RT Empty:=.obp ((((-1000:Int)<=x4/\x4<=(1000:Int))/\((-1000:Int)<=x5/\x5<=(1000:Int))/\(x4 ≠ (0:Int) ∨ x5 ≠ (0:Int)))/\((-1000000000:Int)<=i64.wrap (x6 - x1)/\i64.wrap (x6 - x1)<=(1000000000:Int))/\((-1000000000:Int)<=i64.wrap (x8 - x1)/\i64.wrap (x8 - x1)<=(1000000000:Int))/\((-1000000000:Int)<=i64.wrap (x7 - x2)/\i64.wrap (x7 - x2)<=(1000000000:Int))/\(-1000000000:Int)<=i64.wrap (x9 - x2)/\i64.wrap (x9 - x2)<=(1000000000:Int)) (.obt (.ret (V.agg [vi (eV (i64.wrap (x6 - x1)) (i64.wrap (x8 - x1)) (i64.wrap (x7 - x2)) (i64.wrap (x9 - x2)) x4 x5),vi (fe (i64.wrap (x6 - x1)) (i64.wrap (x8 - x1)) (i64.wrap (x7 - x2)) (i64.wrap (x9 - x2)) x4 x5),vi (eX (i64.wrap (x6 - x1)) (i64.wrap (x8 - x1)) (i64.wrap (x7 - x2)) (i64.wrap (x9 - x2)) x4 x5),vi (e8 (i64.wrap (x6 - x1)) (i64.wrap (x8 - x1)) (i64.wrap (x7 - x2)) (i64.wrap (x9 - x2)) x4 x5)])))
theorem GA (s0:ByteArray) (x1 x2 x3 x4 x5 x6 x7 x8 x9:Int):Fit noD (aN JJ tW u0 yX [V.agg [V.str s0,vi x1,vi x2,vi x3,vi x4,vi x5],V.agg [vi x6,vi x7,vi x8,vi x9]]) (BI s0 x1 x2 x3 x4 x5 x6 x7 x8 x9):=⟨by kernel_rfl,by kernel_rfl⟩
def XK (x1 x2 x4 x5 x6 x7 x8 x9:Int):Int:=eV (i64.wrap (x6 - x1)) (i64.wrap (x8 - x1)) (i64.wrap (x7 - x2)) (i64.wrap (x9 - x2)) x4 x5
def XB (x1 x2 x4 x5 x6 x7 x8 x9:Int):Int:=fe (i64.wrap (x6 - x1)) (i64.wrap (x8 - x1)) (i64.wrap (x7 - x2)) (i64.wrap (x9 - x2)) x4 x5
def Xp (x1 x2 x4 x5 x6 x7 x8 x9:Int):Int:=eX (i64.wrap (x6 - x1)) (i64.wrap (x8 - x1)) (i64.wrap (x7 - x2)) (i64.wrap (x9 - x2)) x4 x5
def Xy (x1 x2 x4 x5 x6 x7 x8 x9:Int):Int:=e8 (i64.wrap (x6 - x1)) (i64.wrap (x8 - x1)) (i64.wrap (x7 - x2)) (i64.wrap (x9 - x2)) x4 x5
def Plc (x:Int):Prop:=-400000000<=x/\x<=400000000
theorem JQ {a b:Int} (h:Plc a) (h':Plc b):Bd (i64.wrap (a - b)):=by
 unfold Plc at *
 unfold Bd
 rw [bb (by omega) (by omega)]; omega
theorem FM (s0:ByteArray) (x1 x2 x3 x4 x5 x6 x7 x8 x9:Int) (hp:Hd x4 x5/\Plc x1/\Plc x2/\Plc x6/\Plc x7/\Plc x8/\Plc x9):evR noE (BI s0 x1 x2 x3 x4 x5 x6 x7 x8 x9) (.agg [.int .i64 (bD x1 x2 x4 x5 x6 x7 x8 x9),.int .i64 (bE x1 x2 x4 x5 x6 x7 x8 x9),.int .i64 (bF x1 x2 x4 x5 x6 x7 x8 x9),.int .i64 (bG x1 x2 x4 x5 x6 x7 x8 x9)]):=by
 obtain ⟨hd,h1,h2,h6,h7,h8,h9⟩:=hp
 exact aO ⟨hd,JQ h6 h1,JQ h8 h1,JQ h7 h2,JQ h9 h2⟩ (ac (ah rfl))
theorem OL (s0:ByteArray) (x1 x2 x3 x4 x5 x6 x7 x8 x9:Int) (hp:Hd x4 x5/\Plc x1/\Plc x2/\Plc x6/\Plc x7/\Plc x8/\Plc x9):evR noE (BI s0 x1 x2 x3 x4 x5 x6 x7 x8 x9) (.agg [.int .i64 (bD x1 x2 x4 x5 x6 x7 x8 x9),.int .i64 (bE x1 x2 x4 x5 x6 x7 x8 x9),.int .i64 (bF x1 x2 x4 x5 x6 x7 x8 x9),.int .i64 (bG x1 x2 x4 x5 x6 x7 x8 x9)]):=FM s0 x1 x2 x3 x4 x5 x6 x7 x8 x9 hp
def MI:ap:=mkC [.agg tyC,.agg tp4] (fun
 | [.agg [.str s0,.int _ x1,.int _ x2,.int _ x3,.int _ x4,.int _ x5],.agg [.int _ x6,.int _ x7,.int _ x8,.int _ x9]]=>Hd x4 x5/\Plc x1/\Plc x2/\Plc x6/\Plc x7/\Plc x8/\Plc x9
 | _=>False) fun
 | [.agg [.str s0,.int _ x1,.int _ x2,.int _ x3,.int _ x4,.int _ x5],.agg [.int _ x6,.int _ x7,.int _ x8,.int _ x9]]=>.agg [.int .i64 (bD x1 x2 x4 x5 x6 x7 x8 x9),.int .i64 (bE x1 x2 x4 x5 x6 x7 x8 x9),.int .i64 (bF x1 x2 x4 x5 x6 x7 x8 x9),.int .i64 (bG x1 x2 x4 x5 x6 x7 x8 x9)]
 | _=>.any
theorem Pg:(vP MI).Ok Tryz.prog 68:=mkE s3 Tryz.func68 (by kernel_rfl) fun ds hp=>rf0 (GA ..) (OL _ _ _ _ _ _ _ _ _ _ hp)
def Cl (n0:Nat) (f0:FnV) (n2:Nat) (f2:FnV) (x4:Int) (n5:Nat) (f5:FnV) (n7:Nat) (f7:FnV) (n9:Nat) (f9:FnV) (n11:Nat) (f11:FnV) (n13:Nat) (f13:FnV) (n15:Nat) (f15:FnV) (x17 x18 x19 x20:Int):RT Empty:=.obp ((∀ (i:Nat),i < n0->(sv (hdV (f0 i))).size<=(9223372036854775807:Nat))/\(∀ (i:Nat),i < n2->(sv (hdV (f2 i))).size<=(9223372036854775807:Nat))/\(∀ (i:Nat),i < n5->(sv (hdV (f5 i))).size<=(9223372036854775807:Nat))/\∀ (i:Nat),i < n11->(sv (hdV (f11 i))).size<=(9223372036854775807:Nat)) (.obt (.obi (.br (ckE n0 (elV [Ty.str,Ty.sl tp1,Ty.sl tp1,Ty.sl [Ty.sl tp1],Ty.int i64,Ty.int i64] f0) n2 (elV [Ty.str,Ty.int i64,Ty.int i64,Ty.int i64,Ty.int i64,Ty.int i64,Ty.int i64,Ty.int i64,Ty.int i64,Ty.int i64,Ty.int i64,Ty.int i64,Ty.int i64,Ty.int i64] f2) x4 n5 (elV tyR f5) n7 (elV tyT f7) n9 (elV tyF f9) n11 (elV tyC f11) n13 (elV tp1 f13) n15 (elV [Ty.int i64,Ty.int i64,Ty.int i64] f15) == 0) (.ob (ckE n0 (elV [Ty.str,Ty.sl tp1,Ty.sl tp1,Ty.sl [Ty.sl tp1],Ty.int i64,Ty.int i64] f0) n2 (elV [Ty.str,Ty.int i64,Ty.int i64,Ty.int i64,Ty.int i64,Ty.int i64,Ty.int i64,Ty.int i64,Ty.int i64,Ty.int i64,Ty.int i64,Ty.int i64,Ty.int i64,Ty.int i64] f2) x4 n5 (elV tyR f5) n7 (elV tyT f7) n9 (elV tyF f9) n11 (elV tyC f11) n13 (elV tp1 f13) n15 (elV [Ty.int i64,Ty.int i64,Ty.int i64] f15) == 0) (.obc (.obt (.obi (.br (!!da x17) (.ob (!!da x17) (.obc (.obt (.obi (.br (!!da x19) (.ob (!!da x19) (.obc (.obt (.obi (.br (!!da x18) (.ob (!!da x18) (.obc (.obt (.obi (.obi (.obi (.obi (.obi (.obi (.obi (.obi (.obi (.obi (.br (bif bif !da x20 then true else decide (x19 < x17) then true else decide (x20 < x18)) (.ret (vi 7)) (.ret (vi (ckE n0 (elV [Ty.str,Ty.sl tp1,Ty.sl tp1,Ty.sl [Ty.sl tp1],Ty.int i64,Ty.int i64] f0) n2 (elV [Ty.str,Ty.int i64,Ty.int i64,Ty.int i64,Ty.int i64,Ty.int i64,Ty.int i64,Ty.int i64,Ty.int i64,Ty.int i64,Ty.int i64,Ty.int i64,Ty.int i64,Ty.int i64] f2) x4 n5 (elV tyR f5) n7 (elV tyT f7) n9 (elV tyF f9) n11 (elV tyC f11) n13 (elV tp1 f13) n15 (elV [Ty.int i64,Ty.int i64,Ty.int i64] f15)))))))))))))))))) (.ret (vi 7))))))) (.ret (vi 7))))))) (.ret (vi 7))))))) (.ret (vi (ckE n0 (elV [Ty.str,Ty.sl tp1,Ty.sl tp1,Ty.sl [Ty.sl tp1],Ty.int i64,Ty.int i64] f0) n2 (elV [Ty.str,Ty.int i64,Ty.int i64,Ty.int i64,Ty.int i64,Ty.int i64,Ty.int i64,Ty.int i64,Ty.int i64,Ty.int i64,Ty.int i64,Ty.int i64,Ty.int i64,Ty.int i64] f2) x4 n5 (elV tyR f5) n7 (elV tyT f7) n9 (elV tyF f9) n11 (elV tyC f11) n13 (elV tp1 f13) n15 (elV [Ty.int i64,Ty.int i64,Ty.int i64] f15)))))))
theorem Kf (n0:Nat) (f0:FnV) (n2:Nat) (f2:FnV) (x4:Int) (n5:Nat) (f5:FnV) (n7:Nat) (f7:FnV) (n9:Nat) (f9:FnV) (n11:Nat) (f11:FnV) (n13:Nat) (f13:FnV) (n15:Nat) (f15:FnV) (x17 x18 x19 x20:Int):Fit noD (aN JJ tW u0 Wm [V.agg [V.sl n0 (elV [Ty.str,Ty.sl tp1,Ty.sl tp1,Ty.sl [Ty.sl tp1],Ty.int i64,Ty.int i64] f0),V.sl n2 (elV [Ty.str,Ty.int i64,Ty.int i64,Ty.int i64,Ty.int i64,Ty.int i64,Ty.int i64,Ty.int i64,Ty.int i64,Ty.int i64,Ty.int i64,Ty.int i64,Ty.int i64,Ty.int i64] f2),vi x4,V.sl n5 (elV tyR f5),V.sl n7 (elV tyT f7),V.sl n9 (elV tyF f9),V.sl n11 (elV tyC f11),V.sl n13 (elV tp1 f13),V.sl n15 (elV [Ty.int i64,Ty.int i64,Ty.int i64] f15)],V.agg [vi x17,vi x18,vi x19,vi x20]]) (Cl n0 f0 n2 f2 x4 n5 f5 n7 f7 n9 f9 n11 f11 n13 f13 n15 f15 x17 x18 x19 x20):=⟨by kernel_rfl,by kernel_rfl⟩
def XG (n0:Nat) (f0:FnV) (n2:Nat) (f2:FnV) (x4:Int) (n5:Nat) (f5:FnV) (n7:Nat) (f7:FnV) (n9:Nat) (f9:FnV) (n11:Nat) (f11:FnV) (n13:Nat) (f13:FnV) (n15:Nat) (f15:FnV) (x17 x18 x19 x20:Int):Int:=bif ckE n0 (elV [Ty.str,Ty.sl tp1,Ty.sl tp1,Ty.sl [Ty.sl tp1],Ty.int i64,Ty.int i64] f0) n2 (elV [Ty.str,Ty.int i64,Ty.int i64,Ty.int i64,Ty.int i64,Ty.int i64,Ty.int i64,Ty.int i64,Ty.int i64,Ty.int i64,Ty.int i64,Ty.int i64,Ty.int i64,Ty.int i64] f2) x4 n5 (elV tyR f5) n7 (elV tyT f7) n9 (elV tyF f9) n11 (elV tyC f11) n13 (elV tp1 f13) n15 (elV [Ty.int i64,Ty.int i64,Ty.int i64] f15) == 0 then bif !!da x17 then bif !!da x19 then bif !!da x18 then bif bif bif !da x20 then true else decide (x19 < x17) then true else decide (x20 < x18) then 7 else ckE n0 (elV [Ty.str,Ty.sl tp1,Ty.sl tp1,Ty.sl [Ty.sl tp1],Ty.int i64,Ty.int i64] f0) n2 (elV [Ty.str,Ty.int i64,Ty.int i64,Ty.int i64,Ty.int i64,Ty.int i64,Ty.int i64,Ty.int i64,Ty.int i64,Ty.int i64,Ty.int i64,Ty.int i64,Ty.int i64,Ty.int i64] f2) x4 n5 (elV tyR f5) n7 (elV tyT f7) n9 (elV tyF f9) n11 (elV tyC f11) n13 (elV tp1 f13) n15 (elV [Ty.int i64,Ty.int i64,Ty.int i64] f15) else 7 else 7 else 7 else ckE n0 (elV [Ty.str,Ty.sl tp1,Ty.sl tp1,Ty.sl [Ty.sl tp1],Ty.int i64,Ty.int i64] f0) n2 (elV [Ty.str,Ty.int i64,Ty.int i64,Ty.int i64,Ty.int i64,Ty.int i64,Ty.int i64,Ty.int i64,Ty.int i64,Ty.int i64,Ty.int i64,Ty.int i64,Ty.int i64,Ty.int i64] f2) x4 n5 (elV tyR f5) n7 (elV tyT f7) n9 (elV tyF f9) n11 (elV tyC f11) n13 (elV tp1 f13) n15 (elV [Ty.int i64,Ty.int i64,Ty.int i64] f15)
theorem LH (a b c d:Int):cS a b c d=(aF a (-100000) 100000 && (aF c (-100000) 100000 && (aF b (-100000) 100000 && (aF d (-100000) 100000 && (decide (a<=c) && decide (b<=d)))))):=by
 have h:mQ 4 (elV tp1 (bA [vi a,vi c,vi b,vi d] 0 1))=(aF a (-100000) 100000 && (aF c (-100000) 100000 && (aF b (-100000) 100000 && aF d (-100000) 100000))):=by
  show (!(decide (0<=idx 4 fun ii=>iZ (jv0 (elV tp1 (elV tp1 (bA [vi a,vi c,vi b,vi d] 0 1)) ii)))))=_
  rw [jd]
  show (!(!(bL 4 fun ii=>!iZ (jv0 (elV tp1 (elV tp1 (bA [vi a,vi c,vi b,vi d] 0 1)) ii)))))=_
  rw [Bool.not_not,Bool.eq_iff_iff,nt]
  simp only [Bool.and_eq_true]
  have q:∀ x,(!iZ x)=aF x (-100000) 100000:=fun x=>Bool.not_not _
  constructor
  ·intro H
   exact ⟨(q a).symm.trans (H 0 (by decide)),(q c).symm.trans (H 1 (by decide)),(q b).symm.trans (H 2 (by decide)),(q d).symm.trans (H 3 (by decide))⟩
  ·rintro ⟨h0,h1,h2,h3⟩ i hi
   match i,hi with
   | 0,_=>exact (q a).trans h0
   | 1,_=>exact (q c).trans h1
   | 2,_=>exact (q b).trans h2
   | 3,_=>exact (q d).trans h3
 unfold cS
 rw [h]
 cases aF a (-100000) 100000 <;> cases aF c (-100000) 100000 <;> cases aF b (-100000) 100000 <;> cases aF d (-100000) 100000 <;> cases decide (a<=c) <;> cases decide (b<=d) <;> rfl
def fB (e a b c d:Int):Int:=bif e == 0 then bif cS a b c d then 0 else 7 else e
theorem D9 (n0:Nat) (f0:FnV) (n2:Nat) (f2:FnV) (x4:Int) (n5:Nat) (f5:FnV) (n7:Nat) (f7:FnV) (n9:Nat) (f9:FnV) (n11:Nat) (f11:FnV) (n13:Nat) (f13:FnV) (n15:Nat) (f15:FnV) (x17 x18 x19 x20:Int) (hp:aI n0 f0/\aI n2 f2/\aI n5 f5/\aI n11 f11):evR noE (Cl n0 f0 n2 f2 x4 n5 f5 n7 f7 n9 f9 n11 f11 n13 f13 n15 f15 x17 x18 x19 x20) (.int .i64 (fB (ckE n0 f0 n2 f2 x4 n5 f5 n7 f7 n9 f9 n11 f11 n13 f13 n15 f15) x17 x18 x19 x20)):=by
 unfold fB
 rw [LH]
 refine aO hp (ac (ak (aw (fun h=>aH h (ao (ac (ak ?_)))) (fun h=>ah (by rw [show (ckE n0 f0 n2 f2 x4 n5 f5 n7 f7 n9 f9 n11 f11 n13 f13 n15 f15 == 0)=false from h]; rfl)))))
 rw [show (ckE n0 f0 n2 f2 x4 n5 f5 n7 f7 n9 f9 n11 f11 n13 f13 n15 f15 == 0)=true from h]
 have he:ckE n0 f0 n2 f2 x4 n5 f5 n7 f7 n9 f9 n11 f11 n13 f13 n15 f15=0:=eq_of_beq h
 refine aw (fun h1=>aH h1 (ao (ac (ak ?_)))) (fun h1=>ah (by rw [show aF x17 (-100000) 100000=false from EA h1]; rfl))
 rw [show aF x17 (-100000) 100000=true from oR h1]
 refine aw (fun h2=>aH h2 (ao (ac (ak ?_)))) (fun h2=>ah (by rw [show aF x19 (-100000) 100000=false from EA h2]; rfl))
 rw [show aF x19 (-100000) 100000=true from oR h2]
 refine aw (fun h3=>aH h3 (ao (ac (ak ?_)))) (fun h3=>ah (by rw [show aF x18 (-100000) 100000=false from EA h3]; rfl))
 rw [show aF x18 (-100000) 100000=true from oR h3]
 refine ak (ak (ak (ak (ak (ak (ak (ak (ak ?_))))))))
 have e1:decide (x17<=x19)=!decide (x19 < x17):=by rw [Bool.eq_iff_iff]; simp
 have e2:decide (x18<=x20)=!decide (x20 < x18):=by rw [Bool.eq_iff_iff]; simp
 have e3:aF x20 (-100000) 100000=da x20:=rfl
 rw [e1,e2,e3]
 refine aw (fun h4=>ah ?_) (fun h4=>ah ?_)
 ·cases h5:da x20 <;> cases h6:decide (x19 < x17) <;> cases h7:decide (x20 < x18) <;> first | rfl | (rw [h5,h6,h7] at h4; cases h4)
 ·refine congrArg (fun e=>toA (V.int .i64 e)) (he.trans ?_)
  cases h5:da x20 <;> cases h6:decide (x19 < x17) <;> cases h7:decide (x20 < x18) <;> first | rfl | (rw [h5,h6,h7] at h4; cases h4)
theorem R7 (n0:Nat) (f0:FnV) (n2:Nat) (f2:FnV) (x4:Int) (n5:Nat) (f5:FnV) (n7:Nat) (f7:FnV) (n9:Nat) (f9:FnV) (n11:Nat) (f11:FnV) (n13:Nat) (f13:FnV) (n15:Nat) (f15:FnV) (x17 x18 x19 x20:Int) (hp:aI n0 (elV [.str,.sl tp1,.sl tp1,.sl [.sl tp1],.int .i64,.int .i64] f0)/\aI n2 (elV [.str,.int .i64,.int .i64,.int .i64,.int .i64,.int .i64,.int .i64,.int .i64,.int .i64,.int .i64,.int .i64,.int .i64,.int .i64,.int .i64] f2)/\aI n5 (elV tyR f5)/\aI n11 (elV tyC f11)):evR noE (Cl n0 f0 n2 f2 x4 n5 f5 n7 f7 n9 f9 n11 f11 n13 f13 n15 f15 x17 x18 x19 x20) (.int .i64 (fB (ckE n0 (elV [.str,.sl tp1,.sl tp1,.sl [.sl tp1],.int .i64,.int .i64] f0) n2 (elV [.str,.int .i64,.int .i64,.int .i64,.int .i64,.int .i64,.int .i64,.int .i64,.int .i64,.int .i64,.int .i64,.int .i64,.int .i64,.int .i64] f2) x4 n5 (elV tyR f5) n7 (elV tyT f7) n9 (elV tyF f9) n11 (elV tyC f11) n13 (elV tp1 f13) n15 (elV [.int .i64,.int .i64,.int .i64] f15)) x17 x18 x19 x20)):=D9 n0 f0 n2 f2 x4 n5 f5 n7 f7 n9 f9 n11 f11 n13 f13 n15 f15 x17 x18 x19 x20 hp
def Mh:ap:=mkC [.agg [.sl [.str,.sl tp1,.sl tp1,.sl [.sl tp1],.int .i64,.int .i64],.sl [.str,.int .i64,.int .i64,.int .i64,.int .i64,.int .i64,.int .i64,.int .i64,.int .i64,.int .i64,.int .i64,.int .i64,.int .i64,.int .i64],.int .i64,.sl tyR,.sl tyT,.sl tyF,.sl tyC,.sl tp1,.sl [.int .i64,.int .i64,.int .i64]],.agg tp4] (fun
 | [.agg [.sl n0 f0,.sl n2 f2,.int _ x4,.sl n5 f5,.sl n7 f7,.sl n9 f9,.sl n11 f11,.sl n13 f13,.sl n15 f15],.agg [.int _ x17,.int _ x18,.int _ x19,.int _ x20]]=>aI n0 f0/\aI n2 f2/\aI n5 f5/\aI n11 f11
 | _=>False) fun
 | [.agg [.sl n0 f0,.sl n2 f2,.int _ x4,.sl n5 f5,.sl n7 f7,.sl n9 f9,.sl n11 f11,.sl n13 f13,.sl n15 f15],.agg [.int _ x17,.int _ x18,.int _ x19,.int _ x20]]=>.int .i64 (fB (ckE n0 f0 n2 f2 x4 n5 f5 n7 f7 n9 f9 n11 f11 n13 f13 n15 f15) x17 x18 x19 x20)
 | _=>.any
theorem ybb:(vP Mh).Ok Tryz.prog 51:=mkE s3 Tryz.func51 (by kernel_rfl) fun ds hp=>rf0 (Kf ..) (R7 _ _ _ _ _ _ _ _ _ _ _ _ _ _ _ _ _ _ _ _ _ hp)
end
theorem OQ {x k:Int} {z:Int × Int × Int} (h:(bif x != 0 then (k,(0:Int),x) else z).2.2=0):x=0/\z.2.2=0:=by
 cases hb:x != 0 with
 | true=>rw [hb] at h; rw [show x=0 from h] at hb; cases hb
 | false=>rw [hb] at h; exact ⟨qN hb,h⟩
structure UL (x:List V):Prop where
 px:-100000<=jv1 x/\jv1 x<=100000
 py:-100000<=jv2 x/\jv2 x<=100000
 ph:1<=jv3 x/\jv3 x<=200
 hd:Hd (jv4 x) (jv5 x)
theorem Cp {v a b:Int} (h:cq v a b=true):a<=v/\v<=b:=by
 unfold cq at h
 cases h1:decide (a<=v) with
 | false=>rw [h1] at h; cases h
 | true=>rw [h1] at h; exact ⟨of_decide_eq_true h1,of_decide_eq_true h⟩
theorem bor {a b:Bool} (h:(bif a then true else b)=false):a=false/\b=false:=by cases a <;> cases b <;> first | exact ⟨rfl,rfl⟩ | cases h
theorem YT {n:Nat} {f:Nat->List V} {i:Nat} (h:cC n (elV tyC f) i=0):UL (f i):=by
 unfold cC F73 at h
 obtain ⟨_,h⟩:=j9 h (by decide)
 obtain ⟨_,h⟩:=j9 h (by decide)
 unfold JZ at h
 obtain ⟨h1,h⟩:=j9 h (by decide)
 obtain ⟨h2,_⟩:=j9 h (by decide)
 obtain ⟨h1,hdy⟩:=bor h1
 obtain ⟨h1,hdx⟩:=bor h1
 obtain ⟨h1,hh⟩:=bor h1
 have h1:=notf h1
 unfold F51 at h1
 have hx:cq (jv1 (f i)) (-100000) 100000=true:=db h1 0 (by decide)
 have hy:cq (jv2 (f i)) (-100000) 100000=true:=db h1 1 (by decide)
 refine ⟨Cp hx,Cp hy,Cp (notf hh),Cp (notf hdx),Cp (notf hdy),?_⟩
 have h2:(bif jv4 ((f i)) == 0 then jv5 ((f i)) == 0 else false)=false:=h2
 cases hb:(jv4 ((f i)) == 0) with
 | false=>exact .inl fun h=>by rw [h] at hb; cases hb
 | true =>
   rw [hb] at h2
   exact .inr fun h=>by have h2:(jv5 ((f i)) == 0)=false:=h2; rw [h] at h2; cases h2
structure TH (n0:Nat) (f0:FnV) (n2:Nat) (f2:FnV) (x4:Int) (n5:Nat) (f5:FnV) (n7:Nat) (f7:FnV) (n9:Nat) (f9:FnV) (n11:Nat) (f11:FnV) (n13:Nat) (f13:FnV) (n15:Nat) (f15:FnV):Prop where
 v2:FJ n0 f0 n2 f2
 v3:Nw n5 (elV tyR f5) n7 (elV tyT f7) n9 (elV tyF f9) n11 (elV tyC f11)
 sf:ck3 n0 f0 x4=0
 ll:n13=n11
 lu:n15=n11
 tb:∀ i,i < n0->nM (f0 i)
 lm:∀ i,i < n2->VW n0 (f2 i)
 cl:∀ i,i < n11->UL (f11 i)
 co:∀ i,i < n11->nQ f0 n2 f2 f13 f15 i=0
theorem Lx {n0:Nat} {f0:Nat->List V} {n2:Nat} {f2:Nat->List V} {x4:Int} {n5:Nat} {f5:Nat->List V} {n7:Nat} {f7:Nat->List V} {n9:Nat} {f9:Nat->List V} {n11:Nat} {f11:Nat->List V} {n13:Nat} {f13:Nat->List V} {n15:Nat} {f15:Nat->List V} (h:ckE n0 f0 n2 f2 x4 n5 f5 n7 f7 n9 f9 n11 f11 n13 f13 n15 f15=0):TH n0 f0 n2 f2 x4 n5 f5 n7 f7 n9 f9 n11 f11 n13 f13 n15 f15:=by
 have h:(ck4 n0 f0 n2 f2 x4 n5 f5 n7 f7 n9 f9 n11 f11 n13 f13 n15 f15).2.2=0:=h
 unfold ck4 at h
 obtain ⟨h1,h⟩:=OQ h
 obtain ⟨h2,h⟩:=OQ h
 obtain ⟨h3,h⟩:=OQ h
 have h1:yae n0 f0 n2 f2=0:=h1
 have V2:=wz h1
 have V3:=Gb h2
 cases hl:vt n11 n13 n15 with
 | true=>rw [hl] at h; cases h
 | false =>
   rw [hl] at h
   obtain ⟨e1,e2⟩:=pI hl
   exact ⟨V2,V3,h3,e1,e2,fun i hi=>Pd (V2.tb i hi),fun i hi=>RO V2.l0 (V2.lm i hi),fun i hi=>YT (n:=n11) (V3.cl i hi),(gA h).1⟩
noncomputable section
def zI:aY:=(70,.con MY)::(68,.con MI)::(51,.con Mh)::tW
theorem yap:aQ Tryz.prog eqs its zI:=.con QS (.con Pg (.con ybb (s3)))
def FC (n0:Nat) (f0:FnV) (n2:Nat) (f2:FnV) (x4:Int) (n5:Nat) (f5:FnV) (n7:Nat) (f7:FnV) (n9:Nat) (f9:FnV) (n11:Nat) (f11:FnV) (n13:Nat) (f13:FnV) (n15:Nat) (f15:FnV) (x17 x18 x19 x20 x21:Int):RT Empty:=.obp ((∀ (i:Nat),i < n0->(sv (hdV (f0 i))).size<=(9223372036854775807:Nat))/\(∀ (i:Nat),i < n2->(sv (hdV (f2 i))).size<=(9223372036854775807:Nat))/\(∀ (i:Nat),i < n5->(sv (hdV (f5 i))).size<=(9223372036854775807:Nat))/\∀ (i:Nat),i < n11->(sv (hdV (f11 i))).size<=(9223372036854775807:Nat)) (.obt (.br (ckE n0 (elV aS f0) n2 (elV aT f2) x4 n5 (elV tyR f5) n7 (elV tyT f7) n9 (elV tyF f9) n11 (elV tyC f11) n13 (elV tp1 f13) n15 (elV tyU f15) != 0) (.ret (V.tup [V.agg [vi 0,vi 0,vi 0,vi 0],vi (ckE n0 (elV aS f0) n2 (elV aT f2) x4 n5 (elV tyR f5) n7 (elV tyT f7) n9 (elV tyF f9) n11 (elV tyC f11) n13 (elV tp1 f13) n15 (elV tyU f15))])) (.asm (true=true->n11<=9223372036854775807) (.obc (.obt (.br (!cO x17 0 (i64.wrap ((↑n11:Int) - 1))) (.ret (V.tup [V.agg [vi 0,vi 0,vi 0,vi 0],vi 4])) (.obc (.obt (.br (!cS x18 x19 x20 x21) (.ret (V.tup [V.agg [vi 0,vi 0,vi 0,vi 0],vi 7])) (.ob (decide (0<=x17/\x17 < (↑n11:Int))) (.obp ((((-1000:Int)<=jv4 (f11 x17.toNat)/\jv4 (f11 x17.toNat)<=(1000:Int))/\((-1000:Int)<=jv5 (f11 x17.toNat)/\jv5 (f11 x17.toNat)<=(1000:Int))/\(jv4 (f11 x17.toNat) ≠ (0:Int) ∨ jv5 (f11 x17.toNat) ≠ (0:Int)))/\((-400000000:Int)<=jv1 (f11 x17.toNat)/\jv1 (f11 x17.toNat)<=(400000000:Int))/\((-400000000:Int)<=jv2 (f11 x17.toNat)/\jv2 (f11 x17.toNat)<=(400000000:Int))/\((-400000000:Int)<=x18/\x18<=(400000000:Int))/\((-400000000:Int)<=x19/\x19<=(400000000:Int))/\((-400000000:Int)<=x20/\x20<=(400000000:Int))/\(-400000000:Int)<=x21/\x21<=(400000000:Int)) (.obt (.ret (V.tup [V.agg [vi (bD (jv1 (f11 x17.toNat)) (jv2 (f11 x17.toNat)) (jv4 (f11 x17.toNat)) (jv5 (f11 x17.toNat)) x18 x19 x20 x21),vi (bE (jv1 (f11 x17.toNat)) (jv2 (f11 x17.toNat)) (jv4 (f11 x17.toNat)) (jv5 (f11 x17.toNat)) x18 x19 x20 x21),vi (bF (jv1 (f11 x17.toNat)) (jv2 (f11 x17.toNat)) (jv4 (f11 x17.toNat)) (jv5 (f11 x17.toNat)) x18 x19 x20 x21),vi (bG (jv1 (f11 x17.toNat)) (jv2 (f11 x17.toNat)) (jv4 (f11 x17.toNat)) (jv5 (f11 x17.toNat)) x18 x19 x20 x21)],vi 0]))))))))))))))
theorem Kj (n0:Nat) (f0:FnV) (n2:Nat) (f2:FnV) (x4:Int) (n5:Nat) (f5:FnV) (n7:Nat) (f7:FnV) (n9:Nat) (f9:FnV) (n11:Nat) (f11:FnV) (n13:Nat) (f13:FnV) (n15:Nat) (f15:FnV) (x17 x18 x19 x20 x21:Int):Fit noD (aN JJ zI u0 WV [V.agg [V.sl n0 (elV aS f0),V.sl n2 (elV aT f2),vi x4,V.sl n5 (elV tyR f5),V.sl n7 (elV tyT f7),V.sl n9 (elV tyF f9),V.sl n11 (elV tyC f11),V.sl n13 (elV tp1 f13),V.sl n15 (elV tyU f15)],vi x17,V.agg [vi x18,vi x19,vi x20,vi x21]]) (FC n0 f0 n2 f2 x4 n5 f5 n7 f7 n9 f9 n11 f11 n13 f13 n15 f15 x17 x18 x19 x20 x21):=⟨by kernel_rfl,by kernel_rfl⟩
def Xr (n0:Nat) (f0:FnV) (n2:Nat) (f2:FnV) (x4:Int) (n5:Nat) (f5:FnV) (n7:Nat) (f7:FnV) (n9:Nat) (f9:FnV) (n11:Nat) (f11:FnV) (n13:Nat) (f13:FnV) (n15:Nat) (f15:FnV) (x17 x18 x19 x20 x21:Int):Int:=bif ckE n0 (elV aS f0) n2 (elV aT f2) x4 n5 (elV tyR f5) n7 (elV tyT f7) n9 (elV tyF f9) n11 (elV tyC f11) n13 (elV tp1 f13) n15 (elV tyU f15) != 0 then 0 else bif !cO x17 0 (i64.wrap ((↑n11:Int) - 1)) then 0 else bif !cS x18 x19 x20 x21 then 0 else bD (jv1 (f11 x17.toNat)) (jv2 (f11 x17.toNat)) (jv4 (f11 x17.toNat)) (jv5 (f11 x17.toNat)) x18 x19 x20 x21
def Xs (n0:Nat) (f0:FnV) (n2:Nat) (f2:FnV) (x4:Int) (n5:Nat) (f5:FnV) (n7:Nat) (f7:FnV) (n9:Nat) (f9:FnV) (n11:Nat) (f11:FnV) (n13:Nat) (f13:FnV) (n15:Nat) (f15:FnV) (x17 x18 x19 x20 x21:Int):Int:=bif ckE n0 (elV aS f0) n2 (elV aT f2) x4 n5 (elV tyR f5) n7 (elV tyT f7) n9 (elV tyF f9) n11 (elV tyC f11) n13 (elV tp1 f13) n15 (elV tyU f15) != 0 then 0 else bif !cO x17 0 (i64.wrap ((↑n11:Int) - 1)) then 0 else bif !cS x18 x19 x20 x21 then 0 else bE (jv1 (f11 x17.toNat)) (jv2 (f11 x17.toNat)) (jv4 (f11 x17.toNat)) (jv5 (f11 x17.toNat)) x18 x19 x20 x21
def Xv (n0:Nat) (f0:FnV) (n2:Nat) (f2:FnV) (x4:Int) (n5:Nat) (f5:FnV) (n7:Nat) (f7:FnV) (n9:Nat) (f9:FnV) (n11:Nat) (f11:FnV) (n13:Nat) (f13:FnV) (n15:Nat) (f15:FnV) (x17 x18 x19 x20 x21:Int):Int:=bif ckE n0 (elV aS f0) n2 (elV aT f2) x4 n5 (elV tyR f5) n7 (elV tyT f7) n9 (elV tyF f9) n11 (elV tyC f11) n13 (elV tp1 f13) n15 (elV tyU f15) != 0 then 0 else bif !cO x17 0 (i64.wrap ((↑n11:Int) - 1)) then 0 else bif !cS x18 x19 x20 x21 then 0 else bF (jv1 (f11 x17.toNat)) (jv2 (f11 x17.toNat)) (jv4 (f11 x17.toNat)) (jv5 (f11 x17.toNat)) x18 x19 x20 x21
def Xo (n0:Nat) (f0:FnV) (n2:Nat) (f2:FnV) (x4:Int) (n5:Nat) (f5:FnV) (n7:Nat) (f7:FnV) (n9:Nat) (f9:FnV) (n11:Nat) (f11:FnV) (n13:Nat) (f13:FnV) (n15:Nat) (f15:FnV) (x17 x18 x19 x20 x21:Int):Int:=bif ckE n0 (elV aS f0) n2 (elV aT f2) x4 n5 (elV tyR f5) n7 (elV tyT f7) n9 (elV tyF f9) n11 (elV tyC f11) n13 (elV tp1 f13) n15 (elV tyU f15) != 0 then 0 else bif !cO x17 0 (i64.wrap ((↑n11:Int) - 1)) then 0 else bif !cS x18 x19 x20 x21 then 0 else bG (jv1 (f11 x17.toNat)) (jv2 (f11 x17.toNat)) (jv4 (f11 x17.toNat)) (jv5 (f11 x17.toNat)) x18 x19 x20 x21
def Xt (n0:Nat) (f0:FnV) (n2:Nat) (f2:FnV) (x4:Int) (n5:Nat) (f5:FnV) (n7:Nat) (f7:FnV) (n9:Nat) (f9:FnV) (n11:Nat) (f11:FnV) (n13:Nat) (f13:FnV) (n15:Nat) (f15:FnV) (x17 x18 x19 x20 x21:Int):Int:=bif ckE n0 (elV aS f0) n2 (elV aT f2) x4 n5 (elV tyR f5) n7 (elV tyT f7) n9 (elV tyF f9) n11 (elV tyC f11) n13 (elV tp1 f13) n15 (elV tyU f15) != 0 then ckE n0 (elV aS f0) n2 (elV aT f2) x4 n5 (elV tyR f5) n7 (elV tyT f7) n9 (elV tyF f9) n11 (elV tyC f11) n13 (elV tp1 f13) n15 (elV tyU f15) else bif !cO x17 0 (i64.wrap ((↑n11:Int) - 1)) then 4 else bif !cS x18 x19 x20 x21 then 7 else 0
def fmE (e:Int) (n:Nat) (x a b c d:Int):Int:=bif e == 0 then bif aF x 0 (i64.wrap ((n:Int) - 1)) then bif cS a b c d then 0 else 7 else 4 else e
def fmV (e z:Int):Int:=bif e == 0 then z else 0
theorem Uk {v:Int} {n:Nat} (h:aF v 0 (i64.wrap ((n:Int) - 1))=true) (hn:n<=9223372036854775807):0<=v/\v < (n:Int):=by
 have:=ini h
 rw [bb (by omega) (by omega)] at this
 omega
theorem Y7 {a b c d:Int} (h:cS a b c d=true):Plc a/\Plc b/\Plc c/\Plc d:=by
 rw [LH] at h
 obtain ⟨h1,h⟩:=vY h
 obtain ⟨h2,h⟩:=vY h
 obtain ⟨h3,h⟩:=vY h
 obtain ⟨h4,_⟩:=vY h
 have h1:=ini (x:=a) h1
 have h2:=ini (x:=c) h2
 have h3:=ini (x:=b) h3
 have h4:=ini (x:=d) h4
 unfold Plc
 omega
theorem PR {dx dy:Int} (h:Hd dx dy):Rts (i64.wrap (i64.wrap (dx * dx)+i64.wrap (dy * dy))):=rts (hdS h)
theorem DV {e z0 z1 z2 z3:Int} (h:(e == 0)=false):toA (V.tup [V.agg [V.int .i64 0,V.int .i64 0,V.int .i64 0,V.int .i64 0],V.int .i64 e])=toA (V.tup [V.agg [V.int .i64 (bif e == 0 then z0 else 0),V.int .i64 (bif e == 0 then z1 else 0),V.int .i64 (bif e == 0 then z2 else 0),V.int .i64 (bif e == 0 then z3 else 0)],V.int .i64 e]):=by
 rw [h]; rfl
theorem D6 (n0:Nat) (f0:FnV) (n2:Nat) (f2:FnV) (x4:Int) (n5:Nat) (f5:FnV) (n7:Nat) (f7:FnV) (n9:Nat) (f9:FnV) (n11:Nat) (f11:FnV) (n13:Nat) (f13:FnV) (n15:Nat) (f15:FnV) (x17 x18 x19 x20 x21:Int) (hp:aI n0 f0/\aI n2 f2/\aI n5 f5/\aI n11 f11):evR noE (FC n0 f0 n2 f2 x4 n5 f5 n7 f7 n9 f9 n11 f11 n13 f13 n15 f15 x17 x18 x19 x20 x21) (.tup [.agg [.int .i64 (fmV (fmE (ckE n0 f0 n2 f2 x4 n5 f5 n7 f7 n9 f9 n11 f11 n13 f13 n15 f15) n11 x17 x18 x19 x20 x21) (bD (jv1 ((f11 x17.toNat))) (jv2 ((f11 x17.toNat))) (jv4 ((f11 x17.toNat))) (jv5 ((f11 x17.toNat))) x18 x19 x20 x21)),.int .i64 (fmV (fmE (ckE n0 f0 n2 f2 x4 n5 f5 n7 f7 n9 f9 n11 f11 n13 f13 n15 f15) n11 x17 x18 x19 x20 x21) (bE (jv1 ((f11 x17.toNat))) (jv2 ((f11 x17.toNat))) (jv4 ((f11 x17.toNat))) (jv5 ((f11 x17.toNat))) x18 x19 x20 x21)),.int .i64 (fmV (fmE (ckE n0 f0 n2 f2 x4 n5 f5 n7 f7 n9 f9 n11 f11 n13 f13 n15 f15) n11 x17 x18 x19 x20 x21) (bF (jv1 ((f11 x17.toNat))) (jv2 ((f11 x17.toNat))) (jv4 ((f11 x17.toNat))) (jv5 ((f11 x17.toNat))) x18 x19 x20 x21)),.int .i64 (fmV (fmE (ckE n0 f0 n2 f2 x4 n5 f5 n7 f7 n9 f9 n11 f11 n13 f13 n15 f15) n11 x17 x18 x19 x20 x21) (bG (jv1 ((f11 x17.toNat))) (jv2 ((f11 x17.toNat))) (jv4 ((f11 x17.toNat))) (jv5 ((f11 x17.toNat))) x18 x19 x20 x21))],.int .i64 (fmE (ckE n0 f0 n2 f2 x4 n5 f5 n7 f7 n9 f9 n11 f11 n13 f13 n15 f15) n11 x17 x18 x19 x20 x21)]):=by
 refine aO hp (ac (aw (fun h=>ah ?_) (fun h=>?_)))
 ·have h:(ckE n0 f0 n2 f2 x4 n5 f5 n7 f7 n9 f9 n11 f11 n13 f13 n15 f15 != 0)=true:=h
  have h':(ckE n0 f0 n2 f2 x4 n5 f5 n7 f7 n9 f9 n11 f11 n13 f13 n15 f15 == 0)=false:=by simpa using h
  unfold fmV fmE
  rw [h']; exact DV h'
 have h:ckE n0 f0 n2 f2 x4 n5 f5 n7 f7 n9 f9 n11 f11 n13 f13 n15 f15=0:=qN h
 have G:=Lx h
 refine yab fun hn=>ao (ac (aw (fun h1=>ah ?_) (fun h1=>ao (ac (aw (fun h2=>ah ?_) (fun h2=>?_))))))
 ·unfold fmV fmE
  rw [h,show aF x17 0 (i64.wrap ((n11:Int) - 1))=false from wN h1]; rfl
 ·unfold fmV fmE
  rw [h,show aF x17 0 (i64.wrap ((n11:Int) - 1))=true from notf h1,wN h2]; rfl
 ·have hx:=Uk (notf h1) hn
  have C:=G.cl x17.toNat (by omega)
  have P:=Y7 (notf h2)
  refine aH (dqt hx) (aO ⟨C.hd,?_,?_,P⟩ (ac (ah ?_)))
  ·have:=C.px; exact ⟨by omega,by omega⟩
  ·have:=C.py; exact ⟨by omega,by omega⟩
  ·unfold fmV fmE
   rw [h,show aF x17 0 (i64.wrap ((n11:Int) - 1))=true from notf h1,notf h2]; rfl
theorem Qw (n0:Nat) (f0:FnV) (n2:Nat) (f2:FnV) (x4:Int) (n5:Nat) (f5:FnV) (n7:Nat) (f7:FnV) (n9:Nat) (f9:FnV) (n11:Nat) (f11:FnV) (n13:Nat) (f13:FnV) (n15:Nat) (f15:FnV) (x17 x18 x19 x20 x21:Int) (hp:aI n0 (elV aS f0)/\aI n2 (elV aT f2)/\aI n5 (elV tyR f5)/\aI n11 (elV tyC f11)):evR noE (FC n0 f0 n2 f2 x4 n5 f5 n7 f7 n9 f9 n11 f11 n13 f13 n15 f15 x17 x18 x19 x20 x21) (.tup [.agg [.int .i64 (fmV (fmE (ckE n0 (elV aS f0) n2 (elV aT f2) x4 n5 (elV tyR f5) n7 (elV tyT f7) n9 (elV tyF f9) n11 (elV tyC f11) n13 (elV tp1 f13) n15 (elV tyU f15)) n11 x17 x18 x19 x20 x21) (bD (jv1 (((elV tyC f11) x17.toNat))) (jv2 (((elV tyC f11) x17.toNat))) (jv4 (((elV tyC f11) x17.toNat))) (jv5 (((elV tyC f11) x17.toNat))) x18 x19 x20 x21)),.int .i64 (fmV (fmE (ckE n0 (elV aS f0) n2 (elV aT f2) x4 n5 (elV tyR f5) n7 (elV tyT f7) n9 (elV tyF f9) n11 (elV tyC f11) n13 (elV tp1 f13) n15 (elV tyU f15)) n11 x17 x18 x19 x20 x21) (bE (jv1 (((elV tyC f11) x17.toNat))) (jv2 (((elV tyC f11) x17.toNat))) (jv4 (((elV tyC f11) x17.toNat))) (jv5 (((elV tyC f11) x17.toNat))) x18 x19 x20 x21)),.int .i64 (fmV (fmE (ckE n0 (elV aS f0) n2 (elV aT f2) x4 n5 (elV tyR f5) n7 (elV tyT f7) n9 (elV tyF f9) n11 (elV tyC f11) n13 (elV tp1 f13) n15 (elV tyU f15)) n11 x17 x18 x19 x20 x21) (bF (jv1 (((elV tyC f11) x17.toNat))) (jv2 (((elV tyC f11) x17.toNat))) (jv4 (((elV tyC f11) x17.toNat))) (jv5 (((elV tyC f11) x17.toNat))) x18 x19 x20 x21)),.int .i64 (fmV (fmE (ckE n0 (elV aS f0) n2 (elV aT f2) x4 n5 (elV tyR f5) n7 (elV tyT f7) n9 (elV tyF f9) n11 (elV tyC f11) n13 (elV tp1 f13) n15 (elV tyU f15)) n11 x17 x18 x19 x20 x21) (bG (jv1 (((elV tyC f11) x17.toNat))) (jv2 (((elV tyC f11) x17.toNat))) (jv4 (((elV tyC f11) x17.toNat))) (jv5 (((elV tyC f11) x17.toNat))) x18 x19 x20 x21))],.int .i64 (fmE (ckE n0 (elV aS f0) n2 (elV aT f2) x4 n5 (elV tyR f5) n7 (elV tyT f7) n9 (elV tyF f9) n11 (elV tyC f11) n13 (elV tp1 f13) n15 (elV tyU f15)) n11 x17 x18 x19 x20 x21)]):=D6 n0 f0 n2 f2 x4 n5 f5 n7 f7 n9 f9 n11 f11 n13 f13 n15 f15 x17 x18 x19 x20 x21 hp
def N3:ap:=mkC [.agg [.sl [.str,.sl tp1,.sl tp1,.sl [.sl tp1],.int .i64,.int .i64],.sl [.str,.int .i64,.int .i64,.int .i64,.int .i64,.int .i64,.int .i64,.int .i64,.int .i64,.int .i64,.int .i64,.int .i64,.int .i64,.int .i64],.int .i64,.sl tyR,.sl tyT,.sl tyF,.sl tyC,.sl tp1,.sl [.int .i64,.int .i64,.int .i64]],.int .i64,.agg tp4] (fun
 | [.agg [.sl n0 f0,.sl n2 f2,.int _ x4,.sl n5 f5,.sl n7 f7,.sl n9 f9,.sl n11 f11,.sl n13 f13,.sl n15 f15],.int _ x17,.agg [.int _ x18,.int _ x19,.int _ x20,.int _ x21]]=>aI n0 f0/\aI n2 f2/\aI n5 f5/\aI n11 f11
 | _=>False) fun
 | [.agg [.sl n0 f0,.sl n2 f2,.int _ x4,.sl n5 f5,.sl n7 f7,.sl n9 f9,.sl n11 f11,.sl n13 f13,.sl n15 f15],.int _ x17,.agg [.int _ x18,.int _ x19,.int _ x20,.int _ x21]]=>.tup [.agg [.int .i64 (fmV (fmE (ckE n0 f0 n2 f2 x4 n5 f5 n7 f7 n9 f9 n11 f11 n13 f13 n15 f15) n11 x17 x18 x19 x20 x21) (bD (jv1 ((f11 x17.toNat))) (jv2 ((f11 x17.toNat))) (jv4 ((f11 x17.toNat))) (jv5 ((f11 x17.toNat))) x18 x19 x20 x21)),.int .i64 (fmV (fmE (ckE n0 f0 n2 f2 x4 n5 f5 n7 f7 n9 f9 n11 f11 n13 f13 n15 f15) n11 x17 x18 x19 x20 x21) (bE (jv1 ((f11 x17.toNat))) (jv2 ((f11 x17.toNat))) (jv4 ((f11 x17.toNat))) (jv5 ((f11 x17.toNat))) x18 x19 x20 x21)),.int .i64 (fmV (fmE (ckE n0 f0 n2 f2 x4 n5 f5 n7 f7 n9 f9 n11 f11 n13 f13 n15 f15) n11 x17 x18 x19 x20 x21) (bF (jv1 ((f11 x17.toNat))) (jv2 ((f11 x17.toNat))) (jv4 ((f11 x17.toNat))) (jv5 ((f11 x17.toNat))) x18 x19 x20 x21)),.int .i64 (fmV (fmE (ckE n0 f0 n2 f2 x4 n5 f5 n7 f7 n9 f9 n11 f11 n13 f13 n15 f15) n11 x17 x18 x19 x20 x21) (bG (jv1 ((f11 x17.toNat))) (jv2 ((f11 x17.toNat))) (jv4 ((f11 x17.toNat))) (jv5 ((f11 x17.toNat))) x18 x19 x20 x21))],.int .i64 (fmE (ckE n0 f0 n2 f2 x4 n5 f5 n7 f7 n9 f9 n11 f11 n13 f13 n15 f15) n11 x17 x18 x19 x20 x21)]
 | _=>.any
theorem SU:(vP N3).Ok Tryz.prog 24:=mkE yap Tryz.func24 (by kernel_rfl) fun ds hp=>rf0 (Kj ..) (Qw _ _ _ _ _ _ _ _ _ _ _ _ _ _ _ _ _ _ _ _ _ _ hp)
def DO (n0:Nat) (f0:FnV) (n2:Nat) (f2:FnV) (x4:Int) (n5:Nat) (f5:FnV) (n7:Nat) (f7:FnV) (n9:Nat) (f9:FnV) (n11:Nat) (f11:FnV) (n13:Nat) (f13:FnV) (n15:Nat) (f15:FnV) (x17 x18 x19 x20 x21:Int):RT Empty:=.obp ((∀ (i:Nat),i < n0->(sv (hdV (f0 i))).size<=(9223372036854775807:Nat))/\(∀ (i:Nat),i < n2->(sv (hdV (f2 i))).size<=(9223372036854775807:Nat))/\(∀ (i:Nat),i < n5->(sv (hdV (f5 i))).size<=(9223372036854775807:Nat))/\∀ (i:Nat),i < n11->(sv (hdV (f11 i))).size<=(9223372036854775807:Nat)) (.obt (.obi (.obi (.obi (.asm ((ckE n0 (elV aS f0) n2 (elV aT f2) x4 n5 (elV tyR f5) n7 (elV tyT f7) n9 (elV tyF f9) n11 (elV tyC f11) n13 (elV tp1 f13) n15 (elV tyU f15) == 0)=true->n11<=9223372036854775807) (.obi (.br (ckE n0 (elV aS f0) n2 (elV aT f2) x4 n5 (elV tyR f5) n7 (elV tyT f7) n9 (elV tyF f9) n11 (elV tyC f11) n13 (elV tp1 f13) n15 (elV tyU f15) == 0) (.ob (ckE n0 (elV aS f0) n2 (elV aT f2) x4 n5 (elV tyR f5) n7 (elV tyT f7) n9 (elV tyF f9) n11 (elV tyC f11) n13 (elV tp1 f13) n15 (elV tyU f15) == 0) (.ob (ckE n0 (elV aS f0) n2 (elV aT f2) x4 n5 (elV tyR f5) n7 (elV tyT f7) n9 (elV tyF f9) n11 (elV tyC f11) n13 (elV tp1 f13) n15 (elV tyU f15) == 0) (.obc (.obt (.br (!aF x17 0 (i64.wrap ((↑n11:Int) - 1))) (.brf (.brt (.ret (V.tup [V.agg [vi 0,vi 0,vi 0,vi 0],vi 4])))) (.br (ckE n0 (elV aS f0) n2 (elV aT f2) x4 n5 (elV tyR f5) n7 (elV tyT f7) n9 (elV tyF f9) n11 (elV tyC f11) n13 (elV tp1 f13) n15 (elV tyU f15) == 0) (.obp ((∀ (i:Nat),i < n0->(sv (hdV (f0 i))).size<=(9223372036854775807:Nat))/\(∀ (i:Nat),i < n2->(sv (hdV (f2 i))).size<=(9223372036854775807:Nat))/\(∀ (i:Nat),i < n5->(sv (hdV (f5 i))).size<=(9223372036854775807:Nat))/\∀ (i:Nat),i < n11->(sv (hdV (f11 i))).size<=(9223372036854775807:Nat)) (.obt (.br (fB (ckE n0 (elV aS f0) n2 (elV aT f2) x4 n5 (elV tyR f5) n7 (elV tyT f7) n9 (elV tyF f9) n11 (elV tyC f11) n13 (elV tp1 f13) n15 (elV tyU f15)) x18 x19 x20 x21 != 0) (.ret (V.tup [V.agg [vi 0,vi 0,vi 0,vi 0],vi (fB (ckE n0 (elV aS f0) n2 (elV aT f2) x4 n5 (elV tyR f5) n7 (elV tyT f7) n9 (elV tyF f9) n11 (elV tyC f11) n13 (elV tp1 f13) n15 (elV tyU f15)) x18 x19 x20 x21)])) (.ob (decide (0<=x17/\x17 < (↑n11:Int))) (.obp ((bJ (i64.wrap ((1000000:Int) * i64.wrap (i64.wrap (jv4 (f11 x17.toNat) * jv4 (f11 x17.toNat))+i64.wrap (jv5 (f11 x17.toNat) * jv5 (f11 x17.toNat)))))=(0:Int)->False)/\(bS (i64.wrap ((1000000:Int) * i64.wrap (i64.wrap (jv4 (f11 x17.toNat) * jv4 (f11 x17.toNat))+i64.wrap (jv5 (f11 x17.toNat) * jv5 (f11 x17.toNat)))))=(0:Int)->False)) (.obt (.ret (V.tup [V.agg [vi (bD (jv1 (f11 x17.toNat)) (jv2 (f11 x17.toNat)) (jv4 (f11 x17.toNat)) (jv5 (f11 x17.toNat)) x18 x19 x20 x21),vi (bE (jv1 (f11 x17.toNat)) (jv2 (f11 x17.toNat)) (jv4 (f11 x17.toNat)) (jv5 (f11 x17.toNat)) x18 x19 x20 x21),vi (bF (jv1 (f11 x17.toNat)) (jv2 (f11 x17.toNat)) (jv4 (f11 x17.toNat)) (jv5 (f11 x17.toNat)) x18 x19 x20 x21),vi (bG (jv1 (f11 x17.toNat)) (jv2 (f11 x17.toNat)) (jv4 (f11 x17.toNat)) (jv5 (f11 x17.toNat)) x18 x19 x20 x21)],vi 0])))))))) (.br (ckE n0 (elV aS f0) n2 (elV aT f2) x4 n5 (elV tyR f5) n7 (elV tyT f7) n9 (elV tyF f9) n11 (elV tyC f11) n13 (elV tp1 f13) n15 (elV tyU f15) != 0) (.ret (V.tup [V.agg [vi 0,vi 0,vi 0,vi 0],vi (ckE n0 (elV aS f0) n2 (elV aT f2) x4 n5 (elV tyR f5) n7 (elV tyT f7) n9 (elV tyF f9) n11 (elV tyC f11) n13 (elV tp1 f13) n15 (elV tyU f15))])) (.ob (decide (0<=x17/\x17 < (↑n11:Int))) (.obp ((bJ (i64.wrap ((1000000:Int) * i64.wrap (i64.wrap (jv4 (f11 x17.toNat) * jv4 (f11 x17.toNat))+i64.wrap (jv5 (f11 x17.toNat) * jv5 (f11 x17.toNat)))))=(0:Int)->False)/\(bS (i64.wrap ((1000000:Int) * i64.wrap (i64.wrap (jv4 (f11 x17.toNat) * jv4 (f11 x17.toNat))+i64.wrap (jv5 (f11 x17.toNat) * jv5 (f11 x17.toNat)))))=(0:Int)->False)) (.obt (.ret (V.tup [V.agg [vi (bD (jv1 (f11 x17.toNat)) (jv2 (f11 x17.toNat)) (jv4 (f11 x17.toNat)) (jv5 (f11 x17.toNat)) x18 x19 x20 x21),vi (bE (jv1 (f11 x17.toNat)) (jv2 (f11 x17.toNat)) (jv4 (f11 x17.toNat)) (jv5 (f11 x17.toNat)) x18 x19 x20 x21),vi (bF (jv1 (f11 x17.toNat)) (jv2 (f11 x17.toNat)) (jv4 (f11 x17.toNat)) (jv5 (f11 x17.toNat)) x18 x19 x20 x21),vi (bG (jv1 (f11 x17.toNat)) (jv2 (f11 x17.toNat)) (jv4 (f11 x17.toNat)) (jv5 (f11 x17.toNat)) x18 x19 x20 x21)],vi 0])))))))))))) (.br (ckE n0 (elV aS f0) n2 (elV aT f2) x4 n5 (elV tyR f5) n7 (elV tyT f7) n9 (elV tyF f9) n11 (elV tyC f11) n13 (elV tp1 f13) n15 (elV tyU f15) == 0) (.obp ((∀ (i:Nat),i < n0->(sv (hdV (f0 i))).size<=(9223372036854775807:Nat))/\(∀ (i:Nat),i < n2->(sv (hdV (f2 i))).size<=(9223372036854775807:Nat))/\(∀ (i:Nat),i < n5->(sv (hdV (f5 i))).size<=(9223372036854775807:Nat))/\∀ (i:Nat),i < n11->(sv (hdV (f11 i))).size<=(9223372036854775807:Nat)) (.obt (.br (fB (ckE n0 (elV aS f0) n2 (elV aT f2) x4 n5 (elV tyR f5) n7 (elV tyT f7) n9 (elV tyF f9) n11 (elV tyC f11) n13 (elV tp1 f13) n15 (elV tyU f15)) x18 x19 x20 x21 != 0) (.ret (V.tup [V.agg [vi 0,vi 0,vi 0,vi 0],vi (fB (ckE n0 (elV aS f0) n2 (elV aT f2) x4 n5 (elV tyR f5) n7 (elV tyT f7) n9 (elV tyF f9) n11 (elV tyC f11) n13 (elV tp1 f13) n15 (elV tyU f15)) x18 x19 x20 x21)])) (.ob (decide (0<=x17/\x17 < (↑n11:Int))) (.obp ((bJ (i64.wrap ((1000000:Int) * i64.wrap (i64.wrap (jv4 (f11 x17.toNat) * jv4 (f11 x17.toNat))+i64.wrap (jv5 (f11 x17.toNat) * jv5 (f11 x17.toNat)))))=(0:Int)->False)/\(bS (i64.wrap ((1000000:Int) * i64.wrap (i64.wrap (jv4 (f11 x17.toNat) * jv4 (f11 x17.toNat))+i64.wrap (jv5 (f11 x17.toNat) * jv5 (f11 x17.toNat)))))=(0:Int)->False)) (.obt (.ret (V.tup [V.agg [vi (bD (jv1 (f11 x17.toNat)) (jv2 (f11 x17.toNat)) (jv4 (f11 x17.toNat)) (jv5 (f11 x17.toNat)) x18 x19 x20 x21),vi (bE (jv1 (f11 x17.toNat)) (jv2 (f11 x17.toNat)) (jv4 (f11 x17.toNat)) (jv5 (f11 x17.toNat)) x18 x19 x20 x21),vi (bF (jv1 (f11 x17.toNat)) (jv2 (f11 x17.toNat)) (jv4 (f11 x17.toNat)) (jv5 (f11 x17.toNat)) x18 x19 x20 x21),vi (bG (jv1 (f11 x17.toNat)) (jv2 (f11 x17.toNat)) (jv4 (f11 x17.toNat)) (jv5 (f11 x17.toNat)) x18 x19 x20 x21)],vi 0])))))))) (.br (ckE n0 (elV aS f0) n2 (elV aT f2) x4 n5 (elV tyR f5) n7 (elV tyT f7) n9 (elV tyF f9) n11 (elV tyC f11) n13 (elV tp1 f13) n15 (elV tyU f15) != 0) (.ret (V.tup [V.agg [vi 0,vi 0,vi 0,vi 0],vi (ckE n0 (elV aS f0) n2 (elV aT f2) x4 n5 (elV tyR f5) n7 (elV tyT f7) n9 (elV tyF f9) n11 (elV tyC f11) n13 (elV tp1 f13) n15 (elV tyU f15))])) (.ob (decide (0<=x17/\x17 < (↑n11:Int))) (.obp ((bJ (i64.wrap ((1000000:Int) * i64.wrap (i64.wrap (jv4 (f11 x17.toNat) * jv4 (f11 x17.toNat))+i64.wrap (jv5 (f11 x17.toNat) * jv5 (f11 x17.toNat)))))=(0:Int)->False)/\(bS (i64.wrap ((1000000:Int) * i64.wrap (i64.wrap (jv4 (f11 x17.toNat) * jv4 (f11 x17.toNat))+i64.wrap (jv5 (f11 x17.toNat) * jv5 (f11 x17.toNat)))))=(0:Int)->False)) (.obt (.ret (V.tup [V.agg [vi (bD (jv1 (f11 x17.toNat)) (jv2 (f11 x17.toNat)) (jv4 (f11 x17.toNat)) (jv5 (f11 x17.toNat)) x18 x19 x20 x21),vi (bE (jv1 (f11 x17.toNat)) (jv2 (f11 x17.toNat)) (jv4 (f11 x17.toNat)) (jv5 (f11 x17.toNat)) x18 x19 x20 x21),vi (bF (jv1 (f11 x17.toNat)) (jv2 (f11 x17.toNat)) (jv4 (f11 x17.toNat)) (jv5 (f11 x17.toNat)) x18 x19 x20 x21),vi (bG (jv1 (f11 x17.toNat)) (jv2 (f11 x17.toNat)) (jv4 (f11 x17.toNat)) (jv5 (f11 x17.toNat)) x18 x19 x20 x21)],vi 0]))))))))))))))
theorem KI (n0:Nat) (f0:FnV) (n2:Nat) (f2:FnV) (x4:Int) (n5:Nat) (f5:FnV) (n7:Nat) (f7:FnV) (n9:Nat) (f9:FnV) (n11:Nat) (f11:FnV) (n13:Nat) (f13:FnV) (n15:Nat) (f15:FnV) (x17 x18 x19 x20 x21:Int):Fit noD (aN JJ zI u0 V5 [V.agg [V.sl n0 (elV aS f0),V.sl n2 (elV aT f2),vi x4,V.sl n5 (elV tyR f5),V.sl n7 (elV tyT f7),V.sl n9 (elV tyF f9),V.sl n11 (elV tyC f11),V.sl n13 (elV tp1 f13),V.sl n15 (elV tyU f15)],vi x17,V.agg [vi x18,vi x19,vi x20,vi x21]]) (DO n0 f0 n2 f2 x4 n5 f5 n7 f7 n9 f9 n11 f11 n13 f13 n15 f15 x17 x18 x19 x20 x21):=⟨by kernel_rfl,by kernel_rfl⟩
def XH (n0:Nat) (f0:FnV) (n2:Nat) (f2:FnV) (x4:Int) (n5:Nat) (f5:FnV) (n7:Nat) (f7:FnV) (n9:Nat) (f9:FnV) (n11:Nat) (f11:FnV) (n13:Nat) (f13:FnV) (n15:Nat) (f15:FnV) (x17 x18 x19 x20 x21:Int):Int:=bif ckE n0 (elV aS f0) n2 (elV aT f2) x4 n5 (elV tyR f5) n7 (elV tyT f7) n9 (elV tyF f9) n11 (elV tyC f11) n13 (elV tp1 f13) n15 (elV tyU f15) == 0 then bif !aF x17 0 (i64.wrap ((↑n11:Int) - 1)) then 0 else bif ckE n0 (elV aS f0) n2 (elV aT f2) x4 n5 (elV tyR f5) n7 (elV tyT f7) n9 (elV tyF f9) n11 (elV tyC f11) n13 (elV tp1 f13) n15 (elV tyU f15) == 0 then bif fB (ckE n0 (elV aS f0) n2 (elV aT f2) x4 n5 (elV tyR f5) n7 (elV tyT f7) n9 (elV tyF f9) n11 (elV tyC f11) n13 (elV tp1 f13) n15 (elV tyU f15)) x18 x19 x20 x21 != 0 then 0 else bD (jv1 (f11 x17.toNat)) (jv2 (f11 x17.toNat)) (jv4 (f11 x17.toNat)) (jv5 (f11 x17.toNat)) x18 x19 x20 x21 else bif ckE n0 (elV aS f0) n2 (elV aT f2) x4 n5 (elV tyR f5) n7 (elV tyT f7) n9 (elV tyF f9) n11 (elV tyC f11) n13 (elV tp1 f13) n15 (elV tyU f15) != 0 then 0 else bD (jv1 (f11 x17.toNat)) (jv2 (f11 x17.toNat)) (jv4 (f11 x17.toNat)) (jv5 (f11 x17.toNat)) x18 x19 x20 x21 else bif ckE n0 (elV aS f0) n2 (elV aT f2) x4 n5 (elV tyR f5) n7 (elV tyT f7) n9 (elV tyF f9) n11 (elV tyC f11) n13 (elV tp1 f13) n15 (elV tyU f15) == 0 then bif fB (ckE n0 (elV aS f0) n2 (elV aT f2) x4 n5 (elV tyR f5) n7 (elV tyT f7) n9 (elV tyF f9) n11 (elV tyC f11) n13 (elV tp1 f13) n15 (elV tyU f15)) x18 x19 x20 x21 != 0 then 0 else bD (jv1 (f11 x17.toNat)) (jv2 (f11 x17.toNat)) (jv4 (f11 x17.toNat)) (jv5 (f11 x17.toNat)) x18 x19 x20 x21 else bif ckE n0 (elV aS f0) n2 (elV aT f2) x4 n5 (elV tyR f5) n7 (elV tyT f7) n9 (elV tyF f9) n11 (elV tyC f11) n13 (elV tp1 f13) n15 (elV tyU f15) != 0 then 0 else bD (jv1 (f11 x17.toNat)) (jv2 (f11 x17.toNat)) (jv4 (f11 x17.toNat)) (jv5 (f11 x17.toNat)) x18 x19 x20 x21
def XF (n0:Nat) (f0:FnV) (n2:Nat) (f2:FnV) (x4:Int) (n5:Nat) (f5:FnV) (n7:Nat) (f7:FnV) (n9:Nat) (f9:FnV) (n11:Nat) (f11:FnV) (n13:Nat) (f13:FnV) (n15:Nat) (f15:FnV) (x17 x18 x19 x20 x21:Int):Int:=bif ckE n0 (elV aS f0) n2 (elV aT f2) x4 n5 (elV tyR f5) n7 (elV tyT f7) n9 (elV tyF f9) n11 (elV tyC f11) n13 (elV tp1 f13) n15 (elV tyU f15) == 0 then bif !aF x17 0 (i64.wrap ((↑n11:Int) - 1)) then 0 else bif ckE n0 (elV aS f0) n2 (elV aT f2) x4 n5 (elV tyR f5) n7 (elV tyT f7) n9 (elV tyF f9) n11 (elV tyC f11) n13 (elV tp1 f13) n15 (elV tyU f15) == 0 then bif fB (ckE n0 (elV aS f0) n2 (elV aT f2) x4 n5 (elV tyR f5) n7 (elV tyT f7) n9 (elV tyF f9) n11 (elV tyC f11) n13 (elV tp1 f13) n15 (elV tyU f15)) x18 x19 x20 x21 != 0 then 0 else bE (jv1 (f11 x17.toNat)) (jv2 (f11 x17.toNat)) (jv4 (f11 x17.toNat)) (jv5 (f11 x17.toNat)) x18 x19 x20 x21 else bif ckE n0 (elV aS f0) n2 (elV aT f2) x4 n5 (elV tyR f5) n7 (elV tyT f7) n9 (elV tyF f9) n11 (elV tyC f11) n13 (elV tp1 f13) n15 (elV tyU f15) != 0 then 0 else bE (jv1 (f11 x17.toNat)) (jv2 (f11 x17.toNat)) (jv4 (f11 x17.toNat)) (jv5 (f11 x17.toNat)) x18 x19 x20 x21 else bif ckE n0 (elV aS f0) n2 (elV aT f2) x4 n5 (elV tyR f5) n7 (elV tyT f7) n9 (elV tyF f9) n11 (elV tyC f11) n13 (elV tp1 f13) n15 (elV tyU f15) == 0 then bif fB (ckE n0 (elV aS f0) n2 (elV aT f2) x4 n5 (elV tyR f5) n7 (elV tyT f7) n9 (elV tyF f9) n11 (elV tyC f11) n13 (elV tp1 f13) n15 (elV tyU f15)) x18 x19 x20 x21 != 0 then 0 else bE (jv1 (f11 x17.toNat)) (jv2 (f11 x17.toNat)) (jv4 (f11 x17.toNat)) (jv5 (f11 x17.toNat)) x18 x19 x20 x21 else bif ckE n0 (elV aS f0) n2 (elV aT f2) x4 n5 (elV tyR f5) n7 (elV tyT f7) n9 (elV tyF f9) n11 (elV tyC f11) n13 (elV tp1 f13) n15 (elV tyU f15) != 0 then 0 else bE (jv1 (f11 x17.toNat)) (jv2 (f11 x17.toNat)) (jv4 (f11 x17.toNat)) (jv5 (f11 x17.toNat)) x18 x19 x20 x21
def XC (n0:Nat) (f0:FnV) (n2:Nat) (f2:FnV) (x4:Int) (n5:Nat) (f5:FnV) (n7:Nat) (f7:FnV) (n9:Nat) (f9:FnV) (n11:Nat) (f11:FnV) (n13:Nat) (f13:FnV) (n15:Nat) (f15:FnV) (x17 x18 x19 x20 x21:Int):Int:=bif ckE n0 (elV aS f0) n2 (elV aT f2) x4 n5 (elV tyR f5) n7 (elV tyT f7) n9 (elV tyF f9) n11 (elV tyC f11) n13 (elV tp1 f13) n15 (elV tyU f15) == 0 then bif !aF x17 0 (i64.wrap ((↑n11:Int) - 1)) then 0 else bif ckE n0 (elV aS f0) n2 (elV aT f2) x4 n5 (elV tyR f5) n7 (elV tyT f7) n9 (elV tyF f9) n11 (elV tyC f11) n13 (elV tp1 f13) n15 (elV tyU f15) == 0 then bif fB (ckE n0 (elV aS f0) n2 (elV aT f2) x4 n5 (elV tyR f5) n7 (elV tyT f7) n9 (elV tyF f9) n11 (elV tyC f11) n13 (elV tp1 f13) n15 (elV tyU f15)) x18 x19 x20 x21 != 0 then 0 else bF (jv1 (f11 x17.toNat)) (jv2 (f11 x17.toNat)) (jv4 (f11 x17.toNat)) (jv5 (f11 x17.toNat)) x18 x19 x20 x21 else bif ckE n0 (elV aS f0) n2 (elV aT f2) x4 n5 (elV tyR f5) n7 (elV tyT f7) n9 (elV tyF f9) n11 (elV tyC f11) n13 (elV tp1 f13) n15 (elV tyU f15) != 0 then 0 else bF (jv1 (f11 x17.toNat)) (jv2 (f11 x17.toNat)) (jv4 (f11 x17.toNat)) (jv5 (f11 x17.toNat)) x18 x19 x20 x21 else bif ckE n0 (elV aS f0) n2 (elV aT f2) x4 n5 (elV tyR f5) n7 (elV tyT f7) n9 (elV tyF f9) n11 (elV tyC f11) n13 (elV tp1 f13) n15 (elV tyU f15) == 0 then bif fB (ckE n0 (elV aS f0) n2 (elV aT f2) x4 n5 (elV tyR f5) n7 (elV tyT f7) n9 (elV tyF f9) n11 (elV tyC f11) n13 (elV tp1 f13) n15 (elV tyU f15)) x18 x19 x20 x21 != 0 then 0 else bF (jv1 (f11 x17.toNat)) (jv2 (f11 x17.toNat)) (jv4 (f11 x17.toNat)) (jv5 (f11 x17.toNat)) x18 x19 x20 x21 else bif ckE n0 (elV aS f0) n2 (elV aT f2) x4 n5 (elV tyR f5) n7 (elV tyT f7) n9 (elV tyF f9) n11 (elV tyC f11) n13 (elV tp1 f13) n15 (elV tyU f15) != 0 then 0 else bF (jv1 (f11 x17.toNat)) (jv2 (f11 x17.toNat)) (jv4 (f11 x17.toNat)) (jv5 (f11 x17.toNat)) x18 x19 x20 x21
def Xz (n0:Nat) (f0:FnV) (n2:Nat) (f2:FnV) (x4:Int) (n5:Nat) (f5:FnV) (n7:Nat) (f7:FnV) (n9:Nat) (f9:FnV) (n11:Nat) (f11:FnV) (n13:Nat) (f13:FnV) (n15:Nat) (f15:FnV) (x17 x18 x19 x20 x21:Int):Int:=bif ckE n0 (elV aS f0) n2 (elV aT f2) x4 n5 (elV tyR f5) n7 (elV tyT f7) n9 (elV tyF f9) n11 (elV tyC f11) n13 (elV tp1 f13) n15 (elV tyU f15) == 0 then bif !aF x17 0 (i64.wrap ((↑n11:Int) - 1)) then 0 else bif ckE n0 (elV aS f0) n2 (elV aT f2) x4 n5 (elV tyR f5) n7 (elV tyT f7) n9 (elV tyF f9) n11 (elV tyC f11) n13 (elV tp1 f13) n15 (elV tyU f15) == 0 then bif fB (ckE n0 (elV aS f0) n2 (elV aT f2) x4 n5 (elV tyR f5) n7 (elV tyT f7) n9 (elV tyF f9) n11 (elV tyC f11) n13 (elV tp1 f13) n15 (elV tyU f15)) x18 x19 x20 x21 != 0 then 0 else bG (jv1 (f11 x17.toNat)) (jv2 (f11 x17.toNat)) (jv4 (f11 x17.toNat)) (jv5 (f11 x17.toNat)) x18 x19 x20 x21 else bif ckE n0 (elV aS f0) n2 (elV aT f2) x4 n5 (elV tyR f5) n7 (elV tyT f7) n9 (elV tyF f9) n11 (elV tyC f11) n13 (elV tp1 f13) n15 (elV tyU f15) != 0 then 0 else bG (jv1 (f11 x17.toNat)) (jv2 (f11 x17.toNat)) (jv4 (f11 x17.toNat)) (jv5 (f11 x17.toNat)) x18 x19 x20 x21 else bif ckE n0 (elV aS f0) n2 (elV aT f2) x4 n5 (elV tyR f5) n7 (elV tyT f7) n9 (elV tyF f9) n11 (elV tyC f11) n13 (elV tp1 f13) n15 (elV tyU f15) == 0 then bif fB (ckE n0 (elV aS f0) n2 (elV aT f2) x4 n5 (elV tyR f5) n7 (elV tyT f7) n9 (elV tyF f9) n11 (elV tyC f11) n13 (elV tp1 f13) n15 (elV tyU f15)) x18 x19 x20 x21 != 0 then 0 else bG (jv1 (f11 x17.toNat)) (jv2 (f11 x17.toNat)) (jv4 (f11 x17.toNat)) (jv5 (f11 x17.toNat)) x18 x19 x20 x21 else bif ckE n0 (elV aS f0) n2 (elV aT f2) x4 n5 (elV tyR f5) n7 (elV tyT f7) n9 (elV tyF f9) n11 (elV tyC f11) n13 (elV tp1 f13) n15 (elV tyU f15) != 0 then 0 else bG (jv1 (f11 x17.toNat)) (jv2 (f11 x17.toNat)) (jv4 (f11 x17.toNat)) (jv5 (f11 x17.toNat)) x18 x19 x20 x21
def XE (n0:Nat) (f0:FnV) (n2:Nat) (f2:FnV) (x4:Int) (n5:Nat) (f5:FnV) (n7:Nat) (f7:FnV) (n9:Nat) (f9:FnV) (n11:Nat) (f11:FnV) (n13:Nat) (f13:FnV) (n15:Nat) (f15:FnV) (x17 x18 x19 x20 x21:Int):Int:=bif ckE n0 (elV aS f0) n2 (elV aT f2) x4 n5 (elV tyR f5) n7 (elV tyT f7) n9 (elV tyF f9) n11 (elV tyC f11) n13 (elV tp1 f13) n15 (elV tyU f15) == 0 then bif !aF x17 0 (i64.wrap ((↑n11:Int) - 1)) then 4 else bif ckE n0 (elV aS f0) n2 (elV aT f2) x4 n5 (elV tyR f5) n7 (elV tyT f7) n9 (elV tyF f9) n11 (elV tyC f11) n13 (elV tp1 f13) n15 (elV tyU f15) == 0 then bif fB (ckE n0 (elV aS f0) n2 (elV aT f2) x4 n5 (elV tyR f5) n7 (elV tyT f7) n9 (elV tyF f9) n11 (elV tyC f11) n13 (elV tp1 f13) n15 (elV tyU f15)) x18 x19 x20 x21 != 0 then fB (ckE n0 (elV aS f0) n2 (elV aT f2) x4 n5 (elV tyR f5) n7 (elV tyT f7) n9 (elV tyF f9) n11 (elV tyC f11) n13 (elV tp1 f13) n15 (elV tyU f15)) x18 x19 x20 x21 else 0 else bif ckE n0 (elV aS f0) n2 (elV aT f2) x4 n5 (elV tyR f5) n7 (elV tyT f7) n9 (elV tyF f9) n11 (elV tyC f11) n13 (elV tp1 f13) n15 (elV tyU f15) != 0 then ckE n0 (elV aS f0) n2 (elV aT f2) x4 n5 (elV tyR f5) n7 (elV tyT f7) n9 (elV tyF f9) n11 (elV tyC f11) n13 (elV tp1 f13) n15 (elV tyU f15) else 0 else bif ckE n0 (elV aS f0) n2 (elV aT f2) x4 n5 (elV tyR f5) n7 (elV tyT f7) n9 (elV tyF f9) n11 (elV tyC f11) n13 (elV tp1 f13) n15 (elV tyU f15) == 0 then bif fB (ckE n0 (elV aS f0) n2 (elV aT f2) x4 n5 (elV tyR f5) n7 (elV tyT f7) n9 (elV tyF f9) n11 (elV tyC f11) n13 (elV tp1 f13) n15 (elV tyU f15)) x18 x19 x20 x21 != 0 then fB (ckE n0 (elV aS f0) n2 (elV aT f2) x4 n5 (elV tyR f5) n7 (elV tyT f7) n9 (elV tyF f9) n11 (elV tyC f11) n13 (elV tp1 f13) n15 (elV tyU f15)) x18 x19 x20 x21 else 0 else bif ckE n0 (elV aS f0) n2 (elV aT f2) x4 n5 (elV tyR f5) n7 (elV tyT f7) n9 (elV tyF f9) n11 (elV tyC f11) n13 (elV tp1 f13) n15 (elV tyU f15) != 0 then ckE n0 (elV aS f0) n2 (elV aT f2) x4 n5 (elV tyR f5) n7 (elV tyT f7) n9 (elV tyF f9) n11 (elV tyC f11) n13 (elV tp1 f13) n15 (elV tyU f15) else 0
theorem Cr (n0:Nat) (f0:FnV) (n2:Nat) (f2:FnV) (x4:Int) (n5:Nat) (f5:FnV) (n7:Nat) (f7:FnV) (n9:Nat) (f9:FnV) (n11:Nat) (f11:FnV) (n13:Nat) (f13:FnV) (n15:Nat) (f15:FnV) (x17 x18 x19 x20 x21:Int) (hp:aI n0 f0/\aI n2 f2/\aI n5 f5/\aI n11 f11):evR noE (DO n0 f0 n2 f2 x4 n5 f5 n7 f7 n9 f9 n11 f11 n13 f13 n15 f15 x17 x18 x19 x20 x21) (.tup [.agg [.int .i64 (fmV (fmE (ckE n0 f0 n2 f2 x4 n5 f5 n7 f7 n9 f9 n11 f11 n13 f13 n15 f15) n11 x17 x18 x19 x20 x21) (bD (jv1 ((f11 x17.toNat))) (jv2 ((f11 x17.toNat))) (jv4 ((f11 x17.toNat))) (jv5 ((f11 x17.toNat))) x18 x19 x20 x21)),.int .i64 (fmV (fmE (ckE n0 f0 n2 f2 x4 n5 f5 n7 f7 n9 f9 n11 f11 n13 f13 n15 f15) n11 x17 x18 x19 x20 x21) (bE (jv1 ((f11 x17.toNat))) (jv2 ((f11 x17.toNat))) (jv4 ((f11 x17.toNat))) (jv5 ((f11 x17.toNat))) x18 x19 x20 x21)),.int .i64 (fmV (fmE (ckE n0 f0 n2 f2 x4 n5 f5 n7 f7 n9 f9 n11 f11 n13 f13 n15 f15) n11 x17 x18 x19 x20 x21) (bF (jv1 ((f11 x17.toNat))) (jv2 ((f11 x17.toNat))) (jv4 ((f11 x17.toNat))) (jv5 ((f11 x17.toNat))) x18 x19 x20 x21)),.int .i64 (fmV (fmE (ckE n0 f0 n2 f2 x4 n5 f5 n7 f7 n9 f9 n11 f11 n13 f13 n15 f15) n11 x17 x18 x19 x20 x21) (bG (jv1 ((f11 x17.toNat))) (jv2 ((f11 x17.toNat))) (jv4 ((f11 x17.toNat))) (jv5 ((f11 x17.toNat))) x18 x19 x20 x21))],.int .i64 (fmE (ckE n0 f0 n2 f2 x4 n5 f5 n7 f7 n9 f9 n11 f11 n13 f13 n15 f15) n11 x17 x18 x19 x20 x21)]):=by
 refine aO hp (ac (ak (ak (ak (aE fun hn=>ak (aw (fun h=>aH h (aH h (ao (ac ?_)))) (fun h=>?_)))))))
 ·have h0:ckE n0 f0 n2 f2 x4 n5 f5 n7 f7 n9 f9 n11 f11 n13 f13 n15 f15=0:=eq_of_beq h
  have hn:=hn h
  have G:=Lx h0
  refine aw (fun h1=>jJ (dY (ah ?_))) (fun h1=>aw (fun _=>aO hp (ac (aw (fun h2=>ah ?_) (fun h2=>?_)))) (fun h'=>absurd (h'.symm.trans h) (by decide)))
  ·unfold fmV fmE
   rw [h0,show aF x17 0 (i64.wrap ((n11:Int) - 1))=false from wN h1]; rfl
  ·have hp:cS x18 x19 x20 x21=false:=by
    cases hh:cS x18 x19 x20 x21 with
    | false=>rfl
    | true=>exact absurd (show (fB (ckE n0 f0 n2 f2 x4 n5 f5 n7 f7 n9 f9 n11 f11 n13 f13 n15 f15) x18 x19 x20 x21 != 0)=true from h2) (by unfold fB; rw [h0,hh]; decide)
   refine (congrArg (fun e=>toA (V.tup [V.agg [V.int .i64 0,V.int .i64 0,V.int .i64 0,V.int .i64 0],V.int .i64 e])) (show fB (ckE n0 f0 n2 f2 x4 n5 f5 n7 f7 n9 f9 n11 f11 n13 f13 n15 f15) x18 x19 x20 x21=7 by unfold fB; rw [h0,hp]; rfl)).trans ?_
   unfold fmV fmE
   rw [h0,show aF x17 0 (i64.wrap ((n11:Int) - 1))=true from notf h1,hp]; rfl
  ·have hx:=Uk (notf h1) hn
   have C:=G.cl x17.toNat (by omega)
   have hp:cS x18 x19 x20 x21=true:=by
    cases hh:cS x18 x19 x20 x21 with
    | true=>rfl
    | false=>exact absurd (show (fB (ckE n0 f0 n2 f2 x4 n5 f5 n7 f7 n9 f9 n11 f11 n13 f13 n15 f15) x18 x19 x20 x21 != 0)=false from h2) (by unfold fB; rw [h0,hh]; decide)
   refine aH (dqt hx) (aO (PR C.hd) (ac (ah ?_)))
   unfold fmV fmE
   rw [h0,show aF x17 0 (i64.wrap ((n11:Int) - 1))=true from notf h1,hp]; rfl
 ·have h:(ckE n0 f0 n2 f2 x4 n5 f5 n7 f7 n9 f9 n11 f11 n13 f13 n15 f15 == 0)=false:=h
  refine aw (fun h'=>absurd (h'.symm.trans h) (by decide)) (fun _=>aw (fun _=>ah ?_) (fun h'=>?_))
  ·unfold fmV fmE
   rw [h]; exact DV h
  ·have h':(ckE n0 f0 n2 f2 x4 n5 f5 n7 f7 n9 f9 n11 f11 n13 f13 n15 f15 != 0)=false:=h'
   rw [qN h'] at h; cases h
theorem Ry (n0:Nat) (f0:FnV) (n2:Nat) (f2:FnV) (x4:Int) (n5:Nat) (f5:FnV) (n7:Nat) (f7:FnV) (n9:Nat) (f9:FnV) (n11:Nat) (f11:FnV) (n13:Nat) (f13:FnV) (n15:Nat) (f15:FnV) (x17 x18 x19 x20 x21:Int) (hp:aI n0 (elV aS f0)/\aI n2 (elV aT f2)/\aI n5 (elV tyR f5)/\aI n11 (elV tyC f11)):evR noE (DO n0 f0 n2 f2 x4 n5 f5 n7 f7 n9 f9 n11 f11 n13 f13 n15 f15 x17 x18 x19 x20 x21) (.tup [.agg [.int .i64 (fmV (fmE (ckE n0 (elV aS f0) n2 (elV aT f2) x4 n5 (elV tyR f5) n7 (elV tyT f7) n9 (elV tyF f9) n11 (elV tyC f11) n13 (elV tp1 f13) n15 (elV tyU f15)) n11 x17 x18 x19 x20 x21) (bD (jv1 (((elV tyC f11) x17.toNat))) (jv2 (((elV tyC f11) x17.toNat))) (jv4 (((elV tyC f11) x17.toNat))) (jv5 (((elV tyC f11) x17.toNat))) x18 x19 x20 x21)),.int .i64 (fmV (fmE (ckE n0 (elV aS f0) n2 (elV aT f2) x4 n5 (elV tyR f5) n7 (elV tyT f7) n9 (elV tyF f9) n11 (elV tyC f11) n13 (elV tp1 f13) n15 (elV tyU f15)) n11 x17 x18 x19 x20 x21) (bE (jv1 (((elV tyC f11) x17.toNat))) (jv2 (((elV tyC f11) x17.toNat))) (jv4 (((elV tyC f11) x17.toNat))) (jv5 (((elV tyC f11) x17.toNat))) x18 x19 x20 x21)),.int .i64 (fmV (fmE (ckE n0 (elV aS f0) n2 (elV aT f2) x4 n5 (elV tyR f5) n7 (elV tyT f7) n9 (elV tyF f9) n11 (elV tyC f11) n13 (elV tp1 f13) n15 (elV tyU f15)) n11 x17 x18 x19 x20 x21) (bF (jv1 (((elV tyC f11) x17.toNat))) (jv2 (((elV tyC f11) x17.toNat))) (jv4 (((elV tyC f11) x17.toNat))) (jv5 (((elV tyC f11) x17.toNat))) x18 x19 x20 x21)),.int .i64 (fmV (fmE (ckE n0 (elV aS f0) n2 (elV aT f2) x4 n5 (elV tyR f5) n7 (elV tyT f7) n9 (elV tyF f9) n11 (elV tyC f11) n13 (elV tp1 f13) n15 (elV tyU f15)) n11 x17 x18 x19 x20 x21) (bG (jv1 (((elV tyC f11) x17.toNat))) (jv2 (((elV tyC f11) x17.toNat))) (jv4 (((elV tyC f11) x17.toNat))) (jv5 (((elV tyC f11) x17.toNat))) x18 x19 x20 x21))],.int .i64 (fmE (ckE n0 (elV aS f0) n2 (elV aT f2) x4 n5 (elV tyR f5) n7 (elV tyT f7) n9 (elV tyF f9) n11 (elV tyC f11) n13 (elV tp1 f13) n15 (elV tyU f15)) n11 x17 x18 x19 x20 x21)]):=Cr n0 f0 n2 f2 x4 n5 f5 n7 f7 n9 f9 n11 f11 n13 f13 n15 f15 x17 x18 x19 x20 x21 hp
def M5:ap:=mkC [.agg [.sl [.str,.sl tp1,.sl tp1,.sl [.sl tp1],.int .i64,.int .i64],.sl [.str,.int .i64,.int .i64,.int .i64,.int .i64,.int .i64,.int .i64,.int .i64,.int .i64,.int .i64,.int .i64,.int .i64,.int .i64,.int .i64],.int .i64,.sl tyR,.sl tyT,.sl tyF,.sl tyC,.sl tp1,.sl [.int .i64,.int .i64,.int .i64]],.int .i64,.agg tp4] (fun
 | [.agg [.sl n0 f0,.sl n2 f2,.int _ x4,.sl n5 f5,.sl n7 f7,.sl n9 f9,.sl n11 f11,.sl n13 f13,.sl n15 f15],.int _ x17,.agg [.int _ x18,.int _ x19,.int _ x20,.int _ x21]]=>aI n0 f0/\aI n2 f2/\aI n5 f5/\aI n11 f11
 | _=>False) fun
 | [.agg [.sl n0 f0,.sl n2 f2,.int _ x4,.sl n5 f5,.sl n7 f7,.sl n9 f9,.sl n11 f11,.sl n13 f13,.sl n15 f15],.int _ x17,.agg [.int _ x18,.int _ x19,.int _ x20,.int _ x21]]=>.tup [.agg [.int .i64 (fmV (fmE (ckE n0 f0 n2 f2 x4 n5 f5 n7 f7 n9 f9 n11 f11 n13 f13 n15 f15) n11 x17 x18 x19 x20 x21) (bD (jv1 ((f11 x17.toNat))) (jv2 ((f11 x17.toNat))) (jv4 ((f11 x17.toNat))) (jv5 ((f11 x17.toNat))) x18 x19 x20 x21)),.int .i64 (fmV (fmE (ckE n0 f0 n2 f2 x4 n5 f5 n7 f7 n9 f9 n11 f11 n13 f13 n15 f15) n11 x17 x18 x19 x20 x21) (bE (jv1 ((f11 x17.toNat))) (jv2 ((f11 x17.toNat))) (jv4 ((f11 x17.toNat))) (jv5 ((f11 x17.toNat))) x18 x19 x20 x21)),.int .i64 (fmV (fmE (ckE n0 f0 n2 f2 x4 n5 f5 n7 f7 n9 f9 n11 f11 n13 f13 n15 f15) n11 x17 x18 x19 x20 x21) (bF (jv1 ((f11 x17.toNat))) (jv2 ((f11 x17.toNat))) (jv4 ((f11 x17.toNat))) (jv5 ((f11 x17.toNat))) x18 x19 x20 x21)),.int .i64 (fmV (fmE (ckE n0 f0 n2 f2 x4 n5 f5 n7 f7 n9 f9 n11 f11 n13 f13 n15 f15) n11 x17 x18 x19 x20 x21) (bG (jv1 ((f11 x17.toNat))) (jv2 ((f11 x17.toNat))) (jv4 ((f11 x17.toNat))) (jv5 ((f11 x17.toNat))) x18 x19 x20 x21))],.int .i64 (fmE (ckE n0 f0 n2 f2 x4 n5 f5 n7 f7 n9 f9 n11 f11 n13 f13 n15 f15) n11 x17 x18 x19 x20 x21)]
 | _=>.any
theorem Ri:(vP M5).Ok Tryz.prog 25:=mkE yap Tryz.func25 (by kernel_rfl) fun ds hp=>rf0 (KI ..) (Ry _ _ _ _ _ _ _ _ _ _ _ _ _ _ _ _ _ _ _ _ _ _ hp)
end
end Go.Dx
namespace Go.Dx
open Go.Sx
section
variable {J:Type}
def B3:V->ck J->ck J
 | .bool b,.res (.kb _)=>.res (.kb b)
 | r,_=>.res r
theorem Gq (r:V) (a:ck J):ma r (B3 r a):=by
 unfold B3; split <;> rfl
def yai (r:V):T (ck J)->T (ck J)
 | .ret a=>.ret (B3 r a)
 | .br b x y=>match b with
   | true=>.br true (yai r x) y
   | false=>.br false x (yai r y)
 | .ob _ x=>.ob true (yai r x)
 | .obi c d x=>match c with
   | true=>.obi true true (yai r x)
   | false=>.obi false d (yai r x)
 | .obp _ x=>.obp True (yai r x)
 | .obq a _ x=>.obq a a (yai r x)
 | .fail _=>.ret (.res r)
 | .loop ..=>.ret (.res r)
 | .all f=>.all fun l=>yai r (f l)
 | .und x y=>.und (yai r x) (yai r y)
 | .asm p x=>.asm p (yai r x)
theorem F3 {LP:cY} (r:V):∀ t:T (ck J),sat LP (yai r t) (ma r):=by
 intro t
 induction t with
 | ret a=>exact Gq r a
 | br b x y hx hy =>
   cases b with
   | true=>exact ⟨fun _=>hx,(fun e=>by cases e)⟩
   | false=>exact ⟨(fun e=>by cases e),fun _=>hy⟩
 | ob b x hx=>exact ⟨rfl,hx⟩
 | obi c d x hx =>
   cases c with
   | true=>exact ⟨fun _=>rfl,hx⟩
   | false=>exact ⟨(fun e=>by cases e),hx⟩
 | obp p x hx=>exact ⟨trivial,hx⟩
 | obq a b x hx=>exact ⟨rfl,hx⟩
 | fail n=>exact (rfl:toA r=toA r)
 | loop fr b e h g k hk=>exact (rfl:toA r=toA r)
 | all f hf=>exact fun l=>hf l
 | und x y hx hy=>exact ⟨hx,hy⟩
 | asm p x hx=>exact fun _=>hx
theorem vX {ct:aY} {un:Unr} {w0:World} {sf:ay} {ds:List V} {r:V} (h:yai r (aN J ct un sf ds)=aN J ct un sf ds):sat (bU w0 (SV ct)) (aN J ct un sf ds) (ma r):=by
 rw [← h]; exact F3 r _
end
def m7 (ts:List Ty) (pre:List V->Bool) (r:List V->V):ap:=fun ds=>cond (pre (iq ts ds)) (some ((gP ts ds [],gQ ts ds []),True,r (iq ts ds))) none
theorem jr {P:Program} {f:FuncId} {ts:List Ty} {pre:List V->Prop} {preB:List V->Bool} {r:List V->V} (h:∀ ds,preB ds=true->pre ds) (hO:(vP (mkC ts pre r)).Ok P f):(vP (m7 ts preB r)).Ok P f:=by
 refine ⟨fun B m lh w args vs K hrel hargs hsp=>?_,fun _ _ _ _ _ hk ⟨ds,d,p,r,h1,h2,h3,h4,h5⟩=>⟨ds,d,p,r,h1,h2,h3,h4,hk _ _ h5⟩,fun _ _ _ _ ⟨_,_,_,_,_,_,_,_,h⟩=>h⟩
 refine hO.sound B m lh w args vs K hrel hargs ?_
 obtain ⟨ds,d,p,r',h1,h2,⟨h30,h3⟩,h4,h5⟩:=hsp
 unfold m7 at h2
 cases hb:preB (iq ts ds) with
 | false=>rw [hb] at h2; cases h2
 | true =>
   rw [hb] at h2
   simp only [cond_true,Option.some.injEq,Prod.mk.injEq] at h2
   obtain ⟨rfl,rfl,rfl⟩:=h2
   exact ⟨ds,_,_,_,h1,rfl,⟨h30,h _ hb⟩,h4,h5⟩
def eqL (p:V->V->Bool):List V->List V->Bool
 | [],[]=>true
 | v::vs,x::xs=>p v x && eqL p vs xs
 | _,_=>false
def eqD:Nat->V->V->Bool
 | 0,_,_=>false
 | fu+1,v,x=>match v,x with
   | .int k a,.int k' b=>decide (k=k') && decide (a=b)
   | .bool a,.bool b=>a == b
   | .kb a,.bool b=>a == b
   | .str a,.str b=>decide (a.data.toList=b.data.toList)
   | .agg xs,.agg ys=>eqL (eqD fu) xs ys
   | .sl n f,.sl m g=>Nat.beq n m && bL n fun i=>eqL (eqD fu) (f i) (g i) && (g i).all V.fc
   | .sq n _ f,.sl m g=>Nat.beq n m && bL n fun i=>eqL (eqD fu) (f i) (g i) && (g i).all V.fc
   | .pd xs,.pd ys=>Nat.beq (bc xs) (bc ys) && (eqL (eqD fu) xs ys && ys.all V.fc)
   | .fn f xs ys,.fn g us ws=>Nat.beq f g && (eqL (eqD fu) xs us && eqL (eqD fu) ys ws)
   | _,_=>false
theorem kl {w0:World} {lh:List af} {p:V->V->Bool} (hp:∀ v x a,p v x=true->vr w0 lh Nu.nil v a->vr w0 lh Nu.nil x a):∀ (vs xs:List V) (qs:List ab),eqL p vs xs=true->vrs w0 lh Nu.nil vs qs->vrs w0 lh Nu.nil xs qs
 | [],[],qs,_,h=>h
 | v::vs,x::xs,qs,h,h1=>by
   simp only [eqL,Bool.and_eq_true] at h
   simp only [vrs] at h1 ⊢
   obtain ⟨y,ys,rfl,h2,h3⟩:=h1
   exact ⟨y,ys,rfl,hp _ _ _ h.1 h2,kl hp vs xs ys h.2 h3⟩
 | [],_::_,_,h,_=>by simp [eqL] at h
 | _::_,[],_,h,_=>by simp [eqL] at h
theorem lB {w0:World} {lh:List af}:∀ (fu:Nat) (v x:V) (a:ab),eqD fu v x=true->vr w0 lh Nu.nil v a->vr w0 lh Nu.nil x a
 | 0,v,x,a,h,_=>by simp [eqD] at h
 | fu+1,v,x,a,h,hv=>by
   simp only [eqD] at h
   split at h
   ·simp only [Bool.and_eq_true,decide_eq_true_eq] at h; obtain ⟨rfl,rfl⟩:=h; exact hv
   ·have:=eq_of_beq h; subst this; exact hv
   ·have:=eq_of_beq h; subst this; simp only [vr] at hv ⊢; exact hv
   ·rename_i s t
    have h0:=of_decide_eq_true h
    have:s=t:=by
     cases s with | mk d =>
     cases t with | mk e =>
     have:d=e:=Array.toList_inj.1 h0
     rw [this]
    subst this; exact hv
   ·simp only [vr] at hv ⊢
    obtain ⟨qs,rfl,h2⟩:=hv
    exact ⟨qs,rfl,kl (fun v x a=>lB fu v x a) _ _ _ h h2⟩
   ·simp only [Bool.and_eq_true] at h
    have hn:=Nat.eq_of_beq_eq_true h.1
    subst hn
    simp only [vr] at hv ⊢
    obtain ⟨p,c,esz,h1,h2,h3,h4,h5⟩:=hv
    refine ⟨p,c,esz,h1,h2,h3,h4,fun i hi=>?_⟩
    obtain ⟨q,qs,g1,g2,g3,g4⟩:=h5 i hi
    have hh:=db h.2 i hi
    simp only [Bool.and_eq_true] at hh
    exact ⟨q,qs,g1,g2,kl (fun v x a=>lB fu v x a) _ _ _ hh.1 g3,hh.2⟩
   ·simp only [Bool.and_eq_true] at h
    have hn:=Nat.eq_of_beq_eq_true h.1
    subst hn
    simp only [vr] at hv ⊢
    obtain ⟨p,c,esz,h1,h2,h3,h4,h5⟩:=hv
    refine ⟨p,c,esz,h1,h2.1,h3,h4,fun i hi=>?_⟩
    obtain ⟨q,qs,g1,g2,g3,g4⟩:=h5 i hi
    have hh:=db h.2 i hi
    simp only [Bool.and_eq_true] at hh
    exact ⟨q,qs,g1,g2,kl (fun v x a=>lB fu v x a) _ _ _ hh.1 g3,hh.2⟩
   ·simp only [Bool.and_eq_true] at h
    have hn:=Nat.eq_of_beq_eq_true h.1
    rw [a8,a8] at hn
    simp only [vr] at hv ⊢
    obtain ⟨p,qs,h1,h2,h3,h4,h5⟩:=hv
    exact ⟨p,qs,h1,h2,by rw [← hn]; exact h3,kl (fun v x a=>lB fu v x a) _ _ _ h.2.1 h4,h.2.2⟩
   ·simp only [Bool.and_eq_true] at h
    have hn:=Nat.eq_of_beq_eq_true h.1
    subst hn
    simp only [vr] at hv ⊢
    obtain ⟨us,vs,h1,h2,h3⟩:=hv
    exact ⟨us,vs,h1,kl (fun v x a=>lB fu v x a) _ _ _ h.2.1 h2,kl (fun v x a=>lB fu v x a) _ _ _ h.2.2 h3⟩
   ·cases h
def atC:List (List V × V)->ap
 | [],_=>none
 | (ex,r)::l,ds=>cond (eqL (eqD 8) ds ex) (some (([],[]),True,r)) (atC l ds)
theorem s7 {P:Program} {f:FuncId} {C:ap} (hO:(vP C).Ok P f):∀ (l:List (List V × V)),(∀ e ∈ l,∃ d p,C e.1=some (d,p,e.2)/\d.1=d.2/\p)->(vP (atC l)).Ok P f:=by
 intro l hl
 refine ⟨fun B m lh w args vs K hrel hargs hsp=>?_,fun _ _ _ _ _ hk ⟨ds,d,p,r,h1,h2,h3,h4,h5⟩=>⟨ds,d,p,r,h1,h2,h3,h4,hk _ _ h5⟩,fun _ _ _ _ ⟨_,_,_,_,_,_,_,_,h⟩=>h⟩
 refine hO.sound B m lh w args vs K hrel hargs ?_
 obtain ⟨ds,d,p,r',h1,h2,_,h4,h5⟩:=hsp
 induction l with
 | nil=>simp [atC] at h2
 | cons e l ih =>
   simp only [atC] at h2
   cases hb:eqL (eqD 8) ds e.1 with
   | true =>
     rw [hb] at h2
     simp only [cond_true,Option.some.injEq,Prod.mk.injEq] at h2
     obtain ⟨_,_,rfl⟩:=h2
     obtain ⟨d',p',e1,e2,e3⟩:=hl e (List.mem_cons_self ..)
     exact ⟨e.1,d',p',_,kl (fun v x a=>lB 8 v x a) _ _ _ hb h1,e1,⟨e2,e3⟩,h4,h5⟩
   | false =>
     rw [hb] at h2
     exact ih (fun e he=>hl e (List.mem_cons_of_mem _ he)) h2
end Go.Dx
namespace Go.Dx
open Go.Sx
theorem at1 {ts:List Ty} {pre:List V->Prop} {r:List V->V} {raw:List V} {res:V} (hp:pre (iq ts (ae ts raw))) (hr:r (iq ts (ae ts raw))=res):∃ d p,mkC ts pre r (ae ts raw)=some (d,p,res)/\d.1=d.2/\p :=
 ⟨_,_,by rw [mkC,hr],dU ts raw [],hp⟩
theorem HK {α:Type} {a:α} {l:List α} {Q:α->Prop} (h:Q a) (hl:∀ e ∈ l,Q e):∀ e ∈ a::l,Q e:=fun e he=>by
 rcases List.mem_cons.1 he with rfl | he
 ·exact h
 ·exact hl e he
theorem Hi {α:Type} {Q:α->Prop}:∀ e ∈ ([]:List α),Q e:=fun e he=>by cases he
end Go.Dx
namespace Go.Dx
open Go.IntKind (i64 u64 u8)
open Go.Sx Go.Proofs
noncomputable section
def uB:Unr:=fun _=>1000
def szB (n:Nat) (f:Nat->List V):Bool:=bL n fun i=>Nat.ble (sv (hdV (f i))).size 9223372036854775807
theorem jL {n:Nat} {f:Nat->List V} (h:szB n f=true):aI n f:=fun i hi=>Nat.le_of_ble_eq_true (db h i hi)
def smT:Nat->List V
 | 0=>[.str ⟨#[119,105,100,101]⟩,.sl 3 (fun | 0=>[vi (-1000)] | 1=>[vi (0)] | _=>[vi (2000)]),.sl 2 (fun | 0=>[vi (-1000)] | _=>[vi (1000)]),.sl 3 (fun | 0=>[.sl 2 (fun | 0=>[vi (100)] | _=>[vi (300)])] | 1=>[.sl 2 (fun | 0=>[vi (200)] | _=>[vi (600)])] | _=>[.sl 2 (fun | 0=>[vi (0)] | _=>[vi (100)])]),vi (50),vi (5)]
 | _=>[.str ⟨#[97,115,112,104,97,108,116]⟩,.sl 2 (fun | 0=>[vi (-5000)] | _=>[vi (5000)]),.sl 2 (fun | 0=>[vi (-5000)] | _=>[vi (5000)]),.sl 2 (fun | 0=>[.sl 2 (fun | 0=>[vi (700)] | _=>[vi (700)])] | _=>[.sl 2 (fun | 0=>[vi (700)] | _=>[vi (700)])]),vi (0),vi (0)]
def smL:Nat->List V:=fun _=>[.str ⟨#[104,101,97,100]⟩,vi (0),vi (1),vi (8000),vi (60000),vi (500),vi (50),vi (2),vi (4),vi (3),vi (5),vi (100000),vi (200),vi (0)]
def smR:Nat->List V:=fun _=>[.str ⟨#[104,105,103,104]⟩,vi (0),.sl 3 (fun | 0=>[vi 0,vi 0] | 1=>[vi 10000,vi 0] | _=>[vi 10000,vi 10000]),vi (4000)]
def smC:Nat->List V:=fun _=>[.str ⟨#[99]⟩,vi (0),vi (0),vi (80),vi (0),vi (1)]
def smS:V:=.agg [.sl 2 smT,.sl 1 smL,vi 1,.sl 1 smR,.sl 0 smR,.sl 0 smR,.sl 1 smC,.sl 1 (fun _=>[vi 0]),.sl 1 fun _=>[vi 0,vi 0,vi 1000]]
def Cb:List Ty:=[.agg [.sl [.str,.sl tp1,.sl tp1,.sl [.sl tp1],.int .i64,.int .i64],.sl [.str,.int .i64,.int .i64,.int .i64,.int .i64,.int .i64,.int .i64,.int .i64,.int .i64,.int .i64,.int .i64,.int .i64,.int .i64,.int .i64],.int .i64,.sl tyR,.sl tyT,.sl tyF,.sl tyC,.sl tp1,.sl [.int .i64,.int .i64,.int .i64]]]
def BX:ap:=atC [(ae Cb [smS],.tup [vi 0,vi 0,vi 0])]
theorem GU:(vP BX).Ok Tryz.prog 22:=s7 CV _ (HK (at1 (ts:=Cb) (raw:=[smS]) (⟨jL (by kernel_rfl),jL (by kernel_rfl),jL (by kernel_rfl),jL (by kernel_rfl)⟩) (by kernel_rfl)) (Hi))
def D4:List Ty:=[.agg [.sl [.str,.sl tp1,.sl tp1,.sl [.sl tp1],.int .i64,.int .i64],.sl [.str,.int .i64,.int .i64,.int .i64,.int .i64,.int .i64,.int .i64,.int .i64,.int .i64,.int .i64,.int .i64,.int .i64,.int .i64,.int .i64]]]
def Ej:ap:=atC [(ae D4 [.agg [.sl 2 smT,.sl 1 smL]],.tup [vi 0,vi 0,vi 0])]
theorem KQ:(vP Ej).Ok Tryz.prog 59:=s7 F5 _ (HK (at1 (ts:=D4) (raw:=[.agg [.sl 2 smT,.sl 1 smL]]) (⟨jL (by kernel_rfl),jL (by kernel_rfl)⟩) (by kernel_rfl)) (Hi))
def UB:List Ty:=[.agg [.sl tyR,.sl tyT,.sl tyF,.sl tyC]]
def V4:ap:=atC [(ae UB [.agg [.sl 1 smR,.sl 0 smR,.sl 0 smR,.sl 1 smC]],.tup [vi 0,vi 0,vi 0])]
theorem WE:(vP V4).Ok Tryz.prog 60:=s7 W8 _ (HK (at1 (ts:=UB) (raw:=[.agg [.sl 1 smR,.sl 0 smR,.sl 0 smR,.sl 1 smC]]) (⟨jL (by kernel_rfl),jL (by kernel_rfl)⟩) (by kernel_rfl)) (Hi))
end
noncomputable section
def lN:aY:=(24,.con N3)::(25,.con M5)::zI
theorem kt:aQ Tryz.prog eqs its lN:=.con SU (.con Ri (yap))
def LK (x0:Int):RT Empty:=.ret (V.agg [vi x0,vi x0])
theorem JC (x0:Int):Fit noD (aN JJ lN u0 Wo [vi x0]) (LK x0):=⟨by kernel_rfl,by kernel_rfl⟩
def By (x0:Int):V:=.agg [.int i64 (x0),.int i64 (x0)]
theorem Ps (x0:Int):evR noE (LK x0) (By x0):=ah (by unfold By ; rfl)
def Bl:ap:=mkC tp1 (fun _=>True) fun
 | [.int _ x0]=>By x0
 | _=>.any
theorem Eh:(vP Bl).Ok Tryz.prog 226:=mkE kt Tryz.func226 (by kernel_rfl) fun ds hp=>rf0 (JC ..) (Ps _)
def MO (x0 x1 x2 x3 x4 x5 x6:Int):RT Empty:=.obp (i64.wrap (x5 - x4)=(0:Int)->False) (.obt (.obp (i64.wrap (x5 - x4)=(0:Int)->False) (.obt (.ret (V.agg [vi (dX (i64.wrap (i64.wrap (x0 * i64.wrap (x5 - x6))+i64.wrap (x2 * i64.wrap (x6 - x4)))) (i64.wrap (x5 - x4))),vi (fb (i64.wrap (i64.wrap (x1 * i64.wrap (x5 - x6))+i64.wrap (x3 * i64.wrap (x6 - x4)))) (i64.wrap (x5 - x4)))])))))
theorem I3 (x0 x1 x2 x3 x4 x5 x6:Int):Fit noD (aN JJ lN u0 VD [V.agg [vi x0,vi x1],V.agg [vi x2,vi x3],vi x4,vi x5,vi x6]) (MO x0 x1 x2 x3 x4 x5 x6):=⟨by kernel_rfl,by kernel_rfl⟩
def xG (x0 x2 x4 x5 x6:Int):Int:=dX (i64.wrap (i64.wrap (x0 * i64.wrap (x5 - x6))+i64.wrap (x2 * i64.wrap (x6 - x4)))) (i64.wrap (x5 - x4))
def xV (x1 x3 x4 x5 x6:Int):Int:=fb (i64.wrap (i64.wrap (x1 * i64.wrap (x5 - x6))+i64.wrap (x3 * i64.wrap (x6 - x4)))) (i64.wrap (x5 - x4))
def xN (x0 x1 x2 x3 x4 x5 x6:Int):V:=.agg [.int i64 (xG x0 x2 x4 x5 x6),.int i64 (xV x1 x3 x4 x5 x6)]
theorem SB (x0 x1 x2 x3 x4 x5 x6:Int) (hp:i64.wrap (x5 - x4) ≠ 0):evR noE (MO x0 x1 x2 x3 x4 x5 x6) (xN x0 x1 x2 x3 x4 x5 x6):=aO (by first | assumption | (exact hp)) (ac (aO (by first | assumption | (exact hp)) (ac (ah (by unfold xN xG xV; rfl)))))
def LX:ap:=mkC [.agg tp2,.agg tp2,.int .i64,.int .i64,.int .i64] (fun
 | [.agg [.int _ x0,.int _ x1],.agg [.int _ x2,.int _ x3],.int _ x4,.int _ x5,.int _ x6]=>i64.wrap (x5 - x4) ≠ 0
 | _=>False) fun
 | [.agg [.int _ x0,.int _ x1],.agg [.int _ x2,.int _ x3],.int _ x4,.int _ x5,.int _ x6]=>xN x0 x1 x2 x3 x4 x5 x6
 | _=>.any
theorem F9:(vP LX).Ok Tryz.prog 225:=mkE kt Tryz.func225 (by kernel_rfl) fun ds hp=>rf0 (I3 ..) (SB _ _ _ _ _ _ _ hp)
def CR (x0 x1 x2 x3 x4 x5:Int):RT Empty:=.obp ((1000000:Int)=(0:Int)->False) (.obt (.obp ((1000:Int)=(0:Int)->False) (.obt (.obp ((1000:Int)=(0:Int)->False) (.obt (.ret (vi (dX (i64.wrap (dX (i64.wrap (dX (i64.wrap (x0 * max (i64.wrap (1000000 - i64.wrap (x1 * x3))) 0)) 1000000 * max (i64.wrap (1000 - i64.wrap (x2 * x4))) 0)) 1000 * x5)) 1000))))))))
theorem FQ (x0 x1 x2 x3 x4 x5:Int):Fit noD (aN JJ lN u0 NK [vi x0,vi x1,vi x2,V.agg [vi x3,vi x4,vi x5],V.fn 91 [] []]) (CR x0 x1 x2 x3 x4 x5):=⟨by kernel_rfl,by kernel_rfl⟩
def va (x0 x1 x2 x3 x4 x5:Int):Int:=dX (i64.wrap (dX (i64.wrap (dX (i64.wrap (x0 * max (i64.wrap (1000000 - i64.wrap (x1 * x3))) 0)) 1000000 * max (i64.wrap (1000 - i64.wrap (x2 * x4))) 0)) 1000 * x5)) 1000
def wD (x0 x1 x2 x3 x4 x5:Int):V:=.int i64 (va x0 x1 x2 x3 x4 x5)
theorem Hv (x0 x1 x2 x3 x4 x5:Int):evR noE (CR x0 x1 x2 x3 x4 x5) (wD x0 x1 x2 x3 x4 x5):=aO (by first | assumption | (decide)) (ac (aO (by first | assumption | (decide)) (ac (aO (by first | assumption | (decide)) (ac (ah (by unfold wD va; rfl)))))))
def Fb:ap:=mkC [.int .i64,.int .i64,.int .i64,.agg [.int .i64,.int .i64,.int .i64],.fn 91 [] []] (fun _=>True) fun
 | [.int _ x0,.int _ x1,.int _ x2,.agg [.int _ x3,.int _ x4,.int _ x5],.fn _ [] []]=>wD x0 x1 x2 x3 x4 x5
 | _=>.any
theorem If:(vP Fb).Ok Tryz.prog 165:=mkE kt Tryz.func165 (by kernel_rfl) fun ds hp=>rf0 (FQ ..) (Hv _ _ _ _ _ _)
def F1 (x0 x1 x2 x3 x4 x5:Int):RT Empty:=.obp ((1000000:Int)=(0:Int)->False) (.obt (.obp ((1000:Int)=(0:Int)->False) (.obt (.obp ((1000:Int)=(0:Int)->False) (.obt (.ret (vi (fb (i64.wrap (fb (i64.wrap (fb (i64.wrap (x0 * max (i64.wrap (1000000 - i64.wrap (x1 * x3))) 0)) 1000000 * max (i64.wrap (1000 - i64.wrap (x2 * x4))) 0)) 1000 * x5)) 1000))))))))
theorem C7 (x0 x1 x2 x3 x4 x5:Int):Fit noD (aN JJ lN u0 NK [vi x0,vi x1,vi x2,V.agg [vi x3,vi x4,vi x5],V.fn 92 [] []]) (F1 x0 x1 x2 x3 x4 x5):=⟨by kernel_rfl,by kernel_rfl⟩
def vj (x0 x1 x2 x3 x4 x5:Int):Int:=fb (i64.wrap (fb (i64.wrap (fb (i64.wrap (x0 * max (i64.wrap (1000000 - i64.wrap (x1 * x3))) 0)) 1000000 * max (i64.wrap (1000 - i64.wrap (x2 * x4))) 0)) 1000 * x5)) 1000
def we (x0 x1 x2 x3 x4 x5:Int):V:=.int i64 (vj x0 x1 x2 x3 x4 x5)
theorem Ja (x0 x1 x2 x3 x4 x5:Int):evR noE (F1 x0 x1 x2 x3 x4 x5) (we x0 x1 x2 x3 x4 x5):=aO (by first | assumption | (decide)) (ac (aO (by first | assumption | (decide)) (ac (aO (by first | assumption | (decide)) (ac (ah (by unfold we vj; rfl)))))))
def Gu:ap:=mkC [.int .i64,.int .i64,.int .i64,.agg [.int .i64,.int .i64,.int .i64],.fn 92 [] []] (fun _=>True) fun
 | [.int _ x0,.int _ x1,.int _ x2,.agg [.int _ x3,.int _ x4,.int _ x5],.fn _ [] []]=>we x0 x1 x2 x3 x4 x5
 | _=>.any
theorem I0:(vP Gu).Ok Tryz.prog 165:=mkE kt Tryz.func165 (by kernel_rfl) fun ds hp=>rf0 (C7 ..) (Ja _ _ _ _ _ _)
def Su:List V->Bool
 | [_,_,_,_,.fn n _ _]=>Nat.beq n (match (.fn 91 [] []:V) with | .fn k _ _=>k | _=>0)
 | _=>false
def EZ:ap:=orC Su Fb Gu
theorem yaH:(vP EZ).Ok Tryz.prog 165:=xk _ _ _ If I0
theorem qA {b:Int} (h:(b != 0)=true):b ≠ 0:=by simpa using h
def EO:List V->Bool
 | [.int _ x0,.int _ x1]=>x1 != 0
 | _=>false
def CO:ap:=m7 tp2 EO fun
 | [.int _ x0,.int _ x1]=>vK x0 x1
 | _=>.any
theorem KU:(vP CO).Ok Tryz.prog 91:=jr (fun ds h=>by
 unfold EO at h
 split at h
 ·exact qA h
 ·cases h) FP
def yaw:List V->Bool
 | [.agg [.int _ x0,.int _ x1]]=>x1 != 0
 | _=>false
def Ea:ap:=m7 [.agg tp2] yaw fun
 | [.agg [.int _ x0,.int _ x1]]=>uA x0 x1
 | _=>.any
theorem I2:(vP Ea).Ok Tryz.prog 106:=jr (fun ds h=>by
 unfold yaw at h
 split at h
 ·exact qA h
 ·cases h) CL
def Do:List V->Bool
 | [.int _ x0,.int _ x1]=>x1 != 0
 | _=>false
def Gi:ap:=m7 tp2 Do fun
 | [.int _ x0,.int _ x1]=>ze x0 x1
 | _=>.any
theorem Ht:(vP Gi).Ok Tryz.prog 92:=jr (fun ds h=>by
 unfold Do at h
 split at h
 ·exact qA h
 ·cases h) E6
def Gg:List V->Bool
 | [.agg [.int _ x0,.int _ x1]]=>x1 != 0
 | _=>false
def Cd:ap:=m7 [.agg tp2] Gg fun
 | [.agg [.int _ x0,.int _ x1]]=>yE x0 x1
 | _=>.any
theorem Ix:(vP Cd).Ok Tryz.prog 108:=jr (fun ds h=>by
 unfold Gg at h
 split at h
 ·exact qA h
 ·cases h) BW
def Eg:List V->Bool
 | [.sl n0 f0]=>Nat.ble 1 n0
 | _=>false
def DY:ap:=m7 [.sl tp1] Eg fun
 | [.sl n0 f0]=>.int .i64 (dB n0 f0)
 | _=>.any
theorem Ik:(vP DY).Ok Tryz.prog 143:=jr (fun ds h=>by
 unfold Eg at h
 split at h
 ·exact Nat.le_of_ble_eq_true h
 ·cases h) De
def BZ:List V->Bool
 | [.sl n0 f0]=>Nat.ble 1 n0
 | _=>false
def DX:ap:=m7 [.sl tp1] BZ fun
 | [.sl n0 f0]=>.int .i64 (d9 n0 f0)
 | _=>.any
theorem Js:(vP DX).Ok Tryz.prog 192:=jr (fun ds h=>by
 unfold BZ at h
 split at h
 ·exact Nat.le_of_ble_eq_true h
 ·cases h) EJ
def Fc:List V->Bool
 | [.agg [.int _ x0,.int _ x1],.agg [.int _ x2,.int _ x3],.int _ x4,.int _ x5,.int _ x6]=>i64.wrap (x5 - x4) != 0
 | _=>false
def Cw:ap:=m7 [.agg tp2,.agg tp2,.int .i64,.int .i64,.int .i64] Fc fun
 | [.agg [.int _ x0,.int _ x1],.agg [.int _ x2,.int _ x3],.int _ x4,.int _ x5,.int _ x6]=>xN x0 x1 x2 x3 x4 x5 x6
 | _=>.any
theorem HM:(vP Cw).Ok Tryz.prog 225:=jr (fun ds h=>by
 unfold Fc at h
 split at h
 ·exact qA h
 ·cases h) F9
end
end Go.Dx
namespace Go.Dx
open Go.Sx Go.RowKit
end Go.Dx
namespace Go.Dx
open Go.Sx
theorem aL.unhideG {B:bT} {m m':ar} {lh new:List af} {w w':World} {X:List Nat} (h:aL B m lh w)
 (h':aL ⟨B.w0,w,fun b=>∃ k cs ty,k ∉ X/\lh[k]? = some (.cells cs ty)/\m k=some b,B.ds⟩ m' (hide X lh++new) w') (he:Ext (hide X lh) m (hide X lh++new) m') :
 aL B m' (lh++new) w'/\Ext lh m (lh++new) m':=by
 have hent:∀ k o,(lh++new)[k]? = some o->((hide X lh++new)[k]? = some o) ∨ (k ∈ X/\lh[k]? = some o/\(hide X lh++new)[k]? = some .hid):=fun k o hk=>by
  rw [List.getElem?_append] at hk
  split at hk
  ·rename_i hlt
   rw [List.getElem?_append_left (by rw [Go.Sx.hide_length]; exact hlt),Go.Sx.hide_get]
   by_cases hX:k ∈ X
   ·rw [if_pos hX,hk]; exact .inr ⟨hX,rfl,rfl⟩
   ·rw [if_neg hX]; exact .inl hk
  ·rename_i hge
   left
   rw [List.getElem?_append_right (by rw [Go.Sx.hide_length]; omega),Go.Sx.hide_length]; exact hk
 have hnoown:∀ k cs ty b,k ∈ X->lh[k]? = some (.cells cs ty)->m k=some b->¬ ∃ j cs ty,j ∉ X/\lh[j]? = some (af.cells cs ty)/\m j=some b:=fun k cs ty b hX hk hb ⟨j,cs',ty',hj,hl,hb'⟩=>by
  exact hj (h.inj j k b cs' cs ty' ty hl hk hb' hb ▸ hX)
 refine ⟨⟨h'.os.trans h.os,h'.tape.trans h.tape,h'.output.trans h.output,h'.size,h'.old,Nat.le_trans h.fsize h'.fsize,fun b hb ho=>?_,fun k cs ty hk=>?_,fun k k' b cs cs' ty ty' h1 h2 hb hb'=>?_,fun k hk=>?_,fun k hk=>?_,h'.rng⟩,he.1,fun k hk=>?_⟩
 ·rw [h'.kept b (Nat.lt_of_lt_of_le hb h.fsize) (fun ⟨k,cs,ty,_,hl,hm⟩=>?_)]
  ·exact h.kept b hb ho
  ·obtain ⟨b',_,hb',_,_,_,h3⟩:=h.loc k cs ty hl
   rw [hm] at hb'; cases hb'
   rcases h3 with h3 | h3
   ·omega
   ·exact ho h3
 ·rcases hent k _ hk with hl | ⟨hX,hl,_⟩
  ·obtain ⟨b,vs,hb,hvs,hh,h1,h2⟩:=h'.loc k cs ty hl
   refine ⟨b,vs,hb,hvs,hh,h1,?_⟩
   rcases h2 with h2 | ⟨j,cs',ty',hj,hlj,hmj⟩
   ·exact .inl (Nat.le_trans h.fsize h2)
   ·obtain ⟨b',_,hb',_,_,_,h3⟩:=h.loc j cs' ty' hlj
    rw [hmj] at hb'; cases hb'
    exact h3
  ·obtain ⟨b,vs,hb,hvs,hh,h1,h2⟩:=h.loc k cs ty hl
   refine ⟨b,vs,he.1 _ _ hb,bz he.1 _ _ hvs,?_,h1,h2⟩
   rw [h'.kept b (h.rng k b hb) (hnoown k cs ty b hX hl hb)]
   exact hh
 ·have mixed:∀ k k' b cs cs' ty ty',(hide X lh++new)[k]? = some (.cells cs ty)->k' ∈ X->lh[k']? = some (.cells cs' ty')->m' k=some b->m' k'=some b->False:=fun k k' b cs cs' ty ty' hl hX hl' hb hb'=>by
   obtain ⟨b0,_,hb0,_⟩:=h.loc k' cs' ty' hl'
   have e:=he.1 _ _ hb0
   rw [hb'] at e; cases e
   obtain ⟨b1,_,hb1,_,_,_,h2⟩:=h'.loc k cs ty hl
   rw [hb] at hb1; cases hb1
   rcases h2 with h2 | h2
   ·have h3:=h.rng k' b hb0
    have h4:w.heap.size<=b:=h2
    omega
   ·exact hnoown k' cs' ty' b hX hl' hb0 h2
  rcases hent k _ h1 with hl | ⟨hX,hl,_⟩ <;> rcases hent k' _ h2 with hl' | ⟨hX',hl',_⟩
  ·exact h'.inj k k' b cs cs' ty ty' hl hl' hb hb'
  ·exact (mixed k k' b cs cs' ty ty' hl hX' hl' hb hb').elim
  ·exact (mixed k' k b cs' cs ty' ty hl' hX hl hb' hb).elim
  ·obtain ⟨b0,_,hb0,_⟩:=h.loc k cs ty hl
   obtain ⟨b1,_,hb1,_⟩:=h.loc k' cs' ty' hl'
   have e:=he.1 _ _ hb0; rw [hb] at e; cases e
   have e:=he.1 _ _ hb1; rw [hb'] at e; cases e
   exact h.inj k k' b cs cs' ty ty' hl hl' hb0 hb1
 ·exact h'.dom k (by rw [List.length_append] at hk ⊢; rw [Go.Sx.hide_length]; exact hk)
 ·rcases hent k _ hk with hl | ⟨hX,hl,hl'⟩
  ·exact h'.dead k hl
  ·have hd:=h.dead k hl
   have hh:(hide X lh)[k]? = some .hid:=by rw [Go.Sx.hide_get,if_pos hX,hl]; rfl
   rw [(he.2 k hh).2]; exact hd
 ·have hh:(hide X lh)[k]? = some .hid:=by
   rw [Go.Sx.hide_get]; split
   ·rw [hk]; rfl
   ·exact hk
  obtain ⟨h1,h2⟩:=he.2 k hh
  exact ⟨by rw [List.getElem?_append_left (List.getElem?_eq_some_iff.1 hk).1]; exact hk,h2⟩
mutual
def cP:V->Prop
 | .int .. | .bool _ | .kb _ | .str _ | .any=>True
 | .agg cs | .tup cs=>eF cs
 | .sl n f=>∀ i,i < n->eF (f i)
 | _=>False
def eF:List V->Prop
 | []=>True
 | v::vs=>cP v/\eF vs
end
theorem Gw:∀ (r v:V),cP r->toA v=toA r->v.fc=true->r.fc=true
 | .int ..,_,_,_,_=>rfl
 | .bool _,_,_,_,_=>rfl
 | .kb _,_,_,_,_=>rfl
 | .str _,_,_,_,_=>rfl
 | .any,_,_,_,_=>rfl
 | .sl ..,_,_,_,_=>rfl
 | .agg _,v,_,h,hf=>by cases v <;> first | (simp [toA] at h; done) | (cases hf; done)
 | .tup _,v,_,h,hf=>by cases v <;> first | (simp [toA] at h; done) | (cases hf; done)
 | .fn ..,_,hg,_,_=>by simp [cP] at hg
 | .pd ..,_,hg,_,_=>rfl
 | .pl ..,_,hg,_,_=>rfl
 | .pe ..,_,hg,_,_=>rfl
 | .ss ..,_,hg,_,_=>rfl
 | .gs ..,_,hg,_,_=>rfl
 | .ns,_,hg,_,_=>rfl
 | .np,_,hg,_,_=>rfl
 | .gd ..,_,hg,_,_=>by simp [cP] at hg
 | .yl ..,_,hg,_,_=>by simp [cP] at hg
 | .go ..,_,hg,_,_=>rfl
 | .sq ..,_,hg,_,_=>rfl
theorem tX:∀ (rs vs:List V),eF rs->bM vs=bM rs->vs.all V.fc=true->rs.all V.fc=true
 | [],_,_,_,_=>rfl
 | r::rs,[],_,h,_=>by simp [bM] at h
 | r::rs,v::vs,hg,h,hf=>by
   simp only [bM,List.cons.injEq] at h
   simp only [eF] at hg
   simp only [List.all_cons,Bool.and_eq_true] at hf ⊢
   exact ⟨Gw r v hg.1 h.1 hf.1,tX rs vs hg.2 h.2 hf.2⟩
section
variable {w0:World} {lh:List af}
mutual
theorem eqA:∀ (r v:V) (a:ab),cP r->toA v=toA r->vr w0 lh Nu.nil v a->vr w0 lh Nu.nil r a
 | .int k n,v,a,_,h,hv=>by cases v <;> simp only [toA] at h <;> cases h; exact hv
 | .bool b,v,a,_,h,hv=>by cases v <;> simp only [toA] at h <;> cases h <;> (simp only [vr] at hv ⊢; exact hv)
 | .kb b,v,a,_,h,hv=>by cases v <;> simp only [toA] at h <;> cases h <;> (simp only [vr] at hv ⊢; exact hv)
 | .str s,v,a,_,h,hv=>by cases v <;> simp only [toA] at h <;> cases h; exact hv
 | .any,v,a,_,_,_=>by simp only [vr]
 | .agg cs,v,a,hg,h,hv=>by
   cases v <;> simp only [toA,ab.agg.injEq] at h <;> first | (cases h; done) | skip
   simp only [cP] at hg
   simp only [vr] at hv ⊢
   obtain ⟨az,e,hv⟩:=hv
   exact ⟨az,e,Il cs _ az hg h hv⟩
 | .tup cs,v,a,hg,h,hv=>by
   cases v <;> simp only [toA,ab.tup.injEq] at h <;> first | (cases h; done) | skip
   simp only [cP] at hg
   simp only [vr] at hv ⊢
   obtain ⟨az,e,hv⟩:=hv
   exact ⟨az,e,Il cs _ az hg h hv⟩
 | .sl n f,v,a,hg,h,hv=>by
   cases v <;> first | (simp [toA] at h; done) | skip
   obtain ⟨rfl,hel⟩:=xp h
   simp only [cP] at hg
   simp only [vr] at hv ⊢
   obtain ⟨p,c,esz,h1,h2,h3,h4,h5⟩:=hv
   refine ⟨p,c,esz,h1,h2,h3,h4,fun i hi=>?_⟩
   obtain ⟨q,az,g1,g2,g3,g4⟩:=h5 i hi
   exact ⟨q,az,g1,g2,Il (f i) _ az (hg i hi) (hel i hi) g3,tX _ _ (hg i hi) (hel i hi) g4⟩
 | .fn ..,_,_,hg,_,_=>by simp [cP] at hg
 | .pd ..,_,_,hg,_,_=>by simp [cP] at hg
 | .pl ..,_,_,hg,_,_=>by simp [cP] at hg
 | .pe ..,_,_,hg,_,_=>by simp [cP] at hg
 | .ss ..,_,_,hg,_,_=>by simp [cP] at hg
 | .gs ..,_,_,hg,_,_=>by simp [cP] at hg
 | .ns,_,_,hg,_,_=>by simp [cP] at hg
 | .np,_,_,hg,_,_=>by simp [cP] at hg
 | .gd ..,_,_,hg,_,_=>by simp [cP] at hg
 | .yl ..,_,_,hg,_,_=>by simp [cP] at hg
 | .go ..,_,_,hg,_,_=>by simp [cP] at hg
 | .sq ..,_,_,hg,_,_=>by simp [cP] at hg
theorem Il:∀ (rs vs:List V) (az:List ab),eF rs->bM vs=bM rs->vrs w0 lh Nu.nil vs az->vrs w0 lh Nu.nil rs az
 | [],vs,az,_,h,hv=>by
   cases vs with
   | nil=>exact hv
   | cons v vs=>simp [bM] at h
 | r :: rs,vs,az,hg,h,hv=>by
   cases vs with
   | nil=>simp [bM] at h
   | cons v vs =>
     simp only [bM,List.cons.injEq] at h
     simp only [eF] at hg
     simp only [vrs] at hv ⊢
     obtain ⟨x,xs,e,h1,h2⟩:=hv
     exact ⟨x,xs,e,eqA r v x hg.1 h.1 h1,Il rs vs xs hg.2 h.2 h2⟩
end
end
def A6:V->V
 | .sq n _ f=>.sl n f
 | v=>v
def sqs:V->V
 | .agg cs=>.agg (cs.map A6)
 | .tup cs=>.tup (cs.map A6)
 | v=>A6 v
theorem yP {w0:World} {lh:List af} {ν:Nu} {v:V} {a:ab} (h:vr w0 lh ν v a):vr w0 lh ν (A6 v) a:=by
 unfold A6
 split
 ·simp only [vr] at h ⊢
  obtain ⟨p,c,esz,h1,h2,h3,h4,h5⟩:=h
  exact ⟨p,c,esz,h1,h2.1,h3,h4,h5⟩
 ·exact h
theorem qi {w0:World} {lh:List af} {ν:Nu}:∀ {vs:List V} {qs:List ab},vrs w0 lh ν vs qs->vrs w0 lh ν (vs.map A6) qs
 | [],qs,h=>by simp only [vrs,List.map_nil] at h ⊢; exact h
 | v::vs,qs,h=>by
   simp only [vrs,List.map_cons] at h ⊢
   obtain ⟨x,xs,e,h1,h2⟩:=h
   exact ⟨x,xs,e,yP h1,qi h2⟩
theorem Rf {w0:World} {lh:List af} {ν:Nu} {v:V} {a:ab} (h:vr w0 lh ν v a):vr w0 lh ν (sqs v) a:=by
 unfold sqs
 split
 ·simp only [vr] at h ⊢
  obtain ⟨qs,e,h⟩:=h
  exact ⟨qs,e,qi h⟩
 ·simp only [vr] at h ⊢
  obtain ⟨qs,e,h⟩:=h
  exact ⟨qs,e,qi h⟩
 ·exact yP h
theorem HR.fz (w0:World) (l:List af):HR w0 ⟨fun _=>Option.none,l⟩ 0 0 [] l:=⟨fun k o h=>by simp at h,fun k k' x x' _ _ h=>by (cases h),fun _ _=>rfl,fun _ _ h=>by (cases h),iB _,fun _ _ _ h=>by (cases h)⟩
theorem DZ {l l1:List af} {m m1:ar} (hz:zle l l1) (he:Ext l m l1 m1) (hl:∀ (k:Nat) (o:af),l[k]? = some o->o=.hid ∨ ∃ az ty,o=.cells az ty):l1=l++l1.drop l.length:=by
 have hp:∀ k o,l[k]? = some o->l1[k]? = some o:=fun k o hk=>by
  rcases hl k o hk with rfl | ⟨az,ty,rfl⟩
  ·exact (he.2 k hk).1
  ·exact hz k az ty hk
 apply List.ext_getElem?; intro k
 rw [List.getElem?_append]
 split
 ·rename_i hlt
  have:l[k]? = some l[k]:=List.getElem?_eq_getElem hlt
  rw [hp k _ this,this]
 ·rename_i hge
  rw [List.getElem?_drop]; congr 1; omega
theorem Ou {α:Type} {P:Program} {eqs:List TypeId} {its:List eM} {ct:aY} {f:FuncId} {fn:Func} {sf:ay} {un:Unr} {C:ap} {K0:V->List O->T α} {Q0:V->α->Prop} (hK0:∀ w0 r v h,sat (bU w0 (SV ct)) (K0 v h) (Q0 r)->okS (jV h [v])/\toA (sqs (lk h v))=toA r) (hT:aQ P eqs its ct) (hE:∀ t ∈ eqs,bP P t) (hI:hU P eqs its) (hf:P.funcs[f]? = some fn)
 (hn : (fn.name == "runtime.NumGoroutine") = false) (hc : c7 P eqs its fn = some sf) (hd : dL sf.ntmps sf.body = true) (hg : ∀ ds d p r, C ds = some (d, p, r) -> d.1 = d.2 -> p -> cP r)
 (h:∀ w0 ds d p r,C ds=some (d,p,r)->d.1=d.2->p->sat (bU w0 (SV ct)) (jz (jq ct LV) (i6 ct) un LV sf ds [] K0) (Q0 r)):(vZ C).Ok P f:=by
 refine ⟨fun B m lh w args vs K hrel hargs hsp=>?_,fun _ _ _ _ _ hk ⟨ds,d,p,r,X,h1,h2,h3,h4,h5,h6⟩=>⟨ds,d,p,r,X,h1,h2,h3,h4,h5,fun x new hx=>hk _ _ (h6 x new hx)⟩,fun _ _ _ _ ⟨_,_,_,_,_,_,_,_,_,⟨x,new,hx⟩,h6⟩=>h6 x new hx⟩
 obtain ⟨ds,d,p,r,X,h1,hX,h2,⟨h30,h3⟩,_,h6⟩:=hsp
 have hs:=kA (Sp:=fun w0 args l K=>∃ ds d p r,vrs w0 l Nu.nil ds args/\C ds=some (d,p,r)/\(d.1=d.2/\p)/\∀ x l',zle l l'->vr w0 l' Nu.nil r x->K x l') (hT.ok hE hI LV) hE hI hf hn hc (fun w0 args l K hw ha ⟨ds,d,p,r,k1,k2,⟨k30,k3⟩,k4⟩=>by
  refine mh (ν:=⟨fun _=>none,l⟩) (nV:=0) (nS:=0) (kw w0 ct hT.dst LV) (kG w0 ct _ LV) hd (eC (fun k x h=>by cases h) ds args k1) (HR.fz w0 l) (h w0 ds d p r k2 k30 k3) fun v h' ν' a lh' q0 q1 q2 q3=>?_
  obtain ⟨b1,b2⟩:=hK0 _ _ _ _ q3
  have hh:=q1 0 0
  have hv:vrs w0 lh' Nu.nil [lk h' v] [a]:=jR hh b1 (by simp only [vrs]; exact ⟨_,_,rfl,q2,rfl⟩)
  simp only [vrs] at hv
  obtain ⟨x,xs,e,hv,_⟩:=hv
  cases e
  exact ⟨a,lh',.inl ⟨rfl,(⟨.inr rfl,trivial⟩:iF [_] [_])⟩,k4 a lh' (kz q0.2 hh.zl) (eqA _ _ _ (hg _ _ _ _ k2 k30 k3) b2 (Rf hv))⟩)
 obtain ⟨e1,e2⟩:=hs _ m (hide X lh) w args vs (fun r' l'=>zle (hide X lh) l'/\vr B.w0 l' Nu.nil r r') (hrel.hide X) hargs ⟨ds,d,p,r,h1,h2,⟨h30,h3⟩,fun x l' hz hx=>⟨hz,hx⟩⟩
 refine ⟨e1,e2.mono fun ee w' ⟨v,r',m1,l1,he,hv,hext,hr,hz,hx⟩=>?_⟩
 have hfull:=DZ hz hext fun k o hk=>by
  rw [Go.Sx.hide_get] at hk
  split at hk
  ·cases hg:lh[k]? with
   | none=>rw [hg] at hk; cases hk
   | some o'=>rw [hg] at hk; cases hk; exact .inl rfl
  ·rename_i hkX
   rcases hX k hkX with hc | hc
   ·right
    rw [hk] at hc
    cases o with
    | cells az ty=>exact ⟨az,ty,rfl⟩
    | _=>cases hc
   ·rw [List.getElem?_eq_none hc] at hk; cases hk
 generalize l1.drop (hide X lh).length=new at hfull
 subst hfull
 obtain ⟨g1,g2⟩:=aL.unhideG hrel hr hext
 exact ⟨v,r',m1,lh++new,he,hv,g2,g1,h6 r' new hx⟩
theorem T5 {P:Program} {f:FuncId} {e:Nat} {ty:TypeId} {C:ap} (h:(vL e ty C).Ok P f) (hL:∀ ds d p r,C ds=some (d,p,r)->d.1=d.2->p->okL e r/\∃ n f,r=.sl n f/\∀ i,i < n->(f i).all V.fc=true):(vN C).Ok P f:=by
 refine ⟨fun B m lh w args vs K hrel hargs ⟨ds,d,p,r,h1,h2,h3,h5,h6⟩=>?_,fun _ _ _ _ _ hk ⟨ds,d,p,r,h1,h2,h3,h4,h5⟩=>⟨ds,d,p,r,h1,h2,h3,h4,fun x new hx=>hk _ _ (h5 x new hx)⟩,fun w0 _ lh _ ⟨_,_,_,_,_,_,_,h4,h5⟩=>let ⟨x,new,hx⟩:=h4 w0 lh; h5 x new hx⟩
 obtain ⟨ho,n,f,rfl,hfc⟩:=hL _ _ _ _ h2 h3.1 h3.2
 have ho':=ho
 obtain ⟨n',f',hl,hmax,hel,_⟩:=ho'
 simp only [ke,Option.some.injEq,Prod.mk.injEq] at hl
 obtain ⟨rfl,rfl⟩:=hl
 refine h.sound B m lh w args vs K hrel hargs ⟨ds,d,p,_,n,f,h1,h2,h3,rfl,ho,fun x new hx=>?_⟩
 show K x (lh++new)
 refine h6 x new ?_
 simp only [vr]
 rcases hx with ⟨rfl,rfl⟩ | ⟨b,c,az,hb,hbl,rfl,hal,hnc,hall⟩
 ·exact ⟨none,0,e,rfl,Nat.le_refl _,hmax,trivial,fun i hi=>absurd hi (Nat.not_lt_zero _)⟩
 ·have hbl':(List.replicate lh.length af.dead++new)[b]? = some (.cells az ty):=by
   rw [List.getElem?_append_right (by simpa using hb)]
   rw [List.getElem?_append_right hb] at hbl
   simpa using hbl
  refine ⟨some (.l b 0),c,e,rfl,hnc,hmax,⟨az,ty,hbl',Nat.zero_le _⟩,fun i hi=>⟨.l b 0,bM (f i),rfl,?_,(cE (hel i hi).2 _).2 rfl,hfc i hi⟩⟩
  have hle:i * e+e<=az.length:=by rw [hal,← Nat.succ_mul]; exact Nat.mul_le_mul_right e (by omega)
  show lds B.w0 _ (.l b (0+i * e)) e=_
  rw [Nat.zero_add]
  simp only [lds,hbl']
  rw [if_pos hle,hall i hi]
theorem Ce {e n:Nat} {f:Nat->List V} (ho:okL e (.sl n f)) (hfc:∀ i,i < n->(f i).all V.fc=true):okN (.sl n f):=fun w0 lh=>by
 obtain ⟨n',f',hl,hmax,hel,_⟩:=ho
 simp only [ke,Option.some.injEq,Prod.mk.injEq] at hl
 obtain ⟨rfl,rfl⟩:=hl
 obtain ⟨h1,h2⟩:=sN (e:=e) (f:=f) (n:=n) fun i hi=>by rw [pZ]; exact (jb (hel i hi).1).1
 refine ⟨.slice (some (.l lh.length 0)) n n,[.cells ((List.range n).flatMap fun i=>bM (f i)) 0],?_⟩
 simp only [vr]
 have hbl':(List.replicate lh.length af.dead++[af.cells ((List.range n).flatMap fun i=>bM (f i)) 0])[lh.length]? = some (.cells ((List.range n).flatMap fun i=>bM (f i)) 0):=by
  rw [List.getElem?_append_right (by simp)]; simp
 refine ⟨some (.l lh.length 0),n,e,rfl,Nat.le_refl _,hmax,⟨_,0,hbl',Nat.zero_le _⟩,fun i hi=>⟨.l lh.length 0,bM (f i),rfl,?_,(cE (hel i hi).2 _).2 rfl,hfc i hi⟩⟩
 have hle:i * e+e<=n * e:=by rw [← Nat.succ_mul]; exact Nat.mul_le_mul_right e (by omega)
 show lds w0 _ (.l lh.length (0+i * e)) e=_
 rw [Nat.zero_add]
 simp only [lds,hbl']
 rw [if_pos (by rw [h1]; exact hle),h2 i hi]
theorem Ym {P:Program} {f:FuncId} {e:Nat} {ty:TypeId} {C:ap} (h:(vL e ty C).Ok P f) (hL:∀ ds d p r,C ds=some (d,p,r)->d.1=d.2->p->okL e r/\∃ n f,r=.sl n f/\∀ i,i < n->(f i).all V.fc=true):(vN C).Ok P f/\∀ ds d p r,C ds=some (d,p,r)->d.1=d.2->p->okN r :=
 ⟨T5 h hL,fun ds d p r h1 h2 h3=>by obtain ⟨ho,n,f,rfl,hfc⟩:=hL ds d p r h1 h2 h3; exact Ce ho hfc⟩
end Go.Dx
namespace Go.Dx
open Go.Sx
section
variable {J:Type}
def Pb (J:Type) (ct:aY) (un:Unr) (sf:ay) (ds:List V):T (ck J):=jz (jq ct LV) (i6 ct) un LV sf ds [] fun v h=>obs (jV h [v]) (.ret (.res (sqs (lk h v))))
theorem IN {P:Program} {eqs:List TypeId} {its:List eM} {ct:aY} {f:FuncId} {fn:Func} {sf:ay} {un:Unr} {ts:List Ty} {pre:List V->Prop} {r:List V->V} (hT:aQ P eqs its ct) (hE:∀ t ∈ eqs,bP P t) (hI:hU P eqs its) (hf:P.funcs[f]? = some fn)
 (hn : (fn.name == "runtime.NumGoroutine") = false) (hc : c7 P eqs its fn = some sf) (hd : dL sf.ntmps sf.body = true) (ho : d0 ts = true) (hg : ∀ ds, pre (ae ts ds) -> cP (r (ae ts ds)))
 (h:∀ w0 ds,pre (ae ts ds)->sat (bU w0 (SV ct)) (Pb J ct un sf (ae ts ds)) (ma (r (ae ts ds)))):(vZ (mkC ts pre r)).Ok P f:=by
 refine ⟨fun B m lh w args vs K hrel hargs hsp=>?_,fun _ _ _ _ _ hk ⟨ds,d,p,r,X,h1,h2,h3,h4,h5,h6⟩=>⟨ds,d,p,r,X,h1,h2,h3,h4,h5,fun x new hx=>hk _ _ (h6 x new hx)⟩,fun _ _ _ _ ⟨_,_,_,_,_,_,_,_,_,⟨x,new,hx⟩,h6⟩=>h6 x new hx⟩
 obtain ⟨ds,d,p,r',X,h1,hX,h2,⟨h30,h3⟩,h5,h6⟩:=hsp
 simp only [mkC,Option.some.injEq,Prod.mk.injEq] at h2
 obtain ⟨rfl,rfl,rfl⟩:=h2
 have hty:=(fM ts ds [] [] ho h30).1
 rw [(eh ts ds [] [] h30).1] at h3 h5 h6
 have key2:=Ou (C:=fun ds'=>some ((ds',ae ts ds),pre (ae ts ds),r (ae ts ds))) (P:=P) (f:=f) (un:=un) (K0:=fun v h=>obs (jV h [v]) (T.ret (ck.res (J:=J) (sqs (lk h v))))) (Q0:=ma (J:=J)) (fun w0 r v h hs=>⟨(nF hs).1,by have h2:=(nF hs).2; simp only [sat,ma] at h2; exact h2⟩) hT hE hI hf hn hc hd (fun ds' d' p' r' e he hp=>by
  simp only [Option.some.injEq,Prod.mk.injEq] at e
  obtain ⟨rfl,rfl,rfl⟩:=e
  exact hg ds hp) (fun w0 ds' d' p' r' e he hp=>by
  simp only [Option.some.injEq,Prod.mk.injEq] at e
  obtain ⟨rfl,rfl,rfl⟩:=e
  simp only at he
  subst he
  exact h w0 ds hp)
 exact key2.sound B m lh w args vs K hrel hargs ⟨ae ts ds,_,_,_,X,dt ts ds args hty h1,hX,rfl,⟨rfl,h3⟩,h5,h6⟩
theorem HJ {ts:List Ty} {pre:List V->Prop} {r:List V->V} (hL:∀ ds,aV ts ds->pre (ae ts ds)->∀ w0 lh args,vrs w0 lh Nu.nil (ae ts ds) args->∃ x new,vr w0 (lh++new) Nu.nil (r (ae ts ds)) x) (ho:d0 ts=true):∀ ds d p r',mkC ts pre r ds=some (d,p,r')->d.1=d.2->p->∀ w0 lh args,vrs w0 lh Nu.nil ds args->∃ x new,vr w0 (lh++new) Nu.nil r' x:=by
 intro ds d p r' h h1 h2 w0 lh args ha
 simp only [mkC,Option.some.injEq,Prod.mk.injEq] at h
 obtain ⟨rfl,rfl,rfl⟩:=h
 have hty:=(fM ts ds [] [] ho h1).1
 rw [(eh ts ds [] [] h1).1] at h2 ⊢
 exact hL ds hty h2 w0 lh args (dt ts ds args hty ha)
end
theorem Fg {w0:World} {lh:List af} {e n:Nat} {f:Nat->List V} (hn:n<=9223372036854775807) (hel:∀ i,i < n->okE e (f i)=true/\(bM (f i)).all aW=true/\(f i).all V.fc=true):∃ x new,vr w0 (lh++new) Nu.nil (.sl n f) x:=by
 obtain ⟨x,new,hx⟩:=Ce (e:=e) (n:=n) (f:=f) ⟨n,f,rfl,hn,fun i hi=>⟨(hel i hi).1,(hel i hi).2.1⟩,by simp [wB,bM]⟩ (fun i hi=>(hel i hi).2.2) w0 lh
 refine ⟨x,new,iN (fun k az ty hk=>?_) _ x hx⟩
 rw [List.getElem?_append] at hk
 split at hk
 ·rename_i hlt
  simp at hlt
  simp [hlt] at hk
 ·rename_i hge
  simp at hge
  rw [List.getElem?_append_right hge]
  simpa using hk
end Go.Dx
namespace Go.Dx
open Go.IntKind (i64 u64 u8)
open Go.Sx Go.Proofs
noncomputable section
def qI:aY:=(226,.con Bl)::(225,.con LX)::(165,.con EZ)::lN
theorem y9:aQ Tryz.prog eqs its qI:=.con Eh (.con F9 (.con yaH (kt)))
inductive oK where
 | L0 (i_100:Int) (n_101:Nat) (f_102:Nat->List V)
def J9 (n0:Nat) (f0:FnV) (x2:Int):oK->Env × List O × Option Ex
 | .L0 i_100 n_101 f_102=>([(9,vi i_100),(8,vi (↑n0:Int)),(7,V.sl n0 (elV tp1 f0)),(4,V.gs 0 n_101),(1,V.pd [vi x2])],[O.gl 1 n_101 (elV tp1 f_102) 3],none)
def Rc:oK->JJ
 | .L0 i_100 n_101 f_102=>(0,[])
def uy (n0:Nat) (f0:FnV) (x2:Int) (cx:List Cx):Lp JJ:=lpT (atT (zW JJ 1 3 qI u0 NS [V.sl n0 (elV tp1 f0),V.pd [vi x2]]) [])
def Se (n0:Nat) (f0:FnV) (x2:Int):JJ->Lp JJ
 | (0,cx)=>uy n0 f0 x2 cx
 | (_,cx)=>uy n0 f0 x2 cx
def UO (n0:Nat) (f0:FnV) (x2:Int):LD JJ oK:=⟨Rc,Se n0 f0 x2,J9 n0 f0 x2⟩
def tM (n0:Nat) (f0:FnV) (x2:Int):oK->RT oK
 | .L0 i_100 n_101 f_102=>.br (decide (i_100 < (↑n0:Int))) (.ob (decide (0<=i_100/\i_100 < (↑n0:Int))) (.obt (.ob (decide (n_101<=n_101/\(n_101+1) * 8<=140737488355328) && !Nat.beq 8 0) (.next [some (some 2)] (oK.L0 (i64.wrap (i_100+1)) (n_101+1) (bf n_101 (elV tp1 f_102) fun x=>[vi (i64.wrap (jv0 (f0 i_100.toNat) * x2))])) [⟨0,tp1,n_101+1,bf n_101 (elV tp1 f_102) fun x=>[vi (i64.wrap (jv0 (f0 i_100.toNat) * x2))],JH (bZ rfl _ _) (BL rfl _ rfl)⟩])))) (.ob (decide (n_101<=n_101)) (.ret (V.sl n_101 (elV tp1 f_102))))
def BM (n0:Nat) (f0:FnV) (x2:Int):RT oK:=.asm (true=true->n0<=9223372036854775807) (.enter [some none] (oK.L0 (0) (0) (fun i=>[])) [])
theorem Jn (n0:Nat) (f0:FnV) (x2:Int):dw qI u0 (UO n0 f0 x2) (zW JJ 1 3 qI u0 NS [V.sl n0 (elV tp1 f0),V.pd [vi x2]]) (BM n0 f0 x2) (tM n0 f0 x2):=⟨⟨by kernel_rfl,by kernel_rfl⟩,fun s=>match s with | .L0 i_100 n_101 f_102=>⟨by kernel_rfl,by kernel_rfl⟩⟩
def jP (f0:FnV) (h:Int):Nat->List V:=fun i=>[V.int .i64 (i64.wrap (jv0 (f0 i) * h))]
theorem I8 {n:Nat} {f g:Nat->List V} (h:∀ i,i < n->bM (f i)=bM (g i)):toA (.sl n f)=toA (.sl n g):=by
 simp only [toA]
 congr 1
 exact List.map_congr_left fun i hi=>by rw [h i (List.mem_range.1 hi)]
theorem Kq {ts:List Ty} {pre:List V->Prop} {r:List V->V} {Q:V->Prop} (hL:∀ ds,pre (ae ts ds)->Q (r (ae ts ds))):∀ ds d p r',mkC ts pre r ds=some (d,p,r')->d.1=d.2->p->Q r':=by
 intro ds d p r' h h1 h2
 simp only [mkC,Option.some.injEq,Prod.mk.injEq] at h
 obtain ⟨rfl,rfl,rfl⟩:=h
 rw [(eh ts ds [] [] h1).1] at h2 ⊢
 exact hL ds h2
theorem UX {a b:Nat} (h:a < b):Nat.blt a b=true:=Nat.ble_eq_true_of_le h
theorem Vq {a b:Nat} (h:b<=a):Nat.blt a b=false:=by
 cases hb:Nat.blt a b with
 | false=>rfl
 | true=>have:=Nat.le_of_ble_eq_true hb; omega
theorem TN (n0:Nat) (f0:FnV) (x2:Int) (h24:n0<=1000):∀ k,k<=n0->∀ f:Nat->List V,(∀ j,j < k->ae tp1 (f j)=jP f0 x2 j)->Ev (tM n0 f0 x2) (.L0 (k:Int) k f) (.sl n0 (elV tp1 (jP f0 x2))):=by
 refine dF fun k hk ih f hf=>?_
 refine Ev.of rfl ?_
 by_cases hlt:k < n0
 ·have hk1:i64.wrap ((k:Int)+1)=((k+1:Nat):Int):=by rw [bb (by omega) (by omega)]; omega
  refine j6 (dqt (by omega)) (aH (dqt (by omega)) (ac (aH ?_ (aR ?_))))
  ·simp only [Bool.and_eq_true]; exact ⟨dqt ⟨Nat.le_refl _,by omega⟩,rfl⟩
  ·rw [hk1,Int.toNat_natCast]
   refine ih hlt _ fun j hj=>?_
   unfold bf
   by_cases hjk:j < k
   ·rw [UX hjk]; show ae _ (ae _ (f j))=_; rw [dP]; exact hf j hjk
   ·have:j=k:=by omega
    subst this
    rw [Vq (Nat.le_refl _)]; rfl
 ·have e:k=n0:=by omega
  subst e
  refine oo (dqf (by omega)) (aH (dqt (Nat.le_refl _)) (ah ?_))
  exact I8 fun i hi=>by show bM (ae _ (f i))=bM (ae _ (jP f0 x2 i)); rw [hf i hi]; rfl
theorem C2 (n0:Nat) (f0:FnV) (x2:Int) (hp:n0<=1000):evR (Ev (tM n0 f0 x2)) (BM n0 f0 x2) (.sl n0 (elV tp1 (jP f0 x2))):=yab fun _=>aD (TN n0 f0 x2 hp 0 (Nat.zero_le _) _ fun j hj=>absurd hj (Nat.not_lt_zero _))
theorem QV (n0:Nat) (f0:FnV) (x2:Int) (hp:n0<=1000):evR (Ev (tM n0 f0 x2)) (BM n0 f0 x2) (.sl n0 (elV tp1 (jP (elV tp1 f0) x2))):=C2 n0 f0 x2 hp
def I6:List Ty:=[.sl tp1,.pd tp1]
def VO:List V->Prop
 | [.sl n0 _,.pd [.int _ _]]=>n0<=1000
 | _=>False
def TP:List V->V
 | [.sl n0 f0,.pd [.int _ x2]]=>.sl n0 (elV tp1 (jP f0 x2))
 | _=>.any
def vz:ap:=mkC I6 VO TP
theorem pM (f:Nat->List V) (h:Int) (i:Nat):okE 1 (elV tp1 (jP f h) i)=true/\(bM (elV tp1 (jP f h) i)).all aW=true/\(elV tp1 (jP f h) i).all V.fc=true:=by
 refine ⟨rfl,?_,rfl⟩
 show (bM [vi _]).all aW=true
 simp only [bM,toA,List.all_cons,aW,List.all_nil,Bool.and_self]
theorem yb:∀ ds d p r,vz ds=some (d,p,r)->d.1=d.2->p->okL 1 r/\∃ n f,r=.sl n f/\∀ i,i < n->(f i).all V.fc=true:=Kq (Q:=fun r=>okL 1 r/\∃ n f,r=.sl n f/\∀ i,i < n->(f i).all V.fc=true) fun ds hp=>by
 have hp:am (hdV ds)<=1000:=hp
 exact ⟨⟨_,_,rfl,(by omega:am (hdV ds)<=9223372036854775807),fun i hi=>⟨(pM _ _ i).1,(pM _ _ i).2.1⟩,(by simp only [bM,List.all_nil]:(bM []).all aW=true)⟩,_,_,rfl,fun i hi=>(pM _ _ i).2.2⟩
theorem Ai:(vL 1 3 vz).Ok Tryz.prog 166:=Zc y9 Tryz.func166 (by kernel_rfl) fun ds hp=>rfs (Jn ..) (QV _ _ _ hp)
theorem OR:(vN vz).Ok Tryz.prog 166:=T5 Ai yb
theorem G5:∀ ds d p r,vz ds=some (d,p,r)->d.1=d.2->p->okN r:=(Ym Ai yb).2
end
noncomputable section
def Gt:aY:=(166,.conN vz G5)::qI
theorem JL:aQ Tryz.prog eqs its Gt:=.conN OR (y9)
def MD (s0:ByteArray) (n1:Nat) (f1:FnV) (n3:Nat) (f3:FnV) (n5:Nat) (f5:FnV) (x7 x8 x9:Int):RT Empty:=.obp (n1<=(1000:Nat)) (.obp (n3<=(1000:Nat)) (.ret (V.agg [V.str s0,V.sl n1 (elV tp1 f1),V.sl n3 (elV tp1 f3),V.sl n5 (elV [Ty.sl tp1] f5),vi x7,vi x8,V.sl n1 (elV tp1 (jP (elV tp1 f1) x9)),V.sl n3 (elV tp1 (jP (elV tp1 f3) x9)),vi x9])))
theorem Jv (s0:ByteArray) (n1:Nat) (f1:FnV) (n3:Nat) (f3:FnV) (n5:Nat) (f5:FnV) (x7 x8 x9:Int):Fit noD (Pb JJ Gt u0 Wn [V.agg [V.str s0,V.sl n1 (elV tp1 f1),V.sl n3 (elV tp1 f3),V.sl n5 (elV [Ty.sl tp1] f5),vi x7,vi x8],vi x9]) (MD s0 n1 f1 n3 f3 n5 f5 x7 x8 x9):=⟨by kernel_rfl,by kernel_rfl⟩
theorem Ya {ct:aY} {f:FuncId} {fn:Func} {sf:ay} {un:Unr} {ts:List Ty} {pre:List V->Prop} {r:List V->V} (hT:aQ Tryz.prog eqs its ct) (hf:Tryz.prog.funcs[f]? = some fn) (hk:fnQ fn sf ts=(false,some sf,true,true)) (hg:∀ ds,pre (ae ts ds)->cP (r (ae ts ds))) (h:∀ ds,pre (ae ts ds)->Run ct (Pb JJ ct un sf (ae ts ds)) (r (ae ts ds))):(vZ (mkC ts pre r)).Ok Tryz.prog f :=
 IN (J:=JJ) (un:=un) hT hE hI hf (ek hk).1 (ek hk).2.1 (ek hk).2.2.1 (ek hk).2.2.2 hg fun w0 ds hp=>h ds hp hT.dst w0
def s9:List Ty:=[.agg [.str,.sl tp1,.sl tp1,.sl [.sl tp1],.int .i64,.int .i64],.int .i64]
def La:List V->Prop
 | [.agg [.str _,.sl n1 _,.sl n3 _,.sl _ _,.int _ _,.int _ _],.int _ _]=>n1<=1000/\n3<=1000
 | _=>False
def yaE:List V->V
 | [.agg [.str s0,.sl n1 f1,.sl n3 f3,.sl n5 f5,.int k7 x7,.int k8 x8],.int _ x9]=>.agg [.str s0,.sl n1 f1,.sl n3 f3,.sl n5 f5,.int k7 x7,.int k8 x8,.sl n1 (elV tp1 (jP f1 x9)),.sl n3 (elV tp1 (jP f3 x9)),.int .i64 x9]
 | _=>.any
def Ld:ap:=mkC s9 La yaE
theorem Sa (s0:ByteArray) (n1:Nat) (f1:FnV) (n3:Nat) (f3:FnV) (n5:Nat) (f5:FnV) (x7 x8 x9:Int) (hp:n1<=1000/\n3<=1000):evR noE (MD s0 n1 f1 n3 f3 n5 f5 x7 x8 x9) (.agg [V.str s0,V.sl n1 (elV tp1 f1),V.sl n3 (elV tp1 f3),V.sl n5 (elV [Ty.sl tp1] f5),vi x7,vi x8,V.sl n1 (elV tp1 (jP (elV tp1 f1) x9)),V.sl n3 (elV tp1 (jP (elV tp1 f3) x9)),vi x9]):=aO hp.1 (aO hp.2 (ah rfl))
theorem kn (vs:List V):eF (ae tp1 vs):=by
 show eF [V.int _ _]
 simp only [eF,cP,and_self]
theorem AL (vs:List V):eF (ae [Ty.sl tp1] vs):=by
 show eF [V.sl (am (hdV vs)) (elV tp1 (atV (hdV vs)))]
 simp only [eF,cP,and_true]
 exact fun i hi=>kn _
theorem Cy (ds:List V):cP (yaE (ae s9 ds)):=by
 show cP (.agg [V.str _,V.sl _ (elV tp1 _),V.sl _ (elV tp1 _),V.sl _ (elV [Ty.sl tp1] _),V.int _ _,V.int _ _,V.sl _ (elV tp1 _),V.sl _ (elV tp1 _),V.int _ _])
 simp only [cP,eF,true_and,and_true]
 exact ⟨fun i hi=>kn _,fun i hi=>kn _,fun i hi=>AL _,fun i hi=>kn _,fun i hi=>kn _⟩
theorem KC:∀ ds d p r,Ld ds=some (d,p,r)->d.1=d.2->p->∀ w0 lh args,vrs w0 lh Nu.nil ds args->∃ x new,vr w0 (lh++new) Nu.nil r x:=HJ (fun ds hty hp w0 lh args ha=>by
 have hp:am (hdV (tlV (cy (hdV ds))))<=1000/\am (hdV (tlV (tlV (cy (hdV ds)))))<=1000:=hp
 change vrs w0 lh Nu.nil [V.agg [V.str _,V.sl _ _,V.sl _ _,V.sl _ _,V.int _ _,V.int _ _],V.int _ _] args at ha
 simp only [vrs] at ha
 obtain ⟨a,as1,rfl,h1,b,bs,rfl,h2,rfl⟩:=ha
 rw [vr.eq_5] at h1
 obtain ⟨cs,rfl,h1⟩:=h1
 simp only [vrs] at h1
 obtain ⟨c0,_,rfl,g0,c1,_,rfl,g1,c2,_,rfl,g2,c3,_,rfl,g3,c4,_,rfl,g4,c5,_,rfl,g5,rfl⟩:=h1
 obtain ⟨x6,new6,g6⟩:=Fg (w0:=w0) (lh:=lh) (e:=1) (n:=am (hdV (tlV (cy (hdV ds))))) (f:=elV tp1 (jP (elV tp1 (atV (hdV (tlV (cy (hdV ds)))))) (jv1 ds))) (by omega) fun i hi=>pM _ _ i
 obtain ⟨x7,new7,g7⟩:=Fg (w0:=w0) (lh:=lh++new6) (e:=1) (n:=am (hdV (tlV (tlV (cy (hdV ds)))))) (f:=elV tp1 (jP (elV tp1 (atV (hdV (tlV (tlV (cy (hdV ds))))))) (jv1 ds))) (by omega) fun i hi=>pM _ _ i
 have z:∀ (l t:List af),zle l (l++t):=fun l t k as1 ty hk=>by rw [List.getElem?_append_left (List.getElem?_eq_some_iff.1 hk).1]; exact hk
 have up:∀ v a,vr w0 lh Nu.nil v a->vr w0 (lh++(new6++new7)) Nu.nil v a:=fun v a h=>iN (z _ _) v a h
 refine ⟨.agg [c0,c1,c2,c3,c4,c5,x6,x7,.int .i64 (jv1 ds)],new6++new7,?_⟩
 show vr w0 _ Nu.nil (.agg [V.str _,V.sl _ _,V.sl _ _,V.sl _ _,V.int _ _,V.int _ _,V.sl _ _,V.sl _ _,V.int _ _]) _
 rw [vr.eq_5]
 simp only [vrs]
 refine ⟨_,rfl,_,_,rfl,up _ _ g0,_,_,rfl,up _ _ g1,_,_,rfl,up _ _ g2,_,_,rfl,up _ _ g3,_,_,rfl,up _ _ g4,_,_,rfl,up _ _ g5,_,_,rfl,?_,_,_,rfl,?_,_,_,rfl,?_,rfl⟩
 ·rw [← List.append_assoc]; exact iN (z _ _) _ _ g6
 ·rw [← List.append_assoc]; exact g7
 ·simp only [vr]) rfl
theorem Sc:(vZ Ld).Ok Tryz.prog 89:=Ya JL Tryz.func89 (by kernel_rfl) (fun ds _=>Cy ds) fun ds hp=>rf0 (Jv ..) (Sa _ _ _ _ _ _ _ _ _ _ hp)
end
noncomputable section
def X1 (ts:List Ty) (raw:List V) (r:V):ap:=mkC ts (fun ds=>ds=iq ts (ae ts raw)) fun _=>r
theorem aG {P:Program} {eqs:List TypeId} {its:List eM} {ct:aY} {f:FuncId} {fn:Func} {sf:ay} {un:Unr} {ts:List Ty} {raw:List V} {r:V} (hT:aQ P eqs its ct) (hE:∀ t ∈ eqs,bP P t) (hI:hU P eqs its) (hf:P.funcs[f]? = some fn)
 (hn : (fn.name == "runtime.NumGoroutine") = false) (hc : c7 P eqs its fn = some sf) (hd : dL sf.ntmps sf.body = true) (ho : d0 ts = true)
 (h:yai r (aN JJ ct un sf (iq ts (ae ts raw)))=aN JJ ct un sf (iq ts (ae ts raw))):(vP (atC [(ae ts raw,r)])).Ok P f :=
 s7 (C:=X1 ts raw r) (wR (J:=JJ) (un:=un) hT hE hI hf hn hc hd ho fun w0 ds hp=>by rw [hp]; exact vX h) _ (HK (at1 rfl rfl) Hi)
theorem rz {ts:List Ty} {pre:List V->Prop} {preB:List V->Bool} {r:List V->V} (h:∀ ds,preB ds=true->pre ds) {ds:List V} {d p r'} (hc:m7 ts preB r ds=some (d,p,r')):∃ q,mkC ts pre r ds=some (d,q,r')/\q:=by
 unfold m7 at hc
 cases hb:preB (iq ts ds) with
 | false=>rw [hb] at hc; cases hc
 | true =>
   rw [hb] at hc
   simp only [cond_true,Option.some.injEq,Prod.mk.injEq] at hc
   obtain ⟨rfl,rfl,rfl⟩:=hc
   exact ⟨_,rfl,h _ hb⟩
theorem Fi {P:Program} {f:FuncId} {ts:List Ty} {pre:List V->Prop} {preB:List V->Bool} {r:List V->V} (h:∀ ds,preB ds=true->pre ds) (hO:(vZ (mkC ts pre r)).Ok P f):(vZ (m7 ts preB r)).Ok P f:=by
 refine ⟨fun B m lh w args vs K hrel hargs ⟨ds,d,p,r',X,h1,hX,h2,h3,h5,h6⟩=>?_,fun _ _ _ _ _ hk ⟨ds,d,p,r,X,h1,h2,h3,h4,h5,h6⟩=>⟨ds,d,p,r,X,h1,h2,h3,h4,h5,fun x new hx=>hk _ _ (h6 x new hx)⟩,fun _ _ _ _ ⟨_,_,_,_,_,_,_,_,_,⟨x,new,hx⟩,h6⟩=>h6 x new hx⟩
 obtain ⟨q,e,hq⟩:=rz h h2
 exact hO.sound B m lh w args vs K hrel hargs ⟨ds,d,q,r',X,h1,hX,e,⟨h3.1,hq⟩,h5,h6⟩
def xl:List V->Bool
 | [.agg [.str _,.sl n1 _,.sl n3 _,.sl _ _,.int _ _,.int _ _],.int _ _]=>Nat.ble n1 1000 && Nat.ble n3 1000
 | _=>false
theorem rq (ds:List V) (h:xl ds=true):La ds:=by
 unfold xl at h
 split at h
 ·simp only [Bool.and_eq_true] at h
  exact ⟨Nat.le_of_ble_eq_true h.1,Nat.le_of_ble_eq_true h.2⟩
 ·cases h
def xd:ap:=m7 s9 xl yaE
theorem HV:(vZ xd).Ok Tryz.prog 89:=Fi rq Sc
theorem Du:∀ ds d p r,xd ds=some (d,p,r)->d.1=d.2->p->∀ w0 lh args,vrs w0 lh Nu.nil ds args->∃ x new,vr w0 (lh++new) Nu.nil r x:=fun ds d p r h h1 _=>by
 obtain ⟨q,e,hq⟩:=rz rq h
 exact KC ds d q r e h1 hq
def cL (A B:ap):ap:=orC (fun ds=>(A ds).isSome) A B
theorem aU {P:Program} {f:FuncId} {A B:ap} (hA:(vP A).Ok P f) (hB:(vP B).Ok P f):(vP (cL A B)).Ok P f:=xk _ _ _ hA hB
end
end Go.Dx
