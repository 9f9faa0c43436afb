/- Part 5 of a proof. No conditions. -/
import Derived.Test.YtibmdlbnkaihjaaGreatDoorLv4
set_option maxRecDepth 100000
set_option linter.unusedVariables false
set_option linter.unusedSimpArgs false
namespace Go.Dx
open Go.IntKind (i64 u64 u8)
open Go.Sx Go.Proofs
noncomputable section
def Mv:bd:=(164,.con Jk)::abZ
theorem Dn:aR Tryz.prog eqs its Mv:=.con Ow (ZJ)
def Ye (n0:Nat) (f0:ah) (s2:ByteArray) (n3:Nat) (f3:ah) (n5:Nat) (f5:ah) (n7:Nat) (f7:ah) (x9 x10:Int):RT Empty:=.asm (true=true->n0<=9223372036854775807) (.asm (true=true->n5<=9223372036854775807) (.ret (V.bool ((↑n0:Int) != (↑n5:Int)))))
theorem VM (n0:Nat) (f0:ah) (s2:ByteArray) (n3:Nat) (f3:ah) (n5:Nat) (f5:ah) (n7:Nat) (f7:ah) (x9 x10:Int):dh dm (aS JJ Mv u0 afy [V.sl n0 (aa ae f0),V.pd [V.str s2,V.sl n3 (aa ae f3),V.sl n5 (aa ae f5),V.sl n7 (aa [Ty.sl ae] f7),vi x9,vi x10]]) (Ye n0 f0 s2 n3 f3 n5 f5 n7 f7 x9 x10):=⟨by kernel_rfl,by kernel_rfl⟩
def sR (n0 n5:Nat):Bool:=(↑n0:Int) != (↑n5:Int)
def Iw (n0:Nat) (f0:ah) (s2:ByteArray) (n3:Nat) (f3:ah) (n5:Nat) (f5:ah) (n7:Nat) (f7:ah) (x9 x10:Int):V:=.bool (sR n0 n5)
theorem ad2 (n0:Nat) (f0:ah) (s2:ByteArray) (n3:Nat) (f3:ah) (n5:Nat) (f5:ah) (n7:Nat) (f7:ah) (x9 x10:Int):aN cr (Ye n0 f0 s2 n3 f3 n5 f5 n7 f7 x9 x10) (Iw n0 f0 s2 n3 f3 n5 f5 n7 f7 x9 x10):=evAsm (fun a0=>evAsm (fun a0=>evRet (by unfold Iw sR; rfl)))
def E0:aB:=bI [.sl ae,.pd al] (fun _=>True) fun
 | [.sl n0 f0,.pd [.str s2,.sl n3 f3,.sl n5 f5,.sl n7 f7,.int _ x9,.int _ x10]]=>Iw n0 f0 s2 n3 f3 n5 f5 n7 f7 x9 x10
 | _=>.any
theorem CL:(vP E0).Ok Tryz.prog 198:=bY Dn Tryz.func198 (by kernel_rfl) fun ds hp=>dG (VM ..) (ad2 _ _ _ _ _ _ _ _ _ _ _)
section
variable (n0:Nat) (f0:ah)
include n0 f0
def YJ:RT Empty:=.obc (.obt (.ret (V.bool !dq n0 (aa ae f0) 0 10000000)))
theorem T8:dh dm (aS JJ Mv u0 agW [V.sl n0 (aa ae f0)]) (YJ n0 f0):=⟨by kernel_rfl,by kernel_rfl⟩
def gP:Bool:=!dq n0 (aa ae f0) 0 10000000
def Pm:V:=.bool (gP n0 f0)
theorem abb:aN cr (YJ n0 f0) (Pm n0 f0):=av (af (evRet (by unfold Pm gP; rfl)))
end
def Ez:aB:=bI [.sl ae] (fun _=>True) fun
 | [.sl n0 f0]=>Pm n0 f0
 | _=>.any
theorem Cc:(vP Ez).Ok Tryz.prog 199:=bY Dn Tryz.func199 (by kernel_rfl) fun ds hp=>dG (T8 ..) (abb _ _)
def H8:bd:=(248,.inl aiP u0)::(201,.inl ahq u0)::(198,.con E0)::(199,.con Ez)::Mv
theorem aiN:aR Tryz.prog eqs its H8:=fU Tryz.func248 (by kernel_rfl) (fU Tryz.func201 (by kernel_rfl) (.con CL (.con Cc (Dn))))
inductive lE where
 | L0 (ia0:Int)
 | L2 (ic0 ic1:Int)
 | L3 (id0 id1:Int)
def xA (s0:ByteArray) (n1:Nat) (f1:ah) (n3:Nat) (f3:ah) (n5:Nat) (f5:ah) (x7 x8:Int):lE->bp × List O × Option Ex
 | .L0 ia0=>([(8,vi ia0),(7,vi (↑n5:Int)),(0,V.sl n5 (aa [Ty.sl ae] f5)),(1,V.fn 198 [] [V.pl 0 0])],[O.cells [V.str s0,V.sl n1 (aa ae f1),V.sl n3 (aa ae f3),V.sl n5 (aa [Ty.sl ae] f5),vi x7,vi x8] 126],none)
 | .L2 ic0 ic1=>([(8,vi ic0),(7,vi (↑n5:Int)),(0,V.sl n5 (aa [Ty.sl ae] f5)),(1,V.fn 199 [] [])],[O.cells [V.str s0,V.sl n1 (aa ae f1),V.sl n3 (aa ae f3),V.sl n5 (aa [Ty.sl ae] f5),vi x7,vi x8] 126],none)
 | .L3 id0 id1=>([(8,vi id0),(7,vi (↑n5:Int)),(0,V.sl n5 (aa [Ty.sl ae] f5)),(1,V.fn 199 [] [])],[O.cells [V.str s0,V.sl n1 (aa ae f1),V.sl n3 (aa ae f3),V.sl n5 (aa [Ty.sl ae] f5),vi x7,vi x8] 126],none)
def aaj:lE->JJ
 | .L0 ia0=>(0,[])
 | .L2 ic0 ic1=>(2,[Cx.i ic1])
 | .L3 id0 id1=>(3,[Cx.i id1])
section
variable (s0:ByteArray) (n1:Nat) (f1:ah) (n3:Nat) (f3:ah) (n5:Nat) (f5:ah) (x7 x8:Int)
include s0 n1 f1 n3 f3 n5 f5 x7 x8
def NM:T (bN JJ):=aS JJ H8 u0 ahe [V.agg [V.str s0,V.sl n1 (aa ae f1),V.sl n3 (aa ae f3),V.sl n5 (aa [Ty.sl ae] f5),vi x7,vi x8]]
def qf (cx:List Cx):Lp JJ:=fb (eL (NM s0 n1 f1 n3 f3 n5 f5 x7 x8) [true,false,true,false,true,false,true])
def Mm (cx:List Cx):Lp JJ:=fb (eL (u4 H8 u0 (0,[]) (qf s0 n1 f1 n3 f3 n5 f5 x7 x8 []) (xA s0 n1 f1 n3 f3 n5 f5 x7 x8 (.L0 (Jg cx 0)))) [true,true,false])
def NA (cx:List Cx):Lp JJ:=fb (eL (u4 H8 u0 (0,[]) (qf s0 n1 f1 n3 f3 n5 f5 x7 x8 []) (xA s0 n1 f1 n3 f3 n5 f5 x7 x8 (.L0 (Jg cx 0)))) [false,false])
def aar:JJ->Lp JJ
 | (0,cx)=>qf s0 n1 f1 n3 f3 n5 f5 x7 x8 cx
 | (2,cx)=>Mm s0 n1 f1 n3 f3 n5 f5 x7 x8 cx
 | (3,cx)=>NA s0 n1 f1 n3 f3 n5 f5 x7 x8 cx
 | (_,cx)=>qf s0 n1 f1 n3 f3 n5 f5 x7 x8 cx
def ah0:LD JJ lE:=⟨aaj,aar s0 n1 f1 n3 f3 n5 f5 x7 x8,xA s0 n1 f1 n3 f3 n5 f5 x7 x8⟩
end
def oH (s0:ByteArray) (n1:Nat) (f1:ah) (n3:Nat) (f3:ah) (n5:Nat) (f5:ah) (x7 x8:Int):lE->RT lE
 | .L0 ia0=>.br (decide (ia0 < (↑n5:Int))) (.ob (decide (0<=ia0/\ia0 < (↑n5:Int))) (.obc (.obt (.br (sR (au (hdV (f5 ia0.toNat))) n3) (.br (decide (0<=ia0)) (.ret (vi 6)) (.asm (true=true->n5<=9223372036854775807) (.enter [some (some 0)] (lE.L2 (0) (ia0)) []))) (.next [some (some 0)] (lE.L0 (i64.wrap (ia0+1))) []))))) (.brf (.asm (true=true->n5<=9223372036854775807) (.enter [some (some 0)] (lE.L3 (0) (ia0)) [])))
 | .L2 ic0 ic1=>.br (decide (ic0 < (↑n5:Int))) (.ob (decide (0<=ic0/\ic0 < (↑n5:Int))) (.obc (.obt (.br (gP (au (hdV (f5 ic0.toNat))) fun i=>ao ae (bj (hdV (f5 ic0.toNat)) i)) (.obi (.obi (.br (!decide (0<=ic0)) (.ob (!decide (0<=ic0)) (.ob (!decide (0<=ic0)) (.ob (!decide (0<=ic0)) (.obc (.obt (.br (gP 2 (aa ae (bQ [vi x7,vi x8] 0 1))) (.ret (vi 7)) (.ret (vi 0)))))))) (.ret (vi 7))))) (.next [some (some 0)] (lE.L2 (i64.wrap (ic0+1)) (ic1)) []))))) (.obt (.obt (.brt (.obt (.obt (.obt (.obc (.obt (.br (gP 2 (aa ae (bQ [vi x7,vi x8] 0 1))) (.ret (vi 7)) (.ret (vi 0)))))))))))
 | .L3 id0 id1=>.br (decide (id0 < (↑n5:Int))) (.ob (decide (0<=id0/\id0 < (↑n5:Int))) (.obc (.obt (.br (gP (au (hdV (f5 id0.toNat))) fun i=>ao ae (bj (hdV (f5 id0.toNat)) i)) (.obi (.obi (.br (!decide (0<=id0)) (.ob (!decide (0<=id0)) (.ob (!decide (0<=id0)) (.ob (!decide (0<=id0)) (.obc (.obt (.br (gP 2 (aa ae (bQ [vi x7,vi x8] 0 1))) (.ret (vi 7)) (.ret (vi 0)))))))) (.ret (vi 7))))) (.next [some (some 0)] (lE.L3 (i64.wrap (id0+1)) (id1)) []))))) (.obt (.obt (.brt (.obt (.obt (.obt (.obc (.obt (.br (gP 2 (aa ae (bQ [vi x7,vi x8] 0 1))) (.ret (vi 7)) (.ret (vi 0)))))))))))
def Qc (s0:ByteArray) (n1:Nat) (f1:ah) (n3:Nat) (f3:ah) (n5:Nat) (f5:ah) (x7 x8:Int):RT lE:=.asm (true=true->n1<=9223372036854775807) (.obc (.obt (.obi (.obi (.asm ((!!ar (↑n1:Int) 2 12)=true->n3<=9223372036854775807) (.br (!!ar (↑n1:Int) 2 12) (.ob (!!ar (↑n1:Int) 2 12) (.obc (.obt (.br (!ar (↑n3:Int) 2 12) (.ret (vi 3)) (.obc (.obt (.obi (.br (!!dq n1 (aa ae f1) (-5000) 5000) (.ob (!!dq n1 (aa ae f1) (-5000) 5000) (.obc (.obt (.br (!dq n3 (aa ae f3) (-5000) 5000) (.ret (vi 7)) (.obc (.obt (.obi (.br (!!dZ n1 (aa ae f1)) (.ob (!!dZ n1 (aa ae f1)) (.obc (.obt (.br (!dZ n3 (aa ae f3)) (.ret (vi 2)) (.asm (true=true->n5<=9223372036854775807) (.asm (true=true->n1<=9223372036854775807) (.obi (.br (!(↑n5:Int) != (↑n1:Int)) (.ob (!(↑n5:Int) != (↑n1:Int)) (.ob (!(↑n5:Int) != (↑n1:Int)) (.asm (true=true->n5<=9223372036854775807) (.enter [some (some 0)] (lE.L0 (0)) [])))) (.ret (vi 6)))))))))) (.ret (vi 2)))))))))) (.ret (vi 7)))))))))) (.ret (vi 3))))))))
theorem UE (s0:ByteArray) (n1:Nat) (f1:ah) (n3:Nat) (f3:ah) (n5:Nat) (f5:ah) (x7 x8:Int):dR H8 u0 (ah0 s0 n1 f1 n3 f3 n5 f5 x7 x8) (NM s0 n1 f1 n3 f3 n5 f5 x7 x8) (Qc s0 n1 f1 n3 f3 n5 f5 x7 x8) (oH s0 n1 f1 n3 f3 n5 f5 x7 x8):=⟨⟨by kernel_rfl,by kernel_rfl⟩,fun s=>by cases s <;> exact ⟨by kernel_rfl,by kernel_rfl⟩⟩
def sho (n3:Nat) (f5:ah) (i:Nat):Bool:=sR (au (hdV (f5 i))) n3
def wil (f5:ah) (i:Nat):Bool:=gP (au (hdV (f5 i))) fun j=>ao ae (bj (hdV (f5 i)) j)
def Up (x7 x8:Int):Bool:=gP 2 (aa ae (bQ [vi x7,vi x8] 0 1))
def pb (n5:Nat) (f5:ah) (x7 x8:Int):Int:=bif jD n5 (wil f5) then 7 else bif Up x7 x8 then 7 else 0
def lS (n1:Nat) (f1:ah) (n3:Nat) (f3:ah) (n5:Nat) (f5:ah) (x7 x8:Int):Int :=
 bif !(ar (n1:Int) 2 12 && ar (n3:Int) 2 12) then 3 else bif !(dq n1 f1 (-5000) 5000 && dq n3 f3 (-5000) 5000) then 7 else bif !(dZ n1 f1 && dZ n3 f3) then 2 else bif (n5:Int) != (n1:Int) then 6 else bif jD n5 (sho n3 f5) then 6 else pb n5 f5 x7 x8
theorem ev2 {S:Type} {Nx:S->V->Prop} {c d:Bool} {v r:V} {X:RT S} (h1:(c && d)=false->cn v=cn r) (h2:(c && d)=true->aN Nx X r):aN Nx (.br (!!c) (.ob (!!c) (.obc (.obt (.br (!d) (.ret v) X)))) (.ret v)) r:=by
 cases c <;> cases d
 ·exact evBr (fun h=>by cases h) (fun _=>evRet (h1 rfl))
 ·exact evBr (fun h=>by cases h) (fun _=>evRet (h1 rfl))
 ·exact evBr (fun h=>aM h (av (af (evBr (fun _=>evRet (h1 rfl)) (fun k=>by cases k))))) (fun k=>by cases k)
 ·exact evBr (fun h=>aM h (av (af (evBr (fun k=>by cases k) (fun _=>h2 rfl))))) (fun k=>by cases k)
section
variable (s0:ByteArray) (n1:Nat) (f1:ah) (n3:Nat) (f3:ah) (n5:Nat) (f5:ah) (x7 x8:Int)
include s0 n1 f1 n3 f3 n5 f5 x7 x8
theorem U5 (hn:n5<=9223372036854775807) (t:Int):Ev (oH s0 n1 f1 n3 f3 n5 f5 x7 x8) (.L3 0 t) (.int .i64 (pb n5 f5 x7 x8)):=by
 refine iy hn (wil f5) (P:=fun x=>Ev (oH s0 n1 f1 n3 f3 n5 f5 x7 x8) (.L3 x t) (.int .i64 (pb n5 f5 x7 x8))) (fun i hlt hj next=>Ev.of rfl (ck hlt (bZ hlt (av (af (evBr (fun hb=>evObi (evObi (ft (by rw [dqt (Int.natCast_nonneg i)]; rfl) (evRet ?_)))) (fun hb=>aQ (next hb)))))))) (fun hj=>Ev.of rfl (cd (af (af (eg (af (af (af (av (af (evBr (fun hb=>evRet ?_) (fun hb=>evRet ?_))))))))))))
 ·unfold pb; rw [cP i hlt hb]; rfl
 ·unfold pb; rw [ca hj,show Up x7 x8=true from hb]; rfl
 ·unfold pb; rw [ca hj,show Up x7 x8=false from hb]; rfl
theorem Rb (hn:n5<=9223372036854775807):Ev (oH s0 n1 f1 n3 f3 n5 f5 x7 x8) (.L0 0) (.int .i64 (bif jD n5 (sho n3 f5) then 6 else pb n5 f5 x7 x8)):=by
 refine iy hn (sho n3 f5) (P:=fun x=>Ev (oH s0 n1 f1 n3 f3 n5 f5 x7 x8) (.L0 x) (.int .i64 (bif jD n5 (sho n3 f5) then 6 else pb n5 f5 x7 x8))) (fun i hlt hj next=>Ev.of rfl (ck hlt (bZ hlt (av (af (evBr (fun hb=>fA (dqt (Int.natCast_nonneg i)) (evRet ?_)) (fun hb=>aQ (next hb)))))))) (fun hj=>Ev.of rfl (cd (jP (evAsm fun _=>aH ?_))))
 ·rw [cP i hlt hb]; rfl
 ·rw [ca hj]; exact U5 s0 n1 f1 n3 f3 n5 f5 x7 x8 hn _
theorem JR:aN (Ev (oH s0 n1 f1 n3 f3 n5 f5 x7 x8)) (Qc s0 n1 f1 n3 f3 n5 f5 x7 x8) (.int .i64 (lS n1 f1 n3 f3 n5 f5 x7 x8)):=by
 unfold lS
 refine evAsm fun _=>av (af (evObi (evObi (evAsm fun _=>ev2 (fun h=>by rw [h]; rfl) (fun h=>?_)))))
 rw [h]
 refine av (af (evObi (ev2 (fun h=>by rw [show (dq n1 f1 (-5000) 5000 && dq n3 f3 (-5000) 5000)=false from h]; rfl) (fun h=>?_))))
 rw [show (dq n1 f1 (-5000) 5000 && dq n3 f3 (-5000) 5000)=true from h]
 refine av (af (evObi (ev2 (fun h=>by rw [show (dZ n1 f1 && dZ n3 f3)=false from h]; rfl) (fun h=>?_))))
 rw [show (dZ n1 f1 && dZ n3 f3)=true from h]
 refine evAsm fun _=>evAsm fun _=>evObi (evBr (fun h=>aM h (aM h (bk fun hn=>aH ?_))) (fun h=>evRet ?_))
 ·rw [QM h]; exact Rb s0 n1 f1 n3 f3 n5 f5 x7 x8 hn
 ·rw [xc h]; rfl
theorem Z0:aN (Ev (oH s0 n1 f1 n3 f3 n5 f5 x7 x8)) (Qc s0 n1 f1 n3 f3 n5 f5 x7 x8) (.int .i64 (lS n1 (aa ae f1) n3 (aa ae f3) n5 (aa [.sl ae] f5) x7 x8)):=JR s0 n1 f1 n3 f3 n5 f5 x7 x8
end
def KR:aB:=bI [.agg al] (fun _=>True) fun
 | [.agg [.str s0,.sl n1 f1,.sl n3 f3,.sl n5 f5,.int _ x7,.int _ x8]]=>.int .i64 (lS n1 f1 n3 f3 n5 f5 x7 x8)
 | _=>.any
theorem KY:(vP KR).Ok Tryz.prog 129:=bY aiN Tryz.func129 (by kernel_rfl) fun ds hp=>jE (UE ..) (Z0 _ _ _ _ _ _ _ _ _)
def Tk:bd:=(129,.con KR)::(198,.con E0)::(199,.con Ez)::Mv
theorem QG:aR Tryz.prog eqs its Tk:=.con KY (.con CL (.con Cc (Dn)))
def Im (s0:ByteArray) (x1 x2 x3 x4 x5 x6 x7 x8 x9 x10 x11 x12 x13:Int) (n14:Nat) (f14:ah) (n16:Nat) (f16:ah):RT Empty:=.obc (.obt (.obi (.br (ar x3 1 1000000) (.ob (ar x3 1 1000000) (.obc (.obt (.obi (.obi (.br (ar x4 1 5000000) (.ob (ar x4 1 5000000) (.ob (ar x4 1 5000000) (.obc (.obt (.obi (.br (ar x5 0 x4) (.ob (ar x5 0 x4) (.obc (.obt (.obi (.br (ar x6 0 1000) (.ob (ar x6 0 1000) (.obc (.obt (.obi (.br (eP x7 x8 0 1000) (.ob (eP x7 x8 0 1000) (.obc (.obt (.obi (.br (eP x9 x10 0 1000) (.ob (eP x9 x10 0 1000) (.obc (.obt (.obi (.br (ar x11 1 200000) (.ob (ar x11 1 200000) (.obc (.obt (.obi (.br (ar x12 0 1000) (.ob (ar x12 0 1000) (.obc (.obt (.asm (true=true->n14<=9223372036854775807) (.obc (.obt (.br (!ar x1 0 (i64.wrap ((↑n14:Int) - 1))) (.ret (vi 4)) (.obc (.obt (.br (!ar x2 1 3) (.ret (vi 2)) (.br (!ar x13 0 3600) (.ret (vi 7)) (.obi (.obi (.obi (.br (bif x2 == 1 then decide (0 < x13) else false) (.ret (vi 2)) (.ret (vi 0))))))))))))))))) (.asm (true=true->n14<=9223372036854775807) (.obc (.obt (.br (!ar x1 0 (i64.wrap ((↑n14:Int) - 1))) (.ret (vi 4)) (.obc (.obt (.br (!ar x2 1 3) (.ret (vi 2)) (.ret (vi 7)))))))))))))) (.asm (true=true->n14<=9223372036854775807) (.obc (.obt (.br (!ar x1 0 (i64.wrap ((↑n14:Int) - 1))) (.ret (vi 4)) (.obc (.obt (.br (!ar x2 1 3) (.ret (vi 2)) (.ret (vi 7)))))))))))))) (.asm (true=true->n14<=9223372036854775807) (.obc (.obt (.br (!ar x1 0 (i64.wrap ((↑n14:Int) - 1))) (.ret (vi 4)) (.obc (.obt (.br (!ar x2 1 3) (.ret (vi 2)) (.ret (vi 7)))))))))))))) (.asm (true=true->n14<=9223372036854775807) (.obc (.obt (.br (!ar x1 0 (i64.wrap ((↑n14:Int) - 1))) (.ret (vi 4)) (.obc (.obt (.br (!ar x2 1 3) (.ret (vi 2)) (.ret (vi 7)))))))))))))) (.asm (true=true->n14<=9223372036854775807) (.obc (.obt (.br (!ar x1 0 (i64.wrap ((↑n14:Int) - 1))) (.ret (vi 4)) (.obc (.obt (.br (!ar x2 1 3) (.ret (vi 2)) (.ret (vi 7)))))))))))))) (.asm (true=true->n14<=9223372036854775807) (.obc (.obt (.br (!ar x1 0 (i64.wrap ((↑n14:Int) - 1))) (.ret (vi 4)) (.obc (.obt (.br (!ar x2 1 3) (.ret (vi 2)) (.ret (vi 7))))))))))))))) (.asm (true=true->n14<=9223372036854775807) (.obc (.obt (.br (!ar x1 0 (i64.wrap ((↑n14:Int) - 1))) (.ret (vi 4)) (.obc (.obt (.br (!ar x2 1 3) (.ret (vi 2)) (.ret (vi 7))))))))))))))) (.asm (true=true->n14<=9223372036854775807) (.obc (.obt (.br (!ar x1 0 (i64.wrap ((↑n14:Int) - 1))) (.ret (vi 4)) (.obc (.obt (.br (!ar x2 1 3) (.ret (vi 2)) (.ret (vi 7))))))))))))
theorem yaX (s0:ByteArray) (x1 x2 x3 x4 x5 x6 x7 x8 x9 x10 x11 x12 x13:Int) (n14:Nat) (f14:ah) (n16:Nat) (f16:ah):dh dm (aS JJ Tk u0 ake [V.agg [V.str s0,vi x1,vi x2,vi x3,vi x4,vi x5,vi x6,vi x7,vi x8,vi x9,vi x10,vi x11,vi x12,vi x13],V.pd [V.sl n14 (aa al f14),V.sl n16 (aa am f16)]]) (Im s0 x1 x2 x3 x4 x5 x6 x7 x8 x9 x10 x11 x12 x13 n14 f14 n16 f16):=⟨by kernel_rfl,by kernel_rfl⟩
def akZ (x1 x2 x3 x4 x5 x6 x7 x8 x9 x10 x11 x12 x13:Int) (n14:Nat):Int:=bif ar x3 1 1000000 then bif ar x4 1 5000000 then bif ar x5 0 x4 then bif ar x6 0 1000 then bif eP x7 x8 0 1000 then bif eP x9 x10 0 1000 then bif ar x11 1 200000 then bif ar x12 0 1000 then bif !ar x1 0 (i64.wrap ((↑n14:Int) - 1)) then 4 else bif !ar x2 1 3 then 2 else bif !ar x13 0 3600 then 7 else bif bif x2 == 1 then decide (0 < x13) else false then 2 else 0 else bif !ar x1 0 (i64.wrap ((↑n14:Int) - 1)) then 4 else bif !ar x2 1 3 then 2 else 7 else bif !ar x1 0 (i64.wrap ((↑n14:Int) - 1)) then 4 else bif !ar x2 1 3 then 2 else 7 else bif !ar x1 0 (i64.wrap ((↑n14:Int) - 1)) then 4 else bif !ar x2 1 3 then 2 else 7 else bif !ar x1 0 (i64.wrap ((↑n14:Int) - 1)) then 4 else bif !ar x2 1 3 then 2 else 7 else bif !ar x1 0 (i64.wrap ((↑n14:Int) - 1)) then 4 else bif !ar x2 1 3 then 2 else 7 else bif !ar x1 0 (i64.wrap ((↑n14:Int) - 1)) then 4 else bif !ar x2 1 3 then 2 else 7 else bif !ar x1 0 (i64.wrap ((↑n14:Int) - 1)) then 4 else bif !ar x2 1 3 then 2 else 7 else bif !ar x1 0 (i64.wrap ((↑n14:Int) - 1)) then 4 else bif !ar x2 1 3 then 2 else 7
def Hf (a k num q:Bool):Int:=bif !a then 4 else bif !k then 2 else bif !num then 7 else bif q then 2 else 0
def Ra (x2 x13:Int):Bool:=bif x2 == 1 then decide (0 < x13) else false
def aoP (x3 x4 x5 x6 x7 x8 x9 x10 x11 x12 x13:Int):Bool:=ar x3 1 1000000 && (ar x4 1 5000000 && (ar x5 0 x4 && (ar x6 0 1000 && (eP x7 x8 0 1000 && (eP x9 x10 0 1000 && (ar x11 1 200000 && (ar x12 0 1000 && (ar x13 0 3600))))))))
def nu (x1 x2 x3 x4 x5 x6 x7 x8 x9 x10 x11 x12 x13:Int) (n14:Nat):Int:=Hf (ar x1 0 (i64.wrap ((n14:Int) - 1))) (ar x2 1 3) (ar x3 1 1000000 && (ar x4 1 5000000 && (ar x5 0 x4 && (ar x6 0 1000 && (eP x7 x8 0 1000 && (eP x9 x10 0 1000 && (ar x11 1 200000 && (ar x12 0 1000 && (ar x13 0 3600))))))))) (Ra x2 x13)
section
variable {S:Type} {Nx:S->V->Prop} {r:V} {X Y:RT S} {c:Bool}
section
variable (h1:c=false->aN Nx Y r) (h2:c=true->aN Nx X r)
include h1 h2
theorem oO:aN Nx (.br c (.ob c X) Y) r:=evBr (fun h=>aM h (h2 h)) h1
theorem abG:aN Nx (.br c (.ob c (.ob c X)) Y) r:=evBr (fun h=>aM h (aM h (h2 h))) h1
end
theorem zQ {a k q:Bool} {p:Prop}:aN Nx (.asm p (.obc (.obt (.br (!a) (.ret (.int .i64 4)) (.obc (.obt (.br (!k) (.ret (.int .i64 2)) (.ret (.int .i64 7)))))))) ) (.int .i64 (Hf a k false q)) :=
 evAsm fun _=>av (af (evBr (fun h=>evRet (by rw [QM h]; rfl)) fun h=>av (af (evBr (fun h2=>evRet (by rw [xc h,QM h2]; rfl)) fun h2=>evRet (by rw [xc h,xc h2]; rfl)))))
end
section
variable (s0:ByteArray) (x1 x2 x3 x4 x5 x6 x7 x8 x9 x10 x11 x12 x13:Int) (n14:Nat) (f14:ah) (n16:Nat) (f16:ah)
include s0 x1 x2 x3 x4 x5 x6 x7 x8 x9 x10 x11 x12 x13 n14 f14 n16 f16
theorem I0:aN cr (Im s0 x1 x2 x3 x4 x5 x6 x7 x8 x9 x10 x11 x12 x13 n14 f14 n16 f16) (.int .i64 (nu x1 x2 x3 x4 x5 x6 x7 x8 x9 x10 x11 x12 x13 n14)):=by
 unfold nu
 refine av (af ?_)
 repeat refine evObi ?_
 refine oO (fun h=>by rw [h]; exact zQ) (fun h=>?_)
 rw [h]
 refine av (af ?_)
 repeat refine evObi ?_
 refine abG (fun h=>by rw [h]; exact zQ) (fun h=>?_)
 rw [h]
 refine av (af ?_)
 repeat refine evObi ?_
 refine oO (fun h=>by rw [h]; exact zQ) (fun h=>?_)
 rw [h]
 refine av (af ?_)
 repeat refine evObi ?_
 refine oO (fun h=>by rw [h]; exact zQ) (fun h=>?_)
 rw [h]
 refine av (af ?_)
 repeat refine evObi ?_
 refine oO (fun h=>by rw [h]; exact zQ) (fun h=>?_)
 rw [h]
 refine av (af ?_)
 repeat refine evObi ?_
 refine oO (fun h=>by rw [h]; exact zQ) (fun h=>?_)
 rw [h]
 refine av (af ?_)
 repeat refine evObi ?_
 refine oO (fun h=>by rw [h]; exact zQ) (fun h=>?_)
 rw [h]
 refine av (af ?_)
 repeat refine evObi ?_
 refine oO (fun h=>by rw [h]; exact zQ) (fun h=>?_)
 rw [h]
 refine av (af ?_)
 exact evAsm fun _=>av (af (evBr (fun h=>evRet (by rw [QM h]; rfl)) fun h=>av (af (evBr (fun h2=>evRet (by rw [xc h,QM h2]; rfl)) fun h2=>evBr (fun h3=>evRet (by rw [xc h,xc h2,QM h3]; rfl)) fun h3=>evObi (evObi (evObi (evBr (fun h4=>evRet (by rw [xc h,xc h2,xc h3,show Ra x2 x13=true from h4]; rfl)) fun h4=>evRet (by rw [xc h,xc h2,xc h3,show Ra x2 x13=false from h4]; rfl))))))))
theorem aeT:aN cr (Im s0 x1 x2 x3 x4 x5 x6 x7 x8 x9 x10 x11 x12 x13 n14 f14 n16 f16) (.int .i64 (nu x1 x2 x3 x4 x5 x6 x7 x8 x9 x10 x11 x12 x13 n14)):=I0 s0 x1 x2 x3 x4 x5 x6 x7 x8 x9 x10 x11 x12 x13 n14 f14 n16 f16
end
def FO:aB:=bI [.agg am,.pd [.sl al,.sl am]] (fun _=>True) fun
 | [.agg [.str s0,.int _ x1,.int _ x2,.int _ x3,.int _ x4,.int _ x5,.int _ x6,.int _ x7,.int _ x8,.int _ x9,.int _ x10,.int _ x11,.int _ x12,.int _ x13],.pd [.sl n14 f14,.sl n16 f16]]=>.int .i64 (nu x1 x2 x3 x4 x5 x6 x7 x8 x9 x10 x11 x12 x13 n14)
 | _=>.any
theorem A6:(vP FO).Ok Tryz.prog 132:=bY QG Tryz.func132 (by kernel_rfl) fun ds hp=>dG (yaX ..) (aeT _ _ _ _ _ _ _ _ _ _ _ _ _ _ _ _ _ _)
def BM:bd:=(202,.inl afS u0)::(249,.inl aju u0)::(203,.inl ahk u0)::(195,.inl aix u0)::(247,.inl afU u0)::(197,.inl ajG u0)::(132,.con FO)::Tk
theorem Zl:aR Tryz.prog eqs its BM:=fU Tryz.func202 (by kernel_rfl) (fU Tryz.func249 (by kernel_rfl) (fU Tryz.func203 (by kernel_rfl) (fU Tryz.func195 (by kernel_rfl) (fU Tryz.func247 (by kernel_rfl) (fU Tryz.func197 (by kernel_rfl) (.con A6 (QG)))))))
inductive mi where
 | L0 (ia0:Int)
 | L2 (ic0 ic1:Int) (nc2:Nat) (sc3:ByteArray) (nc4:Nat) (fc5:Nat->List V) (nc6:Nat) (fc7:Nat->List V) (nc8:Nat) (fc9:Nat->List V) (ic10 ic11 ic12:Int)
def yaD (n0:Nat) (f0:ah):mi->bp × List O × Option Ex
 | .L0 ia0=>([(14,vi ia0),(13,vi (↑n0:Int)),(12,V.sl n0 (aa al f0)),(4,V.pl 0 0),(0,V.sl n0 (aa al f0)),(2,V.fn 129 [] [])],[O.cells [V.fn 128 [] []] 194],none)
 | .L2 ic0 ic1 nc2 sc3 nc4 fc5 nc6 fc7 nc8 fc9 ic10 ic11 ic12=>([(8,vi ic0),(7,vi ic1),(0,V.sl nc2 fun i=>aa al f0 (0+i)),(1,V.fn 195 [] [V.pl 0 0,V.pl 1 0])],[O.cells [V.fn 128 [] []] 194,O.cells [V.str sc3,V.sl nc4 (aa ae fc5),V.sl nc6 (aa ae fc7),V.sl nc8 (aa [Ty.sl ae] fc9),vi ic10,vi ic11] 126],none)
def aaF:mi->JJ
 | .L0 ia0=>(0,[])
 | .L2 ic0 ic1 nc2 sc3 nc4 fc5 nc6 fc7 nc8 fc9 ic10 ic11 ic12=>(2,[Cx.i ic12])
section
variable (n0:Nat) (f0:ah)
include n0 f0
def KW:T (bN JJ):=aS JJ BM u0 afW [V.sl n0 (aa al f0),V.fn 128 [] [],V.fn 129 [] []]
def s7 (cx:List Cx):Lp JJ:=fb (eL (KW n0 f0) [])
def Ki (cx:List Cx):Lp JJ:=fb (eL (u4 BM u0 (0,[]) (s7 n0 f0 []) (yaD n0 f0 (.L0 (Jg cx 0)))) [true,false])
def acj:JJ->Lp JJ
 | (0,cx)=>s7 n0 f0 cx
 | (2,cx)=>Ki n0 f0 cx
 | (_,cx)=>s7 n0 f0 cx
def ajI:LD JJ mi:=⟨aaF,acj n0 f0,yaD n0 f0⟩
def oI:mi->RT mi
 | .L0 ia0=>.br (decide (ia0 < (↑n0:Int))) (.ob (decide (0<=ia0/\ia0 < (↑n0:Int))) (.obc (.obt (.obc (.obt (.obp ((sv (hdV (f0 ia0.toNat))).size<=(9223372036854775807:Nat)) (.obt (.br (!iF (sv (hdV (f0 ia0.toNat)))) (.brt (.ret (V.tup [vi ia0,vi 6]))) (.ob (decide (0<=ia0/\ia0<=(↑n0:Int))) (.asm (true=true->ia0.toNat - 0<=9223372036854775807) (.enter [some (some 0),some (some 1)] (mi.L2 (0) ((↑(ia0.toNat - 0):Int)) (ia0.toNat - 0) (sv (hdV (f0 ia0.toNat))) (au (hdV (ab (f0 ia0.toNat)))) (fun i=>ao ae (bj (hdV (ab (f0 ia0.toNat))) i)) (au (hdV (ab (ab (f0 ia0.toNat))))) (fun i=>ao ae (bj (hdV (ab (ab (f0 ia0.toNat)))) i)) (au (hdV (ab (ab (ab (f0 ia0.toNat)))))) (fun i=>ao [Ty.sl ae] (bj (hdV (ab (ab (ab (f0 ia0.toNat))))) i)) (cv (f0 ia0.toNat)) (be (f0 ia0.toNat)) (ia0)) []))))))))))) (.ret (V.tup [vi 0,vi 0]))
 | .L2 ic0 ic1 nc2 sc3 nc4 fc5 nc6 fc7 nc8 fc9 ic10 ic11 ic12=>.br (decide (ic0 < ic1)) (.ob (decide (0<=ic0/\ic0 < (↑nc2:Int))) (.obc (.obt (.obc (.obt (.br ((sv (hdV (f0 (0+ic0.toNat)))).toList == sc3.toList) (.br (decide (0<=ic0)) (.brt (.ret (V.tup [vi ic12,vi 5]))) (.br (lS (au (hdV (ab (f0 ic12.toNat)))) (fun i=>ao ae (bj (hdV (ab (f0 ic12.toNat))) i)) (au (hdV (ab (ab (f0 ic12.toNat))))) (fun i=>ao ae (bj (hdV (ab (ab (f0 ic12.toNat)))) i)) (au (hdV (ab (ab (ab (f0 ic12.toNat)))))) (fun i=>ao [Ty.sl ae] (bj (hdV (ab (ab (ab (f0 ic12.toNat))))) i)) (cv (f0 ic12.toNat)) (be (f0 ic12.toNat)) != 0) (.ret (V.tup [vi ic12,vi (lS (au (hdV (ab (f0 ic12.toNat)))) (fun i=>ao ae (bj (hdV (ab (f0 ic12.toNat))) i)) (au (hdV (ab (ab (f0 ic12.toNat))))) (fun i=>ao ae (bj (hdV (ab (ab (f0 ic12.toNat)))) i)) (au (hdV (ab (ab (ab (f0 ic12.toNat)))))) (fun i=>ao [Ty.sl ae] (bj (hdV (ab (ab (ab (f0 ic12.toNat))))) i)) (cv (f0 ic12.toNat)) (be (f0 ic12.toNat)))])) (.next [some (some 0)] (mi.L0 (i64.wrap (ic12+1))) []))) (.next [some (some 0),some (some 1)] (mi.L2 (i64.wrap (ic0+1)) (ic1) (nc2) (sc3) (nc4) (fc5) (nc6) (fc7) (nc8) (fc9) (ic10) (ic11) (ic12)) []))))))) (.brf (.br (lS (au (hdV (ab (f0 ic12.toNat)))) (fun i=>ao ae (bj (hdV (ab (f0 ic12.toNat))) i)) (au (hdV (ab (ab (f0 ic12.toNat))))) (fun i=>ao ae (bj (hdV (ab (ab (f0 ic12.toNat)))) i)) (au (hdV (ab (ab (ab (f0 ic12.toNat)))))) (fun i=>ao [Ty.sl ae] (bj (hdV (ab (ab (ab (f0 ic12.toNat))))) i)) (cv (f0 ic12.toNat)) (be (f0 ic12.toNat)) != 0) (.ret (V.tup [vi ic12,vi (lS (au (hdV (ab (f0 ic12.toNat)))) (fun i=>ao ae (bj (hdV (ab (f0 ic12.toNat))) i)) (au (hdV (ab (ab (f0 ic12.toNat))))) (fun i=>ao ae (bj (hdV (ab (ab (f0 ic12.toNat)))) i)) (au (hdV (ab (ab (ab (f0 ic12.toNat)))))) (fun i=>ao [Ty.sl ae] (bj (hdV (ab (ab (ab (f0 ic12.toNat))))) i)) (cv (f0 ic12.toNat)) (be (f0 ic12.toNat)))])) (.next [some (some 0)] (mi.L0 (i64.wrap (ic12+1))) [])))
end
def JL (n0:Nat) (f0:ah):RT mi:=.asm (true=true->n0<=9223372036854775807) (.enter [some (some 0)] (mi.L0 (0)) [])
theorem Wn (n0:Nat) (f0:ah):dR BM u0 (ajI n0 f0) (KW n0 f0) (JL n0 f0) (oI n0 f0):=⟨⟨by kernel_rfl,by kernel_rfl⟩,fun s=>by cases s <;> exact ⟨by kernel_rfl,by kernel_rfl⟩⟩
def yp (f0:ah) (a:Nat):Int:=lS (au (hdV (ab (f0 a)))) (fun i=>ao ae (bj (hdV (ab (f0 a))) i)) (au (hdV (ab (ab (f0 a))))) (fun i=>ao ae (bj (hdV (ab (ab (f0 a)))) i)) (au (hdV (ab (ab (ab (f0 a)))))) (fun i=>ao [Ty.sl ae] (bj (hdV (ab (ab (ab (f0 a))))) i)) (cv (f0 a)) (be (f0 a))
def yc (f0:ah) (i j:Nat):Bool:=(sv (hdV (f0 (0+j)))).toList == (sv (hdV (f0 i))).toList
def iK (f0:ah) (i:Nat):Int:=bif !iF (sv (hdV (f0 i))) then 6 else bif jD i (yc f0 i) then 5 else yp f0 i
section
variable (n0:Nat) (f0:ah)
include n0 f0
def eR:Int:=eW n0 (iK f0)
def dP:Int:=de n0 (iK f0)
theorem ags (hn:n0<=9223372036854775807) (a:Nat) (hi:a < n0) (hj:∀ j,j < a->(iK f0 j != 0)=false) (h1:iF (sv (hdV (f0 a)))=true) (hx:(iK f0 a != 0)=false->Ev (oI n0 f0) (.L0 (i64.wrap ((a:Int)+1))) (.tup [.int .i64 (eR n0 f0),.int .i64 (dP n0 f0)])):Ev (oI n0 f0) (.L2 0 ((↑(a - 0):Int)) (a - 0) (sv (hdV (f0 a))) (au (hdV (ab (f0 a)))) (fun i=>ao ae (bj (hdV (ab (f0 a))) i)) (au (hdV (ab (ab (f0 a))))) (fun i=>ao ae (bj (hdV (ab (ab (f0 a)))) i)) (au (hdV (ab (ab (ab (f0 a)))))) (fun i=>ao [Ty.sl ae] (bj (hdV (ab (ab (ab (f0 a))))) i)) (cv (f0 a)) (be (f0 a)) ((a:Int))) (.tup [.int .i64 (eR n0 f0),.int .i64 (dP n0 f0)]):=by
 refine iy (n:=a) (by omega) (yc f0 a) (P:=fun x=>Ev (oI n0 f0) (.L2 x ((↑(a - 0):Int)) (a - 0) (sv (hdV (f0 a))) (au (hdV (ab (f0 a)))) (fun i=>ao ae (bj (hdV (ab (f0 a))) i)) (au (hdV (ab (ab (f0 a))))) (fun i=>ao ae (bj (hdV (ab (ab (f0 a)))) i)) (au (hdV (ab (ab (ab (f0 a)))))) (fun i=>ao [Ty.sl ae] (bj (hdV (ab (ab (ab (f0 a))))) i)) (cv (f0 a)) (be (f0 a)) ((a:Int))) (.tup [.int .i64 (eR n0 f0),.int .i64 (dP n0 f0)])) (fun j hlt hq next=>Ev.of rfl (ck hlt (bZ hlt (av (af (av (af (evBr (fun hb=>fA (dqt (Int.natCast_nonneg j)) (eg (evRet ?_))) (fun hb=>aQ (next hb)))))))))) (fun hq=>Ev.of rfl (cd (jP (evBr (fun hb=>evRet ?_) (fun hb=>aQ (hx ?_))))))
 ·have hc:iK f0 a=5:=by unfold iK; rw [h1,cP j hlt hb]; rfl
  unfold eR dP; rw [(cm hi (by rw [hc]; rfl) hj).1,(cm hi (by rw [hc]; rfl) hj).2,hc]
 ·have hc:iK f0 a=yp f0 a:=by unfold iK; rw [h1,ca hq]; rfl
  unfold eR dP; rw [(cm hi (by rw [hc]; exact hb) hj).1,(cm hi (by rw [hc]; exact hb) hj).2,hc]; rfl
 ·have hc:iK f0 a=yp f0 a:=by unfold iK; rw [h1,ca hq]; rfl
  rw [hc]; exact hb
theorem Po (hp:aE n0 f0):aN (Ev (oI n0 f0)) (JL n0 f0) (.tup [.int .i64 (eR n0 f0),.int .i64 (dP n0 f0)]):=by
 refine bk fun hn=>aH (iy hn (fun i=>iK f0 i != 0) (P:=fun x=>Ev (oI n0 f0) (.L0 x) (.tup [.int .i64 (eR n0 f0),.int .i64 (dP n0 f0)])) (fun i hlt hj next=>Ev.of rfl (ck hlt (bZ hlt (av (af (av (af (aC (hp i hlt) (af (evBr (fun hb=>eg (evRet ?_)) (fun hb=>aM (dqt (by omega)) (evAsm fun _=>aH (ags n0 f0 hn i hlt hj (xc hb) next))))))))))))) (fun hj=>Ev.of rfl (cd (evRet ?_))))
 ·have hc:iK f0 i=6:=by unfold iK; rw [show (!iF (sv (hdV (f0 i))))=true from hb]; rfl
  unfold eR dP; rw [(cm hlt (by rw [hc]; rfl) hj).1,(cm hlt (by rw [hc]; rfl) hj).2,hc]
 ·unfold eR dP; rw [(fL hj).1,(fL hj).2]
theorem abv (hp:aE n0 (aa al f0)):aN (Ev (oI n0 f0)) (JL n0 f0) (.tup [.int .i64 (eR n0 (aa al f0)),.int .i64 (dP n0 (aa al f0))]):=Po n0 f0 hp
end
def Is:aB:=bI [.sl al,.fn 128 [] [],.fn 129 [] []] (fun
 | [.sl n0 f0,.fn _ [] [],.fn _ [] []]=>aE n0 f0
 | _=>False) fun
 | [.sl n0 f0,.fn _ [] [],.fn _ [] []]=>.tup [.int .i64 (eR n0 f0),.int .i64 (dP n0 f0)]
 | _=>.any
theorem NJ:(vP Is).Ok Tryz.prog 127:=bY Zl Tryz.func127 (by kernel_rfl) fun ds hp=>jE (Wn ..) (abv _ _ hp)
inductive l9 where
 | L0 (ia0:Int)
 | L2 (ic0 ic1:Int) (nc2:Nat) (sc3:ByteArray) (ic4 ic5 ic6 ic7 ic8 ic9 ic10 ic11 ic12 ic13 ic14 ic15 ic16 ic17:Int)
def EZ (n0:Nat) (f0:ah) (n2:Nat) (f2:ah) (n4:Nat) (f4:ah):l9->bp × List O × Option Ex
 | .L0 ia0=>([(14,vi ia0),(13,vi (↑n0:Int)),(12,V.sl n0 (aa am f0)),(4,V.pl 0 0),(0,V.sl n0 (aa am f0)),(2,V.fn 132 [] [V.pd [V.sl n2 (aa al f2),V.sl n4 (aa am f4)]])],[O.cells [V.fn 131 [] []] 197],none)
 | .L2 ic0 ic1 nc2 sc3 ic4 ic5 ic6 ic7 ic8 ic9 ic10 ic11 ic12 ic13 ic14 ic15 ic16 ic17=>([(8,vi ic0),(7,vi ic1),(0,V.sl nc2 fun i=>aa am f0 (0+i)),(1,V.fn 202 [] [V.pl 0 0,V.pl 1 0])],[O.cells [V.fn 131 [] []] 197,O.cells [V.str sc3,vi ic4,vi ic5,vi ic6,vi ic7,vi ic8,vi ic9,vi ic10,vi ic11,vi ic12,vi ic13,vi ic14,vi ic15,vi ic16] 128],none)
def aeZ:l9->JJ
 | .L0 ia0=>(0,[])
 | .L2 ic0 ic1 nc2 sc3 ic4 ic5 ic6 ic7 ic8 ic9 ic10 ic11 ic12 ic13 ic14 ic15 ic16 ic17=>(2,[Cx.i ic17])
section
variable (n0:Nat) (f0:ah) (n2:Nat) (f2:ah) (n4:Nat) (f4:ah)
include n0 f0 n2 f2 n4 f4
def Oo:T (bN JJ):=aS JJ BM u0 agE [V.sl n0 (aa am f0),V.fn 131 [] [],V.fn 132 [] [V.pd [V.sl n2 (aa al f2),V.sl n4 (aa am f4)]]]
def uf (cx:List Cx):Lp JJ:=fb (eL (Oo n0 f0 n2 f2 n4 f4) [])
def Mb (cx:List Cx):Lp JJ:=fb (eL (u4 BM u0 (0,[]) (uf n0 f0 n2 f2 n4 f4 []) (EZ n0 f0 n2 f2 n4 f4 (.L0 (Jg cx 0)))) [true,false])
def aae:JJ->Lp JJ
 | (0,cx)=>uf n0 f0 n2 f2 n4 f4 cx
 | (2,cx)=>Mb n0 f0 n2 f2 n4 f4 cx
 | (_,cx)=>uf n0 f0 n2 f2 n4 f4 cx
def ag5:LD JJ l9:=⟨aeZ,aae n0 f0 n2 f2 n4 f4,EZ n0 f0 n2 f2 n4 f4⟩
end
def oA (n0:Nat) (f0:ah) (n2:Nat) (f2:ah) (n4:Nat) (f4:ah):l9->RT l9
 | .L0 ia0=>.br (decide (ia0 < (↑n0:Int))) (.ob (decide (0<=ia0/\ia0 < (↑n0:Int))) (.obc (.obt (.obc (.obt (.obp ((sv (hdV (f0 ia0.toNat))).size<=(9223372036854775807:Nat)) (.obt (.br (!iF (sv (hdV (f0 ia0.toNat)))) (.brt (.ret (V.tup [vi ia0,vi 6]))) (.ob (decide (0<=ia0/\ia0<=(↑n0:Int))) (.asm (true=true->ia0.toNat - 0<=9223372036854775807) (.enter [some (some 0),some (some 1)] (l9.L2 (0) ((↑(ia0.toNat - 0):Int)) (ia0.toNat - 0) (sv (hdV (f0 ia0.toNat))) (ba (f0 ia0.toNat)) (cQ (f0 ia0.toNat)) (cM (f0 ia0.toNat)) (cv (f0 ia0.toNat)) (be (f0 ia0.toNat)) (be (ab (f0 ia0.toNat))) (be (ab (ab (f0 ia0.toNat)))) (be (ab (ab (ab (f0 ia0.toNat))))) (be (ab (ab (ab (ab (f0 ia0.toNat)))))) (be (ab (ab (ab (ab (ab (f0 ia0.toNat))))))) (be (ab (ab (ab (ab (ab (ab (f0 ia0.toNat)))))))) (be (ab (ab (ab (ab (ab (ab (ab (f0 ia0.toNat))))))))) (be (ab (ab (ab (ab (ab (ab (ab (ab (f0 ia0.toNat)))))))))) (ia0)) []))))))))))) (.ret (V.tup [vi 0,vi 0]))
 | .L2 ic0 ic1 nc2 sc3 ic4 ic5 ic6 ic7 ic8 ic9 ic10 ic11 ic12 ic13 ic14 ic15 ic16 ic17=>.br (decide (ic0 < ic1)) (.ob (decide (0<=ic0/\ic0 < (↑nc2:Int))) (.obc (.obt (.obc (.obt (.br ((sv (hdV (f0 (0+ic0.toNat)))).toList == sc3.toList) (.br (decide (0<=ic0)) (.brt (.ret (V.tup [vi ic17,vi 5]))) (.br (nu (ba (f0 ic17.toNat)) (cQ (f0 ic17.toNat)) (cM (f0 ic17.toNat)) (cv (f0 ic17.toNat)) (be (f0 ic17.toNat)) (be (ab (f0 ic17.toNat))) (be (ab (ab (f0 ic17.toNat)))) (be (ab (ab (ab (f0 ic17.toNat))))) (be (ab (ab (ab (ab (f0 ic17.toNat)))))) (be (ab (ab (ab (ab (ab (f0 ic17.toNat))))))) (be (ab (ab (ab (ab (ab (ab (f0 ic17.toNat)))))))) (be (ab (ab (ab (ab (ab (ab (ab (f0 ic17.toNat))))))))) (be (ab (ab (ab (ab (ab (ab (ab (ab (f0 ic17.toNat)))))))))) n2 != 0) (.ret (V.tup [vi ic17,vi (nu (ba (f0 ic17.toNat)) (cQ (f0 ic17.toNat)) (cM (f0 ic17.toNat)) (cv (f0 ic17.toNat)) (be (f0 ic17.toNat)) (be (ab (f0 ic17.toNat))) (be (ab (ab (f0 ic17.toNat)))) (be (ab (ab (ab (f0 ic17.toNat))))) (be (ab (ab (ab (ab (f0 ic17.toNat)))))) (be (ab (ab (ab (ab (ab (f0 ic17.toNat))))))) (be (ab (ab (ab (ab (ab (ab (f0 ic17.toNat)))))))) (be (ab (ab (ab (ab (ab (ab (ab (f0 ic17.toNat))))))))) (be (ab (ab (ab (ab (ab (ab (ab (ab (f0 ic17.toNat)))))))))) n2)])) (.next [some (some 0)] (l9.L0 (i64.wrap (ic17+1))) []))) (.next [some (some 0),some (some 1)] (l9.L2 (i64.wrap (ic0+1)) (ic1) (nc2) (sc3) (ic4) (ic5) (ic6) (ic7) (ic8) (ic9) (ic10) (ic11) (ic12) (ic13) (ic14) (ic15) (ic16) (ic17)) []))))))) (.brf (.br (nu (ba (f0 ic17.toNat)) (cQ (f0 ic17.toNat)) (cM (f0 ic17.toNat)) (cv (f0 ic17.toNat)) (be (f0 ic17.toNat)) (be (ab (f0 ic17.toNat))) (be (ab (ab (f0 ic17.toNat)))) (be (ab (ab (ab (f0 ic17.toNat))))) (be (ab (ab (ab (ab (f0 ic17.toNat)))))) (be (ab (ab (ab (ab (ab (f0 ic17.toNat))))))) (be (ab (ab (ab (ab (ab (ab (f0 ic17.toNat)))))))) (be (ab (ab (ab (ab (ab (ab (ab (f0 ic17.toNat))))))))) (be (ab (ab (ab (ab (ab (ab (ab (ab (f0 ic17.toNat)))))))))) n2 != 0) (.ret (V.tup [vi ic17,vi (nu (ba (f0 ic17.toNat)) (cQ (f0 ic17.toNat)) (cM (f0 ic17.toNat)) (cv (f0 ic17.toNat)) (be (f0 ic17.toNat)) (be (ab (f0 ic17.toNat))) (be (ab (ab (f0 ic17.toNat)))) (be (ab (ab (ab (f0 ic17.toNat))))) (be (ab (ab (ab (ab (f0 ic17.toNat)))))) (be (ab (ab (ab (ab (ab (f0 ic17.toNat))))))) (be (ab (ab (ab (ab (ab (ab (f0 ic17.toNat)))))))) (be (ab (ab (ab (ab (ab (ab (ab (f0 ic17.toNat))))))))) (be (ab (ab (ab (ab (ab (ab (ab (ab (f0 ic17.toNat)))))))))) n2)])) (.next [some (some 0)] (l9.L0 (i64.wrap (ic17+1))) [])))
def LX (n0:Nat) (f0:ah) (n2:Nat) (f2:ah) (n4:Nat) (f4:ah):RT l9:=.asm (true=true->n0<=9223372036854775807) (.enter [some (some 0)] (l9.L0 (0)) [])
theorem UG (n0:Nat) (f0:ah) (n2:Nat) (f2:ah) (n4:Nat) (f4:ah):dR BM u0 (ag5 n0 f0 n2 f2 n4 f4) (Oo n0 f0 n2 f2 n4 f4) (LX n0 f0 n2 f2 n4 f4) (oA n0 f0 n2 f2 n4 f4):=⟨⟨by kernel_rfl,by kernel_rfl⟩,fun s=>by cases s <;> exact ⟨by kernel_rfl,by kernel_rfl⟩⟩
def xU (f0:ah) (n2 a:Nat):Int:=nu (ba (f0 a)) (cQ (f0 a)) (cM (f0 a)) (cv (f0 a)) (be (f0 a)) (be (ab (f0 a))) (be (ab (ab (f0 a)))) (be (ab (ab (ab (f0 a))))) (be (ab (ab (ab (ab (f0 a)))))) (be (ab (ab (ab (ab (ab (f0 a))))))) (be (ab (ab (ab (ab (ab (ab (f0 a)))))))) (be (ab (ab (ab (ab (ab (ab (ab (f0 a))))))))) (be (ab (ab (ab (ab (ab (ab (ab (ab (f0 a)))))))))) n2
def xt (f0:ah) (i j:Nat):Bool:=(sv (hdV (f0 (0+j)))).toList == (sv (hdV (f0 i))).toList
def iI (f0:ah) (n2 i:Nat):Int:=bif !iF (sv (hdV (f0 i))) then 6 else bif jD i (xt f0 i) then 5 else xU f0 n2 i
section
variable (n0:Nat) (f0:ah) (n2:Nat)
include n0 f0 n2
def eN:Int:=eW n0 (iI f0 n2)
def dL:Int:=de n0 (iI f0 n2)
theorem aiE (f2:ah) (n4:Nat) (f4:ah) (hn:n0<=9223372036854775807) (a:Nat) (hi:a < n0) (hj:∀ j,j < a->(iI f0 n2 j != 0)=false) (h1:iF (sv (hdV (f0 a)))=true) (hx:(iI f0 n2 a != 0)=false->Ev (oA n0 f0 n2 f2 n4 f4) (.L0 (i64.wrap ((a:Int)+1))) (.tup [.int .i64 (eN n0 f0 n2),.int .i64 (dL n0 f0 n2)])):Ev (oA n0 f0 n2 f2 n4 f4) (.L2 0 ((↑(a - 0):Int)) (a - 0) (sv (hdV (f0 a))) (ba (f0 a)) (cQ (f0 a)) (cM (f0 a)) (cv (f0 a)) (be (f0 a)) (be (ab (f0 a))) (be (ab (ab (f0 a)))) (be (ab (ab (ab (f0 a))))) (be (ab (ab (ab (ab (f0 a)))))) (be (ab (ab (ab (ab (ab (f0 a))))))) (be (ab (ab (ab (ab (ab (ab (f0 a)))))))) (be (ab (ab (ab (ab (ab (ab (ab (f0 a))))))))) (be (ab (ab (ab (ab (ab (ab (ab (ab (f0 a)))))))))) ((a:Int))) (.tup [.int .i64 (eN n0 f0 n2),.int .i64 (dL n0 f0 n2)]):=by
 refine iy (n:=a) (by omega) (xt f0 a) (P:=fun x=>Ev (oA n0 f0 n2 f2 n4 f4) (.L2 x ((↑(a - 0):Int)) (a - 0) (sv (hdV (f0 a))) (ba (f0 a)) (cQ (f0 a)) (cM (f0 a)) (cv (f0 a)) (be (f0 a)) (be (ab (f0 a))) (be (ab (ab (f0 a)))) (be (ab (ab (ab (f0 a))))) (be (ab (ab (ab (ab (f0 a)))))) (be (ab (ab (ab (ab (ab (f0 a))))))) (be (ab (ab (ab (ab (ab (ab (f0 a)))))))) (be (ab (ab (ab (ab (ab (ab (ab (f0 a))))))))) (be (ab (ab (ab (ab (ab (ab (ab (ab (f0 a)))))))))) ((a:Int))) (.tup [.int .i64 (eN n0 f0 n2),.int .i64 (dL n0 f0 n2)])) (fun j hlt hq next=>Ev.of rfl (ck hlt (bZ hlt (av (af (av (af (evBr (fun hb=>fA (dqt (Int.natCast_nonneg j)) (eg (evRet ?_))) (fun hb=>aQ (next hb)))))))))) (fun hq=>Ev.of rfl (cd (jP (evBr (fun hb=>evRet ?_) (fun hb=>aQ (hx ?_))))))
 ·have hc:iI f0 n2 a=5:=by unfold iI; rw [h1,cP j hlt hb]; rfl
  unfold eN dL; rw [(cm hi (by rw [hc]; rfl) hj).1,(cm hi (by rw [hc]; rfl) hj).2,hc]
 ·have hc:iI f0 n2 a=xU f0 n2 a:=by unfold iI; rw [h1,ca hq]; rfl
  unfold eN dL; rw [(cm hi (by rw [hc]; exact hb) hj).1,(cm hi (by rw [hc]; exact hb) hj).2,hc]; rfl
 ·have hc:iI f0 n2 a=xU f0 n2 a:=by unfold iI; rw [h1,ca hq]; rfl
  rw [hc]; exact hb
theorem NZ (f2:ah) (n4:Nat) (f4:ah) (hp:aE n0 f0):aN (Ev (oA n0 f0 n2 f2 n4 f4)) (LX n0 f0 n2 f2 n4 f4) (.tup [.int .i64 (eN n0 f0 n2),.int .i64 (dL n0 f0 n2)]):=by
 refine bk fun hn=>aH (iy hn (fun i=>iI f0 n2 i != 0) (P:=fun x=>Ev (oA n0 f0 n2 f2 n4 f4) (.L0 x) (.tup [.int .i64 (eN n0 f0 n2),.int .i64 (dL n0 f0 n2)])) (fun i hlt hj next=>Ev.of rfl (ck hlt (bZ hlt (av (af (av (af (aC (hp i hlt) (af (evBr (fun hb=>eg (evRet ?_)) (fun hb=>aM (dqt (by omega)) (evAsm fun _=>aH (aiE n0 f0 n2 f2 n4 f4 hn i hlt hj (xc hb) next))))))))))))) (fun hj=>Ev.of rfl (cd (evRet ?_))))
 ·have hc:iI f0 n2 i=6:=by unfold iI; rw [show (!iF (sv (hdV (f0 i))))=true from hb]; rfl
  unfold eN dL; rw [(cm hlt (by rw [hc]; rfl) hj).1,(cm hlt (by rw [hc]; rfl) hj).2,hc]
 ·unfold eN dL; rw [(fL hj).1,(fL hj).2]
theorem abl (f2:ah) (n4:Nat) (f4:ah) (hp:aE n0 (aa am f0)):aN (Ev (oA n0 f0 n2 f2 n4 f4)) (LX n0 f0 n2 f2 n4 f4) (.tup [.int .i64 (eN n0 (aa am f0) n2),.int .i64 (dL n0 (aa am f0) n2)]):=NZ n0 f0 n2 f2 n4 f4 hp
end
def yaP:aB:=bI [.sl am,.fn 131 [] [],.fn 132 [] [.pd [.sl al,.sl am]]] (fun
 | [.sl n0 f0,.fn _ [] [],.fn _ [] [.pd [.sl n2 f2,.sl n4 f4]]]=>aE n0 f0
 | _=>False) fun
 | [.sl n0 f0,.fn _ [] [],.fn _ [] [.pd [.sl n2 f2,.sl n4 f4]]]=>.tup [.int .i64 (eN n0 f0 n2),.int .i64 (dL n0 f0 n2)]
 | _=>.any
theorem QF:(vP yaP).Ok Tryz.prog 130:=bY Zl Tryz.func130 (by kernel_rfl) fun ds hp=>jE (UG ..) (abl _ _ _ _ _ _ hp)
def nB:bd:=(127,.con Is)::(130,.con yaP)::(132,.con FO)::Tk
theorem xe:aR Tryz.prog eqs its nB:=.con NJ (.con QF (.con A6 (QG)))
section
variable (n0:Nat) (f0:ah) (n2:Nat) (f2:ah)
include n0 f0 n2 f2
def Xx:RT Empty:=.asm (true=true->n0<=9223372036854775807) (.obi (.obi (.asm ((!decide (10 < (↑n0:Int)))=true->n2<=9223372036854775807) (.obi (.obi (.br (bif decide (10 < (↑n0:Int)) then true else decide (20 < (↑n2:Int))) (.ret (V.tup [vi 0,vi 0,vi 3])) (.obp (∀ (i:Nat),i < n0->(sv (hdV (f0 i))).size<=(9223372036854775807:Nat)) (.obt (.br (dP n0 (aa al f0) != 0) (.ret (V.tup [vi 1,vi (eR n0 (aa al f0)),vi (dP n0 (aa al f0))])) (.obp (∀ (i:Nat),i < n2->(sv (hdV (f2 i))).size<=(9223372036854775807:Nat)) (.obt (.br (dL n2 (aa am f2) n0 != 0) (.ret (V.tup [vi 2,vi (eN n2 (aa am f2) n0),vi (dL n2 (aa am f2) n0)])) (.ret (V.tup [vi 0,vi 0,vi 0]))))))))))))))
theorem S4:dh dm (aS JJ nB u0 ahs [V.agg [V.sl n0 (aa al f0),V.sl n2 (aa am f2)]]) (Xx n0 f0 n2 f2):=⟨by kernel_rfl,by kernel_rfl⟩
def kY:Int:=bif bif decide (10 < (↑n0:Int)) then true else decide (20 < (↑n2:Int)) then 0 else bif dP n0 (aa al f0) != 0 then 1 else bif dL n2 (aa am f2) n0 != 0 then 2 else 0
def kP:Int:=bif bif decide (10 < (↑n0:Int)) then true else decide (20 < (↑n2:Int)) then 0 else bif dP n0 (aa al f0) != 0 then eR n0 (aa al f0) else bif dL n2 (aa am f2) n0 != 0 then eN n2 (aa am f2) n0 else 0
def bC:Int:=bif bif decide (10 < (↑n0:Int)) then true else decide (20 < (↑n2:Int)) then 3 else bif dP n0 (aa al f0) != 0 then dP n0 (aa al f0) else bif dL n2 (aa am f2) n0 != 0 then dL n2 (aa am f2) n0 else 0
def wl:V:=.tup [.int i64 (kY n0 f0 n2 f2),.int i64 (kP n0 f0 n2 f2),.int i64 (bC n0 f0 n2 f2)]
theorem ace (hp:aE n0 f0/\aE n2 f2):aN cr (Xx n0 f0 n2 f2) (wl n0 f0 n2 f2):=evAsm (fun a0=>evObi (evObi (evAsm (fun a0=>evObi (evObi (evBr (fun h0=>evRet (by unfold wl kY kP bC; try rw [h0]; rfl)) (fun h0=>aC (by first | assumption | (first | exact hp.1 | exact hp.2)) (af (evBr (fun h1=>evRet (by unfold wl kY kP bC; try rw [h0]; try rw [h1]; rfl)) (fun h1=>aC (by first | assumption | (first | exact hp.1 | exact hp.2)) (af (evBr (fun h2=>evRet (by unfold wl kY kP bC; try rw [h0]; try rw [h1]; try rw [h2]; rfl)) (fun h2=>evRet (by unfold wl kY kP bC; try rw [h0]; try rw [h1]; try rw [h2]; rfl))))))))))))))
end
def LL:aB:=bI [.agg [.sl al,.sl am]] (fun
 | [.agg [.sl n0 f0,.sl n2 f2]]=>aE n0 f0/\aE n2 f2
 | _=>False) fun
 | [.agg [.sl n0 f0,.sl n2 f2]]=>wl n0 f0 n2 f2
 | _=>.any
theorem CQ:(vP LL).Ok Tryz.prog 59:=bY xe Tryz.func59 (by kernel_rfl) fun ds hp=>dG (S4 ..) (ace _ _ _ _ hp)
inductive iJ where
 | L0 (ia0:Int)
 | L1 (ib0:Int) (bb1:Bool) (ib2:Int)
 | L2 (ic0 ic1:Int) (bc2:Bool) (ic3:Int)
 | L3 (id0 id1 id2:Int) (bd3:Bool) (id4:Int)
def xz (n0:Nat) (f0:ah) (n2:Nat) (f2:ah) (x4:Int) (l:List O):List O:=O.cells [V.str (sv (hdV (f0 x4.toNat))),V.sl (au (hdV (ab (f0 x4.toNat)))) fun i=>ao ae (bj (hdV (ab (f0 x4.toNat))) i),V.sl (au (hdV (ab (ab (f0 x4.toNat))))) fun i=>ao ae (bj (hdV (ab (ab (f0 x4.toNat)))) i),V.sl (au (hdV (ab (ab (ab (f0 x4.toNat)))))) fun i=>ao [Ty.sl ae] (bj (hdV (ab (ab (ab (f0 x4.toNat))))) i),vi (cv (f0 x4.toNat)),vi (be (f0 x4.toNat))] 126::l
def sN (n0:Nat) (f0:ah) (n2:Nat) (f2:ah) (x4:Int):iJ->bp × List O × Option Ex
 | .L0 ia0=>([(6,vi ia0),(5,V.pl 0 0),(2,V.pl 1 0),(1,vi x4)],xz n0 f0 n2 f2 x4 [O.cells [V.sl n0 (aa al f0),V.sl n2 (aa am f2)] 25],none)
 | .L1 ib0 bb1 ib2=>([(14,vi ib0),(13,V.bool bb1),(6,vi ib2),(5,V.pl 0 0),(2,V.pl 1 0),(1,vi x4)],xz n0 f0 n2 f2 x4 [O.cells [V.sl n0 (aa al f0),V.sl n2 (aa am f2)] 25],none)
 | .L2 ic0 ic1 bc2 ic3=>([(15,vi ic0),(14,vi ic1),(13,V.bool bc2),(6,vi ic3),(5,V.pl 0 0),(2,V.pl 1 0),(1,vi x4)],xz n0 f0 n2 f2 x4 [O.cells [V.sl n0 (aa al f0),V.sl n2 (aa am f2)] 25],none)
 | .L3 id0 id1 id2 bd3 id4=>([(16,vi id0),(15,vi id1),(14,vi id2),(13,V.bool bd3),(6,vi id4),(5,V.pl 0 0),(2,V.pl 1 0),(1,vi x4)],xz n0 f0 n2 f2 x4 [O.cells [V.sl n0 (aa al f0),V.sl n2 (aa am f2)] 25],none)
def abS:iJ->JJ
 | .L0 ia0=>(0,[])
 | .L1 ib0 bb1 ib2=>(1,[])
 | .L2 ic0 ic1 bc2 ic3=>(2,[])
 | .L3 id0 id1 id2 bd3 id4=>(3,[])
section
variable (n0:Nat) (f0:ah) (n2:Nat) (f2:ah) (x4:Int)
include n0 f0 n2 f2 x4
def Ks:T (bN JJ):=aS JJ nB u0 afL [V.agg [V.sl n0 (aa al f0),V.sl n2 (aa am f2)],vi x4]
def ue (cx:List Cx):Lp JJ:=fb (eL (Ks n0 f0 n2 f2 x4) [false])
def AH (cx:List Cx):Lp JJ:=fb (eL (u4 nB u0 (0,[]) (ue n0 f0 n2 f2 x4 []) (sN n0 f0 n2 f2 x4 (.L0 (0:Int)))) [false,false,false,false,false,true])
def Af (cx:List Cx):Lp JJ:=fb (eL (u4 nB u0 (1,[]) (AH n0 f0 n2 f2 x4 []) (sN n0 f0 n2 f2 x4 (.L1 (0:Int) false (0:Int)))) [false])
def Nw (cx:List Cx):Lp JJ:=fb (eL (u4 nB u0 (2,[]) (Af n0 f0 n2 f2 x4 []) (sN n0 f0 n2 f2 x4 (.L2 (0:Int) (0:Int) false (0:Int)))) [true])
def abX:JJ->Lp JJ
 | (0,cx)=>ue n0 f0 n2 f2 x4 cx
 | (1,cx)=>AH n0 f0 n2 f2 x4 cx
 | (2,cx)=>Af n0 f0 n2 f2 x4 cx
 | (3,cx)=>Nw n0 f0 n2 f2 x4 cx
 | (_,cx)=>ue n0 f0 n2 f2 x4 cx
def ahB:LD JJ iJ:=⟨abS,abX n0 f0 n2 f2 x4,sN n0 f0 n2 f2 x4⟩
end
def gL (n0:Nat) (f0:ah) (n2:Nat) (f2:ah) (x4:Int):iJ->RT iJ
 | .L0 ia0=>.br (decide (ia0 < x4)) (.ob (decide (0<=ia0/\ia0 < (↑n0:Int))) (.br ((sv (hdV (f0 ia0.toNat))).toList == (sv (hdV (f0 x4.toNat))).toList) (.ret (vi 5)) (.next [some (some 0),some (some 1)] (iJ.L0 (i64.wrap (ia0+1))) []))) (.obc (.obt (.obc (.obt (.obi (.obi (.br (bif !aA (↑(au (hdV (ab (f0 x4.toNat)))):Int) 2 12 then true else !aA (↑(au (hdV (ab (ab (f0 x4.toNat))))):Int) 2 12) (.ret (vi 3)) (.obi (.obi (.br (bif !jo (au (hdV (ab (f0 x4.toNat)))) fun i=>ao ae (bj (hdV (ab (f0 x4.toNat))) i) then true else !jo (au (hdV (ab (ab (f0 x4.toNat))))) fun i=>ao ae (bj (hdV (ab (ab (f0 x4.toNat)))) i)) (.ret (vi 7)) (.obi (.obi (.br (bif !dZ (au (hdV (ab (f0 x4.toNat)))) fun i=>ao ae (bj (hdV (ab (f0 x4.toNat))) i) then true else !dZ (au (hdV (ab (ab (f0 x4.toNat))))) fun i=>ao ae (bj (hdV (ab (ab (f0 x4.toNat)))) i)) (.ret (vi 2)) (.asm (true=true->au (hdV (ab (ab (ab (f0 x4.toNat)))))<=9223372036854775807) (.asm (true=true->au (hdV (ab (f0 x4.toNat)))<=9223372036854775807) (.br ((↑(au (hdV (ab (ab (ab (f0 x4.toNat)))))):Int) != (↑(au (hdV (ab (f0 x4.toNat)))):Int)) (.ret (vi 6)) (.obc (.obt (.obi (.br (aA (cv (f0 x4.toNat)) 0 10000000) (.ob (aA (cv (f0 x4.toNat)) 0 10000000) (.obc (.obt (.enter [some (some 0),some (some 1)] (iJ.L1 (0) (aA (be (f0 x4.toNat)) 0 10000000) (ia0)) [])))) (.enter [some (some 0),some (some 1)] (iJ.L1 (0) (false) (ia0)) [])))))))))))))))))))))
 | .L1 ib0 bb1 ib2=>.asm (true=true->au (hdV (ab (ab (ab (f0 x4.toNat)))))<=9223372036854775807) (.br (decide (ib0 < (↑(au (hdV (ab (ab (ab (f0 x4.toNat)))))):Int))) (.ob (decide (0<=ib0/\ib0 < (↑(au (hdV (ab (ab (ab (f0 x4.toNat)))))):Int))) (.asm (true=true->au (hdV (bj (hdV (ab (ab (ab (f0 x4.toNat))))) ib0.toNat))<=9223372036854775807) (.asm (true=true->au (hdV (ab (ab (f0 x4.toNat))))<=9223372036854775807) (.br ((↑(au (hdV (bj (hdV (ab (ab (ab (f0 x4.toNat))))) ib0.toNat))):Int) != (↑(au (hdV (ab (ab (f0 x4.toNat))))):Int)) (.ret (vi 6)) (.next [some (some 0),some (some 1)] (iJ.L1 (i64.wrap (ib0+1)) (bb1) (ib2)) []))))) (.enter [some (some 0),some (some 1)] (iJ.L2 (0) (ib0) (bb1) (ib2)) []))
 | .L2 ic0 ic1 bc2 ic3=>.asm (true=true->au (hdV (ab (ab (ab (f0 x4.toNat)))))<=9223372036854775807) (.br (decide (ic0 < (↑(au (hdV (ab (ab (ab (f0 x4.toNat)))))):Int))) (.enter [some (some 0),some (some 1)] (iJ.L3 (0) (ic0) (ic1) (bc2) (ic3)) []) (.br (!bc2) (.ret (vi 7)) (.ret (vi 0))))
 | .L3 id0 id1 id2 bd3 id4=>.asm (true=true->au (hdV (ab (ab (f0 x4.toNat))))<=9223372036854775807) (.br (decide (id0 < (↑(au (hdV (ab (ab (f0 x4.toNat))))):Int))) (.obi (.obi (.obi (.obj (bd3) (decide (0<=id1/\id1 < (↑(au (hdV (ab (ab (ab (f0 x4.toNat)))))):Int))) (.obi (.obi (.obi (.obj (bd3) (decide (0<=id0/\id0 < (↑(au (hdV (bj (hdV (ab (ab (ab (f0 x4.toNat))))) id1.toNat))):Int))) (.obi (.br (bd3) (.ob (bd3) (.obc (.obt (.next [some (some 0),some (some 1)] (iJ.L3 (i64.wrap (id0+1)) (id1) (id2) (aA (ay (bj (hdV (bj (hdV (ab (ab (ab (f0 x4.toNat))))) id1.toNat)) id0.toNat)) 0 10000000) (id4)) [])))) (.next [some (some 0),some (some 1)] (iJ.L3 (i64.wrap (id0+1)) (id1) (id2) (false) (id4)) []))))))))))) (.next [some (some 0),some (some 1)] (iJ.L2 (i64.wrap (id1+1)) (id2) (bd3) (id4)) []))
def P8 (n0:Nat) (f0:ah) (n2:Nat) (f2:ah) (x4:Int):RT iJ:=.ob (decide (0<=x4/\x4 < (↑n0:Int))) (.obp ((sv (hdV (f0 x4.toNat))).size<=(9223372036854775807:Nat)) (.obt (.br (!jc (sv (hdV (f0 x4.toNat)))) (.ret (vi 6)) (.enter [some (some 1),some (some 0)] (iJ.L0 (0)) []))))
theorem TS (n0:Nat) (f0:ah) (n2:Nat) (f2:ah) (x4:Int):dR nB u0 (ahB n0 f0 n2 f2 x4) (Ks n0 f0 n2 f2 x4) (P8 n0 f0 n2 f2 x4) (gL n0 f0 n2 f2 x4):=⟨⟨by kernel_rfl,by kernel_rfl⟩,fun s=>by cases s <;> exact ⟨by kernel_rfl,by kernel_rfl⟩⟩
def pP (n3:Nat) (f5:ah) (i:Nat):Bool:=(au (hdV (f5 i)):Int) != (n3:Int)
def lX (f5:ah) (i j:Nat):Bool:=aA (ay (bj (hdV (f5 i)) j)) 0 10000000
def gG (n3:Nat) (f5:ah) (i:Nat):Bool:=cq n3 (lX f5 i)
def kl (x7 x8:Int):Bool:=bif aA x7 0 10000000 then aA x8 0 10000000 else false
def HP (a b:Bool):Bool:=bif !a then true else !b
def Bz (n1:Nat) (f1:ah) (n3:Nat) (f3:ah) (n5:Nat) (f5:ah) (x7 x8:Int):Int :=
 bif HP (aA (n1:Int) 2 12) (aA (n3:Int) 2 12) then 3 else bif HP (jo n1 f1) (jo n3 f3) then 7 else bif HP (dZ n1 f1) (dZ n3 f3) then 2 else bif (n5:Int) != (n1:Int) then 6 else bif jD n5 (pP n3 f5) then 6 else bif !(kl x7 x8 && cq n5 (gG n3 f5)) then 7 else 0
def Am (f0:ah) (a j:Nat):Bool:=(sv (hdV (f0 j))).toList == (sv (hdV (f0 a))).toList
def ga (f0:ah) (a:Nat):Int:=bif !jc (sv (hdV (f0 a))) then 6 else bif jD a (Am f0 a) then 5 else Bz (au (hdV (ab (f0 a)))) (fun i=>ao ae (bj (hdV (ab (f0 a))) i)) (au (hdV (ab (ab (f0 a))))) (fun i=>ao ae (bj (hdV (ab (ab (f0 a)))) i)) (au (hdV (ab (ab (ab (f0 a)))))) (bj (hdV (ab (ab (ab (f0 a)))))) (cv (f0 a)) (be (f0 a))
def Z1 (f0:ah) (a:Nat) (g:Bool):Int:=bif !(g && cq (au (hdV (ab (ab (ab (f0 a)))))) (gG (au (hdV (ab (ab (f0 a))))) (bj (hdV (ab (ab (ab (f0 a)))))))) then 7 else 0
section
variable (n0:Nat) (f0:ah) (n2:Nat) (f2:ah)
include n0 f0 n2 f2
theorem RJ (a:Nat) (r:V) (i:Nat) (hi:i < (au (hdV (ab (ab (ab (f0 a))))))) (h3:(au (hdV (ab (ab (f0 a)))))<=9223372036854775807) (hrow:∀ i,i < (au (hdV (ab (ab (ab (f0 a))))))->(au (hdV ((bj (hdV (ab (ab (ab (f0 a)))))) i)):Int)=((au (hdV (ab (ab (f0 a))))):Int)) (g:Bool) (t t':Int) (hx:Ev (gL n0 f0 n2 f2 (a:Int)) (.L2 (i64.wrap ((i:Int)+1)) t (g && gG (au (hdV (ab (ab (f0 a))))) (bj (hdV (ab (ab (ab (f0 a)))))) i) t') r):Ev (gL n0 f0 n2 f2 (a:Int)) (.L3 0 i t g t') r:=by
 have key:=As h3 (P:=fun x=>Ev (gL n0 f0 n2 f2 (a:Int)) (.L3 x i t (g && cq x.toNat (lX (bj (hdV (ab (ab (ab (f0 a)))))) i)) t') r) (fun j hlt nx=>?_) (Ev.of rfl (evAsm fun _=>cd (aQ hx)))
 ·simpa [cq] using key
 ·have hj:(j:Int) < (au (hdV ((bj (hdV (ab (ab (ab (f0 a)))))) i)):Int):=by rw [hrow i hi]; omega
  simp only [Int.toNat_natCast]
  rw [show (i64.wrap ((j:Int)+1)).toNat=j+1 by rw [jT hlt h3]; rfl] at nx
  refine Ev.of rfl (evAsm fun _=>ck hlt (evObi (evObi (evObi (evObj (fun _=>dqt ⟨by omega,by show (i:Int) < ((au (hdV (ab (ab (ab (f0 a)))))):Int); omega⟩) (evObi (evObi (evObi (evObj (fun _=>dqt ⟨by omega,hj⟩) (evObi (evBr (fun hb=>aM hb (av (af (aQ ?_)))) (fun hb=>aQ ?_))))))))))))
  ·have e:(g && cq (j+1) (lX (bj (hdV (ab (ab (ab (f0 a)))))) i))=lX (bj (hdV (ab (ab (ab (f0 a)))))) i j:=by
    have hb':(g && cq j (lX (bj (hdV (ab (ab (ab (f0 a)))))) i))=true:=hb
    show (g && (cq j (lX (bj (hdV (ab (ab (ab (f0 a)))))) i) && lX (bj (hdV (ab (ab (ab (f0 a)))))) i j))=_
    rw [← Bool.and_assoc,hb',Bool.true_and]
   rw [e] at nx; exact nx
  ·have e:(g && cq (j+1) (lX (bj (hdV (ab (ab (ab (f0 a)))))) i))=false:=by
    have hb':(g && cq j (lX (bj (hdV (ab (ab (ab (f0 a)))))) i))=false:=hb
    show (g && (cq j (lX (bj (hdV (ab (ab (ab (f0 a)))))) i) && lX (bj (hdV (ab (ab (ab (f0 a)))))) i j))=_
    rw [← Bool.and_assoc,hb',Bool.false_and]
   rw [e] at nx; exact nx
theorem TT (a:Nat) (h5:(au (hdV (ab (ab (ab (f0 a))))))<=9223372036854775807) (hrow:∀ i,i < (au (hdV (ab (ab (ab (f0 a))))))->(au (hdV ((bj (hdV (ab (ab (ab (f0 a)))))) i)):Int)=((au (hdV (ab (ab (f0 a))))):Int)) (g:Bool) (t t':Int):Ev (gL n0 f0 n2 f2 (a:Int)) (.L2 0 t g t') (.int .i64 (Z1 f0 a g)):=by
 by_cases h3:(au (hdV (ab (ab (f0 a)))))<=9223372036854775807
 ·have key:=As h5 (P:=fun x=>Ev (gL n0 f0 n2 f2 (a:Int)) (.L2 x t (g && cq x.toNat (gG (au (hdV (ab (ab (f0 a))))) (bj (hdV (ab (ab (ab (f0 a)))))))) t') (.int .i64 (Z1 f0 a g))) (fun i hlt nx=>?_) (Ev.of rfl (evAsm fun _=>cd ?_))
  ·simpa [cq] using key
  ·simp only [Int.toNat_natCast]
   rw [show (i64.wrap ((i:Int)+1)).toNat=i+1 by rw [jT hlt h5]; rfl] at nx
   refine Ev.of rfl (evAsm fun _=>ck hlt (aH (RJ n0 f0 n2 f2 a _ i hlt h3 hrow _ t t' ?_)))
   rw [Bool.and_assoc]; exact nx
  ·simp only [Int.toNat_natCast]
   unfold Z1
   refine evBr (fun h=>evRet ?_) (fun h=>evRet ?_)
   ·rw [show (!(g && cq (au (hdV (ab (ab (ab (f0 a)))))) (gG (au (hdV (ab (ab (f0 a))))) (bj (hdV (ab (ab (ab (f0 a)))))))))=true from h]; rfl
   ·rw [show (!(g && cq (au (hdV (ab (ab (ab (f0 a)))))) (gG (au (hdV (ab (ab (f0 a))))) (bj (hdV (ab (ab (ab (f0 a)))))))))=false from h]; rfl
 ·have key:=As h5 (P:=fun x=>Ev (gL n0 f0 n2 f2 (a:Int)) (.L2 x t (g && cq x.toNat (gG (au (hdV (ab (ab (f0 a))))) (bj (hdV (ab (ab (ab (f0 a)))))))) t') (.int .i64 (Z1 f0 a g))) (fun i hlt nx=>?_) (Ev.of rfl (evAsm fun _=>cd ?_))
  ·simpa [cq] using key
  ·exact Ev.of rfl (evAsm fun _=>ck hlt (aH (Ev.of rfl (evAsm fun h=>absurd (h rfl) h3))))
  ·simp only [Int.toNat_natCast]
   unfold Z1
   refine evBr (fun h=>evRet ?_) (fun h=>evRet ?_)
   ·rw [show (!(g && cq (au (hdV (ab (ab (ab (f0 a)))))) (gG (au (hdV (ab (ab (f0 a))))) (bj (hdV (ab (ab (ab (f0 a)))))))))=true from h]; rfl
   ·rw [show (!(g && cq (au (hdV (ab (ab (ab (f0 a)))))) (gG (au (hdV (ab (ab (f0 a))))) (bj (hdV (ab (ab (ab (f0 a)))))))))=false from h]; rfl
theorem Gv (a:Nat) (g:Bool) (t':Int):Ev (gL n0 f0 n2 f2 (a:Int)) (.L1 0 g t') (.int .i64 (bif jD (au (hdV (ab (ab (ab (f0 a)))))) (pP (au (hdV (ab (ab (f0 a))))) (bj (hdV (ab (ab (ab (f0 a))))))) then 6 else Z1 f0 a g)):=by
 by_cases h5:(au (hdV (ab (ab (ab (f0 a))))))<=9223372036854775807
 ·refine iy h5 (pP (au (hdV (ab (ab (f0 a))))) (bj (hdV (ab (ab (ab (f0 a))))))) (P:=fun x=>Ev (gL n0 f0 n2 f2 (a:Int)) (.L1 x g t') (.int .i64 (bif jD (au (hdV (ab (ab (ab (f0 a)))))) (pP (au (hdV (ab (ab (f0 a))))) (bj (hdV (ab (ab (ab (f0 a))))))) then 6 else Z1 f0 a g))) (fun i hlt hj next=>Ev.of rfl (evAsm fun _=>ck hlt (bZ hlt (evAsm fun _=>evAsm fun _=>evBr (fun hb=>evRet ?_) (fun hb=>aQ (next hb)))))) (fun hj=>Ev.of rfl (evAsm fun _=>cd (aH ?_)))
  ·rw [cP i hlt hb]; rfl
  ·rw [ca hj]
   exact TT n0 f0 n2 f2 a h5 (fun i hi=>by have:=hj i hi; unfold pP at this; simpa using this) g _ t'
 ·exact Ev.of rfl (evAsm fun h=>absurd (h rfl) h5)
theorem Ri (a:Nat) (ha:a < n0) (hn:n0<=9223372036854775807):Ev (gL n0 f0 n2 f2 (a:Int)) (.L0 0) (.int .i64 (bif jD a (Am f0 a) then 5 else Bz (au (hdV (ab (f0 a)))) (fun i=>ao ae (bj (hdV (ab (f0 a))) i)) (au (hdV (ab (ab (f0 a))))) (fun i=>ao ae (bj (hdV (ab (ab (f0 a)))) i)) (au (hdV (ab (ab (ab (f0 a)))))) (bj (hdV (ab (ab (ab (f0 a)))))) (cv (f0 a)) (be (f0 a)))):=by
 refine iy (n:=a) (by omega) (Am f0 a) (P:=fun x=>Ev (gL n0 f0 n2 f2 (a:Int)) (.L0 x) _) (fun j hlt hj next=>Ev.of rfl (ck hlt (bZ (by omega) (evBr (fun hb=>evRet ?_) (fun hb=>aQ (next hb)))))) (fun hj=>Ev.of rfl (cd ?_))
 ·rw [cP j hlt hb]; rfl
 ·rw [ca hj,cond_false]
  unfold Bz
  refine av (af (av (af (evObi (evObi (evBr (fun h=>evRet (by rw [show HP (aA ((au (hdV (ab (f0 a)))):Int) 2 12) (aA ((au (hdV (ab (ab (f0 a))))):Int) 2 12)=true from h]; rfl)) (fun h=>?_)))))))
  rw [show HP (aA ((au (hdV (ab (f0 a)))):Int) 2 12) (aA ((au (hdV (ab (ab (f0 a))))):Int) 2 12)=false from h]
  refine evObi (evObi (evBr (fun h=>evRet (by rw [show HP (jo (au (hdV (ab (f0 a)))) (fun i=>ao ae (bj (hdV (ab (f0 a))) i))) (jo (au (hdV (ab (ab (f0 a))))) (fun i=>ao ae (bj (hdV (ab (ab (f0 a)))) i)))=true from h]; rfl)) (fun h=>?_)))
  rw [show HP (jo (au (hdV (ab (f0 a)))) (fun i=>ao ae (bj (hdV (ab (f0 a))) i))) (jo (au (hdV (ab (ab (f0 a))))) (fun i=>ao ae (bj (hdV (ab (ab (f0 a)))) i)))=false from h]
  refine evObi (evObi (evBr (fun h=>evRet (by rw [show HP (dZ (au (hdV (ab (f0 a)))) (fun i=>ao ae (bj (hdV (ab (f0 a))) i))) (dZ (au (hdV (ab (ab (f0 a))))) (fun i=>ao ae (bj (hdV (ab (ab (f0 a)))) i)))=true from h]; rfl)) (fun h=>?_)))
  rw [show HP (dZ (au (hdV (ab (f0 a)))) (fun i=>ao ae (bj (hdV (ab (f0 a))) i))) (dZ (au (hdV (ab (ab (f0 a))))) (fun i=>ao ae (bj (hdV (ab (ab (f0 a)))) i)))=false from h]
  refine evAsm fun _=>evAsm fun _=>evBr (fun h=>evRet (by rw [show (((au (hdV (ab (ab (ab (f0 a)))))):Int) != ((au (hdV (ab (f0 a)))):Int))=true from h]; rfl)) (fun h=>?_)
  rw [show (((au (hdV (ab (ab (ab (f0 a)))))):Int) != ((au (hdV (ab (f0 a)))):Int))=false from h]
  refine av (af (evObi (evBr (fun hg=>aM hg (av (af (aH ?_)))) (fun hg=>aH ?_))))
  ·have e:kl (cv (f0 a)) (be (f0 a))=aA (be (f0 a)) 0 10000000:=by unfold kl; rw [show aA (cv (f0 a)) 0 10000000=true from hg]; rfl
   rw [e]; exact Gv n0 f0 n2 f2 a _ _
  ·have e:kl (cv (f0 a)) (be (f0 a))=false:=by unfold kl; rw [show aA (cv (f0 a)) 0 10000000=false from hg]; rfl
   rw [e]; exact Gv n0 f0 n2 f2 a _ _
theorem Iy (x4:Int) (hp:0<=x4/\x4 < n0/\n0<=9223372036854775807/\aE n0 f0):aN (Ev (gL n0 f0 n2 f2 x4)) (P8 n0 f0 n2 f2 x4) (.int .i64 (ga f0 x4.toNat)):=by
 obtain ⟨h0,h1,h2,h3⟩:=hp
 obtain ⟨a,rfl⟩:∃ a:Nat,x4=(a:Int):=⟨x4.toNat,by omega⟩
 have ha:a < n0:=by omega
 unfold ga
 simp only [Int.toNat_natCast]
 refine bZ ha (aC (h3 a ha) (af (evBr (fun h=>evRet (by rw [show (!jc (sv (hdV (f0 a))))=true from h]; rfl)) (fun h=>aH ?_))))
 rw [show (!jc (sv (hdV (f0 a))))=false from h]
 exact Ri n0 f0 n2 f2 a ha h2
theorem aex (x4:Int) (hp:0<=x4/\x4 < n0/\n0<=9223372036854775807/\aE n0 (aa al f0)):aN (Ev (gL n0 f0 n2 f2 x4)) (P8 n0 f0 n2 f2 x4) (.int .i64 (ga (aa al f0) x4.toNat)):=Iy n0 f0 n2 f2 x4 hp
end
def Qx:aB:=bI [.agg [.sl al,.sl am],tI] (fun
 | [.agg [.sl n0 f0,.sl n2 f2],.int _ x4]=>0<=x4/\x4 < n0/\n0<=9223372036854775807/\aE n0 f0
 | _=>False) fun
 | [.agg [.sl n0 f0,.sl n2 f2],.int _ x4]=>.int .i64 (ga f0 x4.toNat)
 | _=>.any
theorem Ku:(vP Qx).Ok Tryz.prog 144:=bY xe Tryz.func144 (by kernel_rfl) fun ds hp=>jE (TS ..) (aex _ _ _ _ _ hp)
inductive rV where
 | L0 (ia0:Int)
def Wi (n0:Nat) (f0:ah) (n2:Nat) (f2:ah) (x4:Int):rV->bp × List O × Option Ex
 | .L0 ia0=>([(6,vi ia0),(5,V.pl 0 0),(2,V.pl 1 0),(1,vi x4)],[O.cells [V.str (sv (hdV (f2 x4.toNat))),vi (ba (f2 x4.toNat)),vi (cQ (f2 x4.toNat)),vi (cM (f2 x4.toNat)),vi (cv (f2 x4.toNat)),vi (be (f2 x4.toNat)),vi (be (ab (f2 x4.toNat))),vi (be (ab (ab (f2 x4.toNat)))),vi (be (ab (ab (ab (f2 x4.toNat))))),vi (be (ab (ab (ab (ab (f2 x4.toNat)))))),vi (be (ab (ab (ab (ab (ab (f2 x4.toNat))))))),vi (be (ab (ab (ab (ab (ab (ab (f2 x4.toNat)))))))),vi (be (ab (ab (ab (ab (ab (ab (ab (f2 x4.toNat))))))))),vi (be (ab (ab (ab (ab (ab (ab (ab (ab (f2 x4.toNat))))))))))] 128,O.cells [V.sl n0 (aa al f0),V.sl n2 (aa am f2)] 25],none)
def aeh:rV->JJ
 | .L0 ia0=>(0,[])
section
variable (n0:Nat) (f0:ah) (n2:Nat) (f2:ah) (x4:Int)
include n0 f0 n2 f2 x4
def MX:T (bN JJ):=aS JJ nB u0 afX [V.agg [V.sl n0 (aa al f0),V.sl n2 (aa am f2)],vi x4]
def Av (cx:List Cx):Lp JJ:=fb (eL (MX n0 f0 n2 f2 x4) [false])
def acf:JJ->Lp JJ
 | (0,cx)=>Av n0 f0 n2 f2 x4 cx
 | (_,cx)=>Av n0 f0 n2 f2 x4 cx
def akq:LD JJ rV:=⟨aeh,acf n0 f0 n2 f2 x4,Wi n0 f0 n2 f2 x4⟩
end
def ti (n0:Nat) (f0:ah) (n2:Nat) (f2:ah) (x4:Int):rV->RT rV
 | .L0 ia0=>.br (decide (ia0 < x4)) (.ob (decide (0<=ia0/\ia0 < (↑n2:Int))) (.br ((sv (hdV (f2 ia0.toNat))).toList == (sv (hdV (f2 x4.toNat))).toList) (.ret (vi 5)) (.next [some (some 0),some (some 1)] (rV.L0 (i64.wrap (ia0+1))) []))) (.asm (true=true->n0<=9223372036854775807) (.obc (.obt (.br (!aA (ba (f2 x4.toNat)) 0 (i64.wrap ((↑n0:Int) - 1))) (.ret (vi 4)) (.obc (.obt (.br (!aA (cQ (f2 x4.toNat)) 1 3) (.ret (vi 2)) (.obc (.obt (.obi (.br (!!aA (cM (f2 x4.toNat)) 1 1000000) (.ob (!!aA (cM (f2 x4.toNat)) 1 1000000) (.obc (.obt (.obi (.obi (.br (!!aA (cv (f2 x4.toNat)) 1 5000000) (.ob (!!aA (cv (f2 x4.toNat)) 1 5000000) (.ob (!!aA (cv (f2 x4.toNat)) 1 5000000) (.obc (.obt (.obi (.br (!!aA (be (f2 x4.toNat)) 0 (cv (f2 x4.toNat))) (.ob (!!aA (be (f2 x4.toNat)) 0 (cv (f2 x4.toNat))) (.obc (.obt (.br (!aA (be (ab (f2 x4.toNat))) 0 1000) (.ret (vi 7)) (.obc (.obt (.obi (.br (!!ef (be (ab (ab (f2 x4.toNat)))) (be (ab (ab (ab (f2 x4.toNat))))) 0 1000) (.ob (!!ef (be (ab (ab (f2 x4.toNat)))) (be (ab (ab (ab (f2 x4.toNat))))) 0 1000) (.obc (.obt (.obi (.br (!!ef (be (ab (ab (ab (ab (f2 x4.toNat)))))) (be (ab (ab (ab (ab (ab (f2 x4.toNat))))))) 0 1000) (.ob (!!ef (be (ab (ab (ab (ab (f2 x4.toNat)))))) (be (ab (ab (ab (ab (ab (f2 x4.toNat))))))) 0 1000) (.obc (.obt (.obi (.br (!!aA (be (ab (ab (ab (ab (ab (ab (f2 x4.toNat)))))))) 1 200000) (.ob (!!aA (be (ab (ab (ab (ab (ab (ab (f2 x4.toNat)))))))) 1 200000) (.obc (.obt (.obi (.br (!!aA (be (ab (ab (ab (ab (ab (ab (ab (f2 x4.toNat))))))))) 0 1000) (.ob (!!aA (be (ab (ab (ab (ab (ab (ab (ab (f2 x4.toNat))))))))) 0 1000) (.obc (.obt (.br (!aA (be (ab (ab (ab (ab (ab (ab (ab (ab (f2 x4.toNat)))))))))) 0 3600) (.ret (vi 7)) (.obi (.obi (.obi (.br (bif cQ (f2 x4.toNat) == 1 then be (ab (ab (ab (ab (ab (ab (ab (ab (f2 x4.toNat))))))))) != 0 else false) (.ret (vi 2)) (.ret (vi 0)))))))))) (.ret (vi 7))))))) (.ret (vi 7))))))) (.ret (vi 7))))))) (.ret (vi 7)))))))))) (.ret (vi 7)))))))) (.ret (vi 7)))))))) (.ret (vi 7)))))))))))))
def LY (n0:Nat) (f0:ah) (n2:Nat) (f2:ah) (x4:Int):RT rV:=.ob (decide (0<=x4/\x4 < (↑n2:Int))) (.obp ((sv (hdV (f2 x4.toNat))).size<=(9223372036854775807:Nat)) (.obt (.br (!jc (sv (hdV (f2 x4.toNat)))) (.ret (vi 6)) (.enter [some (some 1),some (some 0)] (rV.L0 (0)) []))))
theorem TO (n0:Nat) (f0:ah) (n2:Nat) (f2:ah) (x4:Int):dR nB u0 (akq n0 f0 n2 f2 x4) (MX n0 f0 n2 f2 x4) (LY n0 f0 n2 f2 x4) (ti n0 f0 n2 f2 x4):=⟨⟨by kernel_rfl,by kernel_rfl⟩,fun s=>by cases s <;> exact ⟨by kernel_rfl,by kernel_rfl⟩⟩
def Gp (x2 x13:Int):Bool:=bif x2 == 1 then x13 != 0 else false
def yW (f2:ah) (a j:Nat):Bool:=(sv (hdV (f2 j))).toList == (sv (hdV (f2 a))).toList
def Ns (n0:Nat) (f2:ah) (a:Nat):Int:=Hf (aA (ba (f2 a)) 0 (i64.wrap ((n0:Int) - 1))) (aA (cQ (f2 a)) 1 3) (aA (cM (f2 a)) 1 1000000 && (aA (cv (f2 a)) 1 5000000 && (aA (be (f2 a)) 0 (cv (f2 a)) && (aA (be (ab (f2 a))) 0 1000 && (ef (be (ab (ab (f2 a)))) (be (ab (ab (ab (f2 a))))) 0 1000 && (ef (be (ab (ab (ab (ab (f2 a)))))) (be (ab (ab (ab (ab (ab (f2 a))))))) 0 1000 && (aA (be (ab (ab (ab (ab (ab (ab (f2 a)))))))) 1 200000 && (aA (be (ab (ab (ab (ab (ab (ab (ab (f2 a))))))))) 0 1000 && (aA (be (ab (ab (ab (ab (ab (ab (ab (ab (f2 a)))))))))) 0 3600))))))))) (Gp (cQ (f2 a)) (be (ab (ab (ab (ab (ab (ab (ab (ab (f2 a)))))))))))
def jI (n0:Nat) (f2:ah) (a:Nat):Int:=bif !jc (sv (hdV (f2 a))) then 6 else bif jD a (yW f2 a) then 5 else Ns n0 f2 a
section
variable {S:Type} {Nx:S->V->Prop} {r:V} {X Y:RT S} {c:Bool}
theorem nn1 (h:(!!c)=true):c=true:=by cases c; cases h; rfl
theorem nn0 (h:(!!c)=false):c=false:=by cases c; rfl; cases h
section
variable (h2:(!!c)=true->aN Nx X r) (h1:(!!c)=false->aN Nx Y r)
include h2 h1
theorem wG:aN Nx (.br (!!c) (.ob (!!c) X) Y) r:=evBr (fun h=>aM h (h2 h)) h1
theorem aii:aN Nx (.br (!!c) (.ob (!!c) (.ob (!!c) X)) Y) r:=evBr (fun h=>aM h (aM h (h2 h))) h1
end
end
section
variable (n0:Nat) (f0:ah) (n2:Nat) (f2:ah)
include n0 f0 n2 f2
theorem RP (a:Nat) (ha:a < n2) (hn:n2<=9223372036854775807):Ev (ti n0 f0 n2 f2 (a:Int)) (.L0 0) (.int .i64 (bif jD a (yW f2 a) then 5 else Ns n0 f2 a)):=by
 refine iy (n:=a) (by omega) (yW f2 a) (P:=fun x=>Ev (ti n0 f0 n2 f2 (a:Int)) (.L0 x) _) (fun j hlt hj next=>Ev.of rfl (ck hlt (bZ (by omega) (evBr (fun hb=>evRet ?_) (fun hb=>aQ (next hb)))))) (fun hj=>Ev.of rfl (cd ?_))
 ·rw [cP j hlt hb]; rfl
 rw [ca hj,cond_false]
 unfold Ns
 refine evAsm fun _=>av (af (evBr (fun h=>evRet (by rw [show aA (ba (f2 a)) 0 (i64.wrap ((n0:Int) - 1))=false from QM h]; rfl)) (fun h=>?_)))
 rw [show aA (ba (f2 a)) 0 (i64.wrap ((n0:Int) - 1))=true from xc h]
 refine av (af (evBr (fun h=>evRet (by rw [show aA (cQ (f2 a)) 1 3=false from QM h]; rfl)) (fun h=>?_)))
 rw [show aA (cQ (f2 a)) 1 3=true from xc h]
 refine av (af ?_)
 repeat refine evObi ?_
 refine wG (fun h=>?_) (fun h=>evRet (by rw [show aA (cM (f2 a)) 1 1000000=false from nn0 h]; rfl))
 rw [show aA (cM (f2 a)) 1 1000000=true from nn1 h]
 refine av (af ?_)
 repeat refine evObi ?_
 refine aii (fun h=>?_) (fun h=>evRet (by rw [show aA (cv (f2 a)) 1 5000000=false from nn0 h]; rfl))
 rw [show aA (cv (f2 a)) 1 5000000=true from nn1 h]
 refine av (af ?_)
 repeat refine evObi ?_
 refine wG (fun h=>?_) (fun h=>evRet (by rw [show aA (be (f2 a)) 0 (cv (f2 a))=false from nn0 h]; rfl))
 rw [show aA (be (f2 a)) 0 (cv (f2 a))=true from nn1 h]
 refine av (af ?_)
 refine evBr (fun h=>evRet (by rw [show aA (be (ab (f2 a))) 0 1000=false from QM h]; rfl)) (fun h=>?_)
 rw [show aA (be (ab (f2 a))) 0 1000=true from xc h]
 refine av (af ?_)
 repeat refine evObi ?_
 refine wG (fun h=>?_) (fun h=>evRet (by rw [show ef (be (ab (ab (f2 a)))) (be (ab (ab (ab (f2 a))))) 0 1000=false from nn0 h]; rfl))
 rw [show ef (be (ab (ab (f2 a)))) (be (ab (ab (ab (f2 a))))) 0 1000=true from nn1 h]
 refine av (af ?_)
 repeat refine evObi ?_
 refine wG (fun h=>?_) (fun h=>evRet (by rw [show ef (be (ab (ab (ab (ab (f2 a)))))) (be (ab (ab (ab (ab (ab (f2 a))))))) 0 1000=false from nn0 h]; rfl))
 rw [show ef (be (ab (ab (ab (ab (f2 a)))))) (be (ab (ab (ab (ab (ab (f2 a))))))) 0 1000=true from nn1 h]
 refine av (af ?_)
 repeat refine evObi ?_
 refine wG (fun h=>?_) (fun h=>evRet (by rw [show aA (be (ab (ab (ab (ab (ab (ab (f2 a)))))))) 1 200000=false from nn0 h]; rfl))
 rw [show aA (be (ab (ab (ab (ab (ab (ab (f2 a)))))))) 1 200000=true from nn1 h]
 refine av (af ?_)
 repeat refine evObi ?_
 refine wG (fun h=>?_) (fun h=>evRet (by rw [show aA (be (ab (ab (ab (ab (ab (ab (ab (f2 a))))))))) 0 1000=false from nn0 h]; rfl))
 rw [show aA (be (ab (ab (ab (ab (ab (ab (ab (f2 a))))))))) 0 1000=true from nn1 h]
 refine av (af ?_)
 refine evBr (fun h=>evRet (by rw [show aA (be (ab (ab (ab (ab (ab (ab (ab (ab (f2 a)))))))))) 0 3600=false from QM h]; rfl)) (fun h=>?_)
 rw [show aA (be (ab (ab (ab (ab (ab (ab (ab (ab (f2 a)))))))))) 0 3600=true from xc h]
 repeat refine evObi ?_
 exact evBr (fun h=>evRet (by rw [show Gp (cQ (f2 a)) (be (ab (ab (ab (ab (ab (ab (ab (ab (f2 a))))))))))=true from h]; rfl)) (fun h=>evRet (by rw [show Gp (cQ (f2 a)) (be (ab (ab (ab (ab (ab (ab (ab (ab (f2 a))))))))))=false from h]; rfl))
theorem K2 (x4:Int) (hp:0<=x4/\x4 < n2/\n2<=9223372036854775807/\aE n2 f2):aN (Ev (ti n0 f0 n2 f2 x4)) (LY n0 f0 n2 f2 x4) (.int .i64 (jI n0 f2 x4.toNat)):=by
 obtain ⟨h0,h1,h2,h3⟩:=hp
 obtain ⟨a,rfl⟩:∃ a:Nat,x4=(a:Int):=⟨x4.toNat,by omega⟩
 have ha:a < n2:=by omega
 unfold jI
 simp only [Int.toNat_natCast]
 refine bZ ha (aC (h3 a ha) (af (evBr (fun h=>evRet (by rw [show (!jc (sv (hdV (f2 a))))=true from h]; rfl)) (fun h=>aH ?_))))
 rw [show (!jc (sv (hdV (f2 a))))=false from h]
 exact RP n0 f0 n2 f2 a ha h2
theorem adk (x4:Int) (hp:0<=x4/\x4 < n2/\n2<=9223372036854775807/\aE n2 (aa am f2)):aN (Ev (ti n0 f0 n2 f2 x4)) (LY n0 f0 n2 f2 x4) (.int .i64 (jI n0 (aa am f2) x4.toNat)):=K2 n0 f0 n2 f2 x4 hp
end
def M5:aB:=bI [.agg [.sl al,.sl am],tI] (fun
 | [.agg [.sl n0 f0,.sl n2 f2],.int _ x4]=>0<=x4/\x4 < n2/\n2<=9223372036854775807/\aE n2 f2
 | _=>False) fun
 | [.agg [.sl n0 f0,.sl n2 f2],.int _ x4]=>.int .i64 (jI n0 f2 x4.toNat)
 | _=>.any
theorem O1:(vP M5).Ok Tryz.prog 145:=bY xe Tryz.func145 (by kernel_rfl) fun ds hp=>jE (TO ..) (adk _ _ _ _ _ hp)
def zB:bd:=(59,.con LL)::(144,.con Qx)::(145,.con M5)::nB
theorem Ph:aR Tryz.prog eqs its zB:=.con CQ (.con Ku (.con O1 (xe)))
inductive nW where
 | L0 (ia0:Int)
 | L1 (ib0 ib1:Int)
def FW (n0:Nat) (f0:ah) (n2:Nat) (f2:ah):nW->bp × List O × Option Ex
 | .L0 ia0=>([(5,vi ia0),(1,V.pl 0 0)],[O.cells [V.sl n0 (aa al f0),V.sl n2 (aa am f2)] 25],none)
 | .L1 ib0 ib1=>([(7,vi ib0),(5,vi ib1),(1,V.pl 0 0)],[O.cells [V.sl n0 (aa al f0),V.sl n2 (aa am f2)] 25],none)
def abx:nW->JJ
 | .L0 ia0=>(0,[])
 | .L1 ib0 ib1=>(1,[])
section
variable (n0:Nat) (f0:ah) (n2:Nat) (f2:ah)
include n0 f0 n2 f2
def PU:T (bN JJ):=aS JJ zB u0 ai6 [V.agg [V.sl n0 (aa al f0),V.sl n2 (aa am f2)]]
def ua (cx:List Cx):Lp JJ:=fb (eL (PU n0 f0 n2 f2) [false])
def Qk (cx:List Cx):Lp JJ:=fb (eL (u4 zB u0 (0,[]) (ua n0 f0 n2 f2 []) (FW n0 f0 n2 f2 (.L0 (0:Int)))) [false])
def aaE:JJ->Lp JJ
 | (0,cx)=>ua n0 f0 n2 f2 cx
 | (1,cx)=>Qk n0 f0 n2 f2 cx
 | (_,cx)=>ua n0 f0 n2 f2 cx
def aj5:LD JJ nW:=⟨abx,aaE n0 f0 n2 f2,FW n0 f0 n2 f2⟩
def oz:nW->RT nW
 | .L0 ia0=>.asm (true=true->n0<=9223372036854775807) (.br (decide (ia0 < (↑n0:Int))) (.obp ((0:Int)<=ia0/\ia0 < (↑n0:Int)/\n0<=(9223372036854775807:Nat)/\∀ (i:Nat),i < n0->(sv (hdV (f0 i))).size<=(9223372036854775807:Nat)) (.obt (.br (ga (aa al f0) ia0.toNat != 0) (.ret (V.tup [vi 1,vi ia0,vi (ga (aa al f0) ia0.toNat)])) (.next [some (some 0)] (nW.L0 (i64.wrap (ia0+1))) [])))) (.enter [some (some 0)] (nW.L1 (0) (ia0)) []))
 | .L1 ib0 ib1=>.asm (true=true->n2<=9223372036854775807) (.br (decide (ib0 < (↑n2:Int))) (.obp ((0:Int)<=ib0/\ib0 < (↑n2:Int)/\n2<=(9223372036854775807:Nat)/\∀ (i:Nat),i < n2->(sv (hdV (f2 i))).size<=(9223372036854775807:Nat)) (.obt (.br (jI n0 (aa am f2) ib0.toNat != 0) (.ret (V.tup [vi 2,vi ib0,vi (jI n0 (aa am f2) ib0.toNat)])) (.next [some (some 0)] (nW.L1 (i64.wrap (ib0+1)) (ib1)) [])))) (.ret (V.tup [vi 0,vi 0,vi 0])))
end
section
variable (n0:Nat)
include n0
def Jx (f0:ah) (n2:Nat) (f2:ah):RT nW:=.asm (true=true->n0<=9223372036854775807) (.obi (.obi (.asm ((!decide (10 < (↑n0:Int)))=true->n2<=9223372036854775807) (.obi (.obi (.br (bif decide (10 < (↑n0:Int)) then true else decide (20 < (↑n2:Int))) (.ret (V.tup [vi 0,vi 0,vi 3])) (.enter [some (some 0)] (nW.L0 (0)) [])))))))
theorem Vg (f0:ah) (n2:Nat) (f2:ah):dR zB u0 (aj5 n0 f0 n2 f2) (PU n0 f0 n2 f2) (Jx n0 f0 n2 f2) (oz n0 f0 n2 f2):=⟨⟨by kernel_rfl,by kernel_rfl⟩,fun s=>by cases s <;> exact ⟨by kernel_rfl,by kernel_rfl⟩⟩
def zL (n2:Nat) (f2:ah):Int × Int × Int:=vU n2 (jI n0 (aa am f2)) 2 (0,0,0)
def uV (f0:ah) (n2:Nat) (f2:ah):Int × Int × Int:=bif (bif decide (10 < (n0:Int)) then true else decide (20 < (n2:Int))) then (0,0,3) else vU n0 (ga (aa al f0)) 1 (zL n0 n2 f2)
theorem Wa (f0:ah) (n2:Nat) (f2:ah) (hs:aE n2 f2) (t:Int):Ev (oz n0 f0 n2 f2) (.L1 0 t) (HE (zL n0 n2 f2)):=by
 by_cases hn:n2<=9223372036854775807
 ·refine iy (n:=n2) hn (fun i=>jI n0 (aa am f2) i != 0) (P:=fun i=>Ev (oz n0 f0 n2 f2) (.L1 i t) _) (fun i hlt hj next=>Ev.of rfl (evAsm fun _=>ck hlt (aC ⟨by omega,by omega,hn,hs⟩ (af (evBr (fun hb=>evRet ?_) (fun hb=>aQ (next hb))))))) (fun hj=>Ev.of rfl (evAsm fun _=>cd (evRet ?_)))
  ·unfold zL; rw [iQ 2 _ hlt hb hj]; rfl
  ·unfold zL; rw [jO 2 _ hj]; rfl
 ·exact Ev.of rfl (evAsm fun h=>absurd (h rfl) hn)
theorem T4 (f0:ah) (n2:Nat) (f2:ah) (h0:aE n0 f0) (hs:aE n2 f2):Ev (oz n0 f0 n2 f2) (.L0 0) (HE (vU n0 (ga (aa al f0)) 1 (zL n0 n2 f2))):=by
 by_cases hn:n0<=9223372036854775807
 ·refine iy (n:=n0) hn (fun i=>ga (aa al f0) i != 0) (P:=fun i=>Ev (oz n0 f0 n2 f2) (.L0 i) _) (fun i hlt hj next=>Ev.of rfl (evAsm fun _=>ck hlt (aC ⟨by omega,by omega,hn,h0⟩ (af (evBr (fun hb=>evRet ?_) (fun hb=>aQ (next hb))))))) (fun hj=>Ev.of rfl (evAsm fun _=>cd (aH ?_)))
  ·rw [iQ 1 _ hlt hb hj]; rfl
  ·rw [jO 1 _ hj]; exact Wa n0 f0 n2 f2 hs _
 ·exact Ev.of rfl (evAsm fun h=>absurd (h rfl) hn)
def sH (f0:ah) (n2:Nat) (f2:ah):Int:=(uV n0 f0 n2 f2).1
def sI (f0:ah) (n2:Nat) (f2:ah):Int:=(uV n0 f0 n2 f2).2.1
def b8 (f0:ah) (n2:Nat) (f2:ah):Int:=(uV n0 f0 n2 f2).2.2
theorem Lc (f0:ah) (n2:Nat) (f2:ah) (hp:aE n0 f0/\aE n2 f2):aN (Ev (oz n0 f0 n2 f2)) (Jx n0 f0 n2 f2) (.tup [.int .i64 (sH n0 f0 n2 f2),.int .i64 (sI n0 f0 n2 f2),.int .i64 (b8 n0 f0 n2 f2)]):=by
 unfold sH sI b8 uV
 refine evAsm fun _=>evObi (evObi (evAsm fun _=>evObi (evObi (evBr (fun h=>evRet (by rw [h]; rfl)) (fun h=>aH ?_)))))
 rw [h]
 exact T4 n0 f0 n2 f2 hp.1 hp.2
theorem aaI (f0:ah) (n2:Nat) (f2:ah) (hp:aE n0 (aa al f0)/\aE n2 (aa am f2)):aN (Ev (oz n0 f0 n2 f2)) (Jx n0 f0 n2 f2) (.tup [.int .i64 (sH n0 (aa al f0) n2 (aa am f2)),.int .i64 (sI n0 (aa al f0) n2 (aa am f2)),.int .i64 (b8 n0 (aa al f0) n2 (aa am f2))]):=Lc n0 f0 n2 f2 hp
end
def PK:aB:=bI [.agg [.sl al,.sl am]] (fun
 | [.agg [.sl n0 f0,.sl n2 f2]]=>aE n0 f0/\aE n2 f2
 | _=>False) fun
 | [.agg [.sl n0 f0,.sl n2 f2]]=>.tup [.int .i64 (sH n0 f0 n2 f2),.int .i64 (sI n0 f0 n2 f2),.int .i64 (b8 n0 f0 n2 f2)]
 | _=>.any
theorem IC:(vP PK).Ok Tryz.prog 63:=bY Ph Tryz.func63 (by kernel_rfl) fun ds hp=>jE (Vg ..) (aaI _ _ _ _ hp)
theorem yao {n:Nat} {p q:Nat->Bool} (h:∀ i,i < n->p i=q i):cq n p=cq n q:=by
 cases hq:cq n q with
 | true=>exact er fun i hi=>by rw [h i hi]; exact dQ hq i hi
 | false =>
   cases hp:cq n p with
   | false=>rfl
   | true=>rw [er fun i hi=>by rw [← h i hi]; exact dQ hp i hi] at hq; cases hq
theorem m8 (n:Nat) (f:Nat->List V) (lo hi:Int):dq n f lo hi=cq n fun i=>aA (ay (f i)) lo hi:=by
 show (!(decide (0<=vV n fun ii=>pg (ay (f ii)) lo hi)))=_
 rw [yah]
 unfold jD
 rw [Bool.not_not]
 exact yao fun i _=>by
  show (!(!ar (ay (f i)) lo hi))=ar (ay (f i)) lo hi
  rw [Bool.not_not]
theorem Cg (a b:Bool):HP a b=!(a && b):=by cases a <;> cases b <;> rfl
theorem rD (s:ByteArray) (i:Nat):kR s i=true ↔ ¬ (97<=(s.data.toList.getD i 0).toNat/\(s.data.toList.getD i 0).toNat<=122)/\¬ (48<=(s.data.toList.getD i 0).toNat/\(s.data.toList.getD i 0).toNat<=57)/\(s.data.toList.getD i 0).toNat ≠ 45:=by
 have key:∀ (p1 p2 p4 p5 p6:Bool),(!bif bif bif p1 then p2 else false then true else bif p4 then p5 else false then true else p6)=true ↔ ¬ (p1=true/\p2=true)/\¬ (p4=true/\p5=true)/\¬ (p6=true):=by decide
 unfold kR
 rw [key]
 simp only [decide_eq_true_eq,beq_iff_eq]
 omega
theorem vv (s:ByteArray):vR s=false ↔ (1<=s.size/\s.size<=24)/\97<=(s.data.toList.getD 0 0).toNat/\(s.data.toList.getD 0 0).toNat<=122:=by
 have key:∀ (p1 p2 p4 p5:Bool),(bif bif bif p1 then true else p2 then true else p4 then true else p5)=false ↔ ¬ (p1=true)/\¬ (p2=true)/\¬ (p4=true)/\¬ (p5=true):=by decide
 unfold vR
 rw [key]
 simp only [decide_eq_true_eq]
 omega
theorem Gy (s:ByteArray):jc s=iF s:=by
 rw [Bool.eq_iff_iff]
 unfold jc iF
 simp only [Bool.and_eq_true,decide_eq_true_eq,wi,Bool.not_eq_true']
 constructor
 ·intro h
  cases hc:vR s with
  | true=>rw [hc] at h; cases h
  | false =>
    rw [hc,cond_false] at h
    have h1:=(vv s).1 hc
    refine ⟨fun i hi=>?_,by omega,by omega⟩
    have h2:=dQ h i hi
    cases hb:wX ((s.data.toList.getD i 0).toNat:Int) (i:Int) with
    | false=>rfl
    | true =>
      obtain ⟨g1,g2⟩:=(my _ i).1 hb
      rcases g2 with e | ⟨g3,g4⟩
      ·subst e; exact (g1 h1.2).elim
      ·rw [(rD s i).2 ⟨g1,g3,g4⟩] at h2; cases h2
 ·rintro ⟨h1,h2,h3⟩
  have h0:=h1 0 h2
  have hl:97<=(s.data.toList.getD 0 0).toNat/\(s.data.toList.getD 0 0).toNat<=122:=by
   apply Classical.byContradiction
   intro hn
   rw [(my _ 0).2 ⟨hn,.inl rfl⟩] at h0; cases h0
  rw [(vv s).2 ⟨⟨by omega,h3⟩,hl⟩,cond_false]
  refine er fun i hi=>?_
  cases hb:kR s i with
  | false=>rfl
  | true =>
    obtain ⟨g1,g2,g3⟩:=(rD s i).1 hb
    have:=h1 i hi
    rw [(my _ i).2 ⟨g1,.inr ⟨g2,g3⟩⟩] at this; cases this
theorem H4 (n1:Nat) (f1:ah) (n3:Nat) (f3:ah) (n5:Nat) (f5:ah) (x7 x8:Int):lS n1 f1 n3 f3 n5 f5 x7 x8=Bz n1 f1 n3 f3 n5 f5 x7 x8:=by
 have e1:∀ n f,dq n f (-5000) 5000=jo n f:=fun n f=>m8 n f _ _
 unfold lS Bz
 rw [Cg,Cg,Cg,e1,e1]
 have e2:(jD n5 (sho n3 f5))=jD n5 (pP n3 f5):=rfl
 rw [e2]
 cases he:jD n5 (pP n3 f5) with
 | true=>rfl
 | false =>
   have hrow:∀ i,i < n5->au (hdV (f5 i))=n3:=fun i hi=>by
    cases hb:pP n3 f5 i with
    | true=>rw [cP i hi hb] at he; cases he
    | false=>unfold pP at hb; simp at hb; omega
   have e3:jD n5 (wil f5)=!cq n5 (gG n3 f5):=by
    unfold jD
    rw [yao (q:=gG n3 f5) fun i hi=>by
     show (!(!dq (au (hdV (f5 i))) (aa ae fun j=>ao ae (bj (hdV (f5 i)) j)) 0 10000000))=_
     rw [Bool.not_not,m8,hrow i hi]; rfl]
   have e4:Up x7 x8=!kl x7 x8:=by
    show (!dq 2 _ 0 10000000)=_
    rw [m8]
    show (!((true && aA x7 0 10000000) && aA x8 0 10000000))=_
    unfold kl
    cases aA x7 0 10000000 <;> cases aA x8 0 10000000 <;> rfl
   unfold pb
   rw [e3,e4]
   show (bif _ then _ else bif _ then _ else bif _ then _ else bif _ then _ else _)=(bif _ then _ else bif _ then _ else bif _ then _ else bif _ then _ else _)
   cases kl x7 x8 <;> cases cq n5 (gG n3 f5) <;> rfl
theorem ado (f:Nat->List V) (a:Nat):iK f a=ga f a:=by
 unfold iK ga
 rw [Gy,show yc f a=Am f a from funext fun j=>by unfold yc Am; rw [Nat.zero_add]]
 unfold yp
 rw [H4]
 rfl
theorem vM (x7 x8:Int):eP x7 x8 0 1000=ef x7 x8 0 1000:=by
 unfold eP ef aA
 by_cases h1:(0:Int)<=x7 <;> by_cases h2:x7<=x8 <;> by_cases h3:x8<=1000 <;> by_cases h4:x7<=1000 <;> by_cases h5:(0:Int)<=x8 <;> simp only [h1,h2,h3,h4,h5,decide_true,decide_false,cond_true,cond_false] <;> omega
theorem acF {a k num q q':Bool} (h:num=true->q=q'):Hf a k num q=Hf a k num q':=by
 cases num with
 | false=>rfl
 | true=>rw [h rfl]
theorem adR (f:Nat->List V) (n a:Nat):iI f n a=jI n f a:=by
 unfold iI jI
 rw [Gy,show xt f a=yW f a from funext fun j=>by unfold xt yW; rw [Nat.zero_add]]
 unfold xU nu Ns
 rw [vM,vM]
 congr 2
 refine acF fun h=>?_
 simp only [Bool.and_eq_true] at h
 have h13:=h.2.2.2.2.2.2.2.2
 unfold Ra Gp
 unfold ar at h13
 generalize be (ab (ab (ab (ab (ab (ab (ab (ab (f a)))))))))=x at h13 ⊢
 have hx:0<=x:=by
  by_cases h0:(0:Int)<=x
  ·exact h0
  ·rw [jx h0] at h13; cases h13
 congr 1
 by_cases e:x=0
 ·subst e; rfl
 ·rw [dqt (by omega)]; simp [e]
theorem m4 (n0:Nat) (f0:ah) (n2:Nat) (f2:ah):(kY n0 f0 n2 f2,kP n0 f0 n2 f2,bC n0 f0 n2 f2)=uV n0 f0 n2 f2:=by
 have e1:∀ f,iK f=ga f:=fun f=>funext fun a=>ado f a
 have e2:∀ f n,iI f n=jI n f:=fun f n=>funext fun a=>adR f n a
 unfold kY kP bC uV zL vU eR dP eN dL
 rw [e1,e2]
 cases (bif decide (10 < (n0:Int)) then true else decide (20 < (n2:Int))) with
 | true=>rfl
 | false =>
   simp only [cond_false]
   generalize de n0 _=x
   generalize eW n0 _=y
   generalize de n2 _=z
   generalize eW n2 _=u
   cases x != 0 <;> cases z != 0 <;> rfl
def fQ:bd:=(63,.con PK)::zB
theorem gb:aR Tryz.prog eqs its fQ:=.con IC (Ph)
section
variable (x0 x1 x2 x3:Int)
include x0 x1 x2 x3
def XA:RT Empty:=.ret (vi (i64.wrap (i64.wrap (x2 * x0)+i64.wrap (x3 * x1))))
theorem S2:dh dm (aS JJ fQ u0 Xs [V.agg [vi x0,vi x1],vi x2,vi x3]) (XA x0 x1 x2 x3):=⟨by kernel_rfl,by kernel_rfl⟩
def aK:Int:=i64.wrap (i64.wrap (x2 * x0)+i64.wrap (x3 * x1))
def NL:V:=.int i64 (aK x0 x1 x2 x3)
theorem adc:aN cr (XA x0 x1 x2 x3) (NL x0 x1 x2 x3):=evRet (by unfold NL aK; rfl)
end
def Lw:aB:=bI [.agg b4,tI,tI] (fun _=>True) fun
 | [.agg [.int _ x0,.int _ x1],.int _ x2,.int _ x3]=>NL x0 x1 x2 x3
 | _=>.any
theorem yaN:(vP Lw).Ok Tryz.prog 154:=bY gb Tryz.func154 (by kernel_rfl) fun ds hp=>dG (S2 ..) (adc _ _ _ _)
section
variable (x0 x1 x2 x3:Int)
include x0 x1 x2 x3
def XI:RT Empty:=.ret (vi (i64.wrap (i64.wrap (x2 * x1) - i64.wrap (x3 * x0))))
theorem SQ:dh dm (aS JJ fQ u0 Zm [V.agg [vi x0,vi x1],vi x2,vi x3]) (XI x0 x1 x2 x3):=⟨by kernel_rfl,by kernel_rfl⟩
def aJ:Int:=i64.wrap (i64.wrap (x2 * x1) - i64.wrap (x3 * x0))
def Ir:V:=.int i64 (aJ x0 x1 x2 x3)
theorem adr:aN cr (XI x0 x1 x2 x3) (Ir x0 x1 x2 x3):=evRet (by unfold Ir aJ; rfl)
end
def Ic:aB:=bI [.agg b4,tI,tI] (fun _=>True) fun
 | [.agg [.int _ x0,.int _ x1],.int _ x2,.int _ x3]=>Ir x0 x1 x2 x3
 | _=>.any
theorem LW:(vP Ic).Ok Tryz.prog 155:=bY gb Tryz.func155 (by kernel_rfl) fun ds hp=>dG (SQ ..) (adr _ _ _ _)
def Zt (x0 x1:Int):RT Empty:=.ret (vi (i64.wrap (i64.wrap (x0 * x0)+i64.wrap (x1 * x1))))
theorem VT (x0 x1:Int):dh dm (aS JJ fQ u0 Y3 [V.agg [vi x0,vi x1]]) (Zt x0 x1):=⟨by kernel_rfl,by kernel_rfl⟩
def bu (x0 x1:Int):Int:=i64.wrap (i64.wrap (x0 * x0)+i64.wrap (x1 * x1))
def MB (x0 x1:Int):V:=.int i64 (bu x0 x1)
theorem ady (x0 x1:Int):aN cr (Zt x0 x1) (MB x0 x1):=evRet (by unfold MB bu; rfl)
def MM:aB:=bI [.agg b4] (fun _=>True) fun
 | [.agg [.int _ x0,.int _ x1]]=>MB x0 x1
 | _=>.any
theorem NH:(vP MM).Ok Tryz.prog 156:=bY gb Tryz.func156 (by kernel_rfl) fun ds hp=>dG (VT ..) (ady _ _)
def XT (x0:Int):RT Empty:=.ret (vi (min (max x0 (-200000)) 200000))
theorem Rh (x0:Int):dh dm (aS JJ fQ u0 YZ [vi x0]) (XT x0):=⟨by kernel_rfl,by kernel_rfl⟩
def bL (x0:Int):Int:=min (max x0 (-200000)) 200000
def Le (x0:Int):V:=.int i64 (bL x0)
theorem aaM (x0:Int):aN cr (XT x0) (Le x0):=evRet (by unfold Le bL; rfl)
def Qs:aB:=bI ae (fun _=>True) fun
 | [.int _ x0]=>Le x0
 | _=>.any
theorem Nj:(vP Qs).Ok Tryz.prog 193:=bY gb Tryz.func193 (by kernel_rfl) fun ds hp=>dG (Rh ..) (aaM _)
def X3 (x0:Int):RT Empty:=.ret (vi (max (-200000) (min x0 200000)))
theorem R3 (x0:Int):dh dm (aS JJ fQ u0 ahF [vi x0]) (X3 x0):=⟨by kernel_rfl,by kernel_rfl⟩
def ea (x0:Int):Int:=max (-200000) (min x0 200000)
def Qd (x0:Int):V:=.int i64 (ea x0)
theorem adG (x0:Int):aN cr (X3 x0) (Qd x0):=evRet (by unfold Qd ea; rfl)
def Ie:aB:=bI ae (fun _=>True) fun
 | [.int _ x0]=>Qd x0
 | _=>.any
theorem IP:(vP Ie).Ok Tryz.prog 256:=bY gb Tryz.func256 (by kernel_rfl) fun ds hp=>dG (R3 ..) (adG _)
def Ze (x0:Int):RT Empty:=.obc (.obt (.ret (V.bool (bz x0 (-100000) 100000))))
theorem VZ (x0:Int):dh dm (aS JJ fQ u0 aiY [vi x0]) (Ze x0):=⟨by kernel_rfl,by kernel_rfl⟩
def cL (x0:Int):Bool:=bz x0 (-100000) 100000
def Mc (x0:Int):V:=.bool (cL x0)
theorem adL (x0:Int):aN cr (Ze x0) (Mc x0):=av (af (evRet (by unfold Mc cL; rfl)))
def Io:aB:=bI ae (fun _=>True) fun
 | [.int _ x0]=>Mc x0
 | _=>.any
theorem P5:(vP Io).Ok Tryz.prog 74:=bY gb Tryz.func74 (by kernel_rfl) fun ds hp=>dG (VZ ..) (adL _)
def Zn (x0:Int):RT Empty:=.obc (.obt (.ret (V.bool !d9 x0 (-100000) 100000)))
theorem UZ (x0:Int):dh dm (aS JJ fQ u0 Xq [vi x0]) (Zn x0):=⟨by kernel_rfl,by kernel_rfl⟩
def mN (x0:Int):Bool:=!d9 x0 (-100000) 100000
def Pt (x0:Int):V:=.bool (mN x0)
theorem adW (x0:Int):aN cr (Zn x0) (Pt x0):=av (af (evRet (by unfold Pt mN; rfl)))
def Lu:aB:=bI ae (fun _=>True) fun
 | [.int _ x0]=>Pt x0
 | _=>.any
theorem OF:(vP Lu).Ok Tryz.prog 153:=bY gb Tryz.func153 (by kernel_rfl) fun ds hp=>dG (UZ ..) (adW _)
def W0 (x0 x1:Int):RT Empty:=.obc (.obt (.br (bz x0 (-1000) 1000) (.ob (bz x0 (-1000) 1000) (.obc (.obt (.obi (.obi (.obi (.obi (.obi (.obi (.ret (V.bool (bif bz x1 (-1000) 1000 then bif x0 != 0 then true else x1 != 0 else false)))))))))))) (.ret (V.kb false))))
theorem V0 (x0 x1:Int):dh dm (aS JJ fQ u0 aiW [vi x0,vi x1]) (W0 x0 x1):=⟨by kernel_rfl,by kernel_rfl⟩
def fi (x0 x1:Int):Bool:=bif bz x0 (-1000) 1000 then bif bz x1 (-1000) 1000 then bif x0 != 0 then true else x1 != 0 else false else false
def En (x0 x1:Int):V:=.bool (fi x0 x1)
theorem acR (x0 x1:Int):aN cr (W0 x0 x1) (En x0 x1):=av (af (evBr (fun h0=>aM (by first | assumption | (fail)) (av (af (evObi (evObi (evObi (evObi (evObi (evObi (evRet (by unfold En fi; try rw [h0]; rfl))))))))))) (fun h0=>evRet (by unfold En fi; try rw [h0]; rfl))))
def LO:aB:=bI b4 (fun _=>True) fun
 | [.int _ x0,.int _ x1]=>En x0 x1
 | _=>.any
theorem Oe:(vP LO).Ok Tryz.prog 57:=bY gb Tryz.func57 (by kernel_rfl) fun ds hp=>dG (V0 ..) (acR _ _)
def W3 (x0 x1:Int):RT Empty:=.obc (.obt (.obi (.br (d9 x0 (-1000) 1000) (.ob (d9 x0 (-1000) 1000) (.obc (.obt (.obi (.obi (.obi (.ret (V.bool (bif d9 x1 (-1000) 1000 then !(x0 == 0 && (x1 == 0 && true)) else false))))))))) (.ret (V.kb false)))))
theorem RO (x0 x1:Int):dh dm (aS JJ fQ u0 Yl [V.agg [vi x0,vi x1]]) (W3 x0 x1):=⟨by kernel_rfl,by kernel_rfl⟩
def mJ (x0 x1:Int):Bool:=bif d9 x0 (-1000) 1000 then bif d9 x1 (-1000) 1000 then !(x0 == 0 && (x1 == 0 && true)) else false else false
def D4 (x0 x1:Int):V:=.bool (mJ x0 x1)
theorem abz (x0 x1:Int):aN cr (W3 x0 x1) (D4 x0 x1):=av (af (evObi (evBr (fun h0=>aM (by first | assumption | (fail)) (av (af (evObi (evObi (evObi (evRet (by unfold D4 mJ; try rw [h0]; rfl)))))))) (fun h0=>evRet (by unfold D4 mJ; try rw [h0]; rfl)))))
def N4:aB:=bI [.agg b4] (fun _=>True) fun
 | [.agg [.int _ x0,.int _ x1]]=>D4 x0 x1
 | _=>.any
theorem Ot:(vP N4).Ok Tryz.prog 54:=bY gb Tryz.func54 (by kernel_rfl) fun ds hp=>dG (RO ..) (abz _ _)
inductive rA where
 | L0 (ia0 ia1:Int)
def Uu (n0:Nat) (f0:ah):rA->bp × List O × Option Ex
 | .L0 ia0 ia1=>([(4,vi ia0),(3,vi ia1),(0,V.sl n0 (aa ae f0))],[],none)
def ack:rA->JJ
 | .L0 ia0 ia1=>(0,[])
section
variable (n0:Nat) (f0:ah)
include n0 f0
def Oy:T (bN JJ):=aS JJ fQ u0 aje [V.sl n0 (aa ae f0)]
def zA (cx:List Cx):Lp JJ:=fb (eL (Oy n0 f0) [false])
def acp:JJ->Lp JJ
 | (0,cx)=>zA n0 f0 cx
 | (_,cx)=>zA n0 f0 cx
def akF:LD JJ rA:=⟨ack,acp n0 f0,Uu n0 f0⟩
def yC:rA->RT rA
 | .L0 ia0 ia1=>.asm (true=true->n0<=9223372036854775807) (.br (decide (ia0 < (↑n0:Int))) (.ob (decide (0<=ia0/\ia0 < (↑n0:Int))) (.next [] (rA.L0 (i64.wrap (ia0+1)) (max ia1 (ay (f0 ia0.toNat)))) [])) (.ret (vi ia1)))
def Md:RT rA:=.asm (true=true->n0<=9223372036854775807) (.br (decide ((↑n0:Int) < 1)) (.fail) (.ob (decide ((0:Int)<=0/\0 < (↑n0:Int))) (.enter [] (rA.L0 (1) (ay (f0 0))) [])))
theorem QY:dR fQ u0 (akF n0 f0) (Oy n0 f0) (Md n0 f0) (yC n0 f0):=⟨⟨by kernel_rfl,by kernel_rfl⟩,fun s=>by cases s <;> exact ⟨by kernel_rfl,by kernel_rfl⟩⟩
end
def xb (p:Nat->Int) (z:Int):Nat->Int
 | 0=>z
 | k+1=>max (xb p z k) (p k)
def eH (n0:Nat) (f0:ah):Int:=xb (fun i=>ay (f0 i)) (ay (f0 0)) n0
theorem Pp (n0:Nat) (f0:ah) (hp:1<=n0):aN (Ev (yC n0 f0)) (Md n0 f0) (.int .i64 (eH n0 f0)):=by
 refine bk fun hn=>ft (jx (by omega)) (aM (dqt (by omega)) (aH ?_))
 have key:=dH (n:=n0) (P:=fun i=>1<=i->Ev (yC n0 f0) (.L0 i (xb (fun i=>ay (f0 i)) (ay (f0 0)) i)) (.int .i64 (eH n0 f0))) fun i hi ih h1=>by
  refine Ev.of rfl (evAsm fun _=>evBr (fun h=>?_) (fun h=>evRet ?_))
  ·have hlt:i < n0:=by have:=of_decide_eq_true h; omega
   refine bZ hlt (aQ ?_)
   rw [jT hlt hn]
   exact ih hlt (by omega)
  ·have:i=n0:=by have:=of_decide_eq_false h; omega
   subst this; rfl
 have:=key 1 hp (Nat.le_refl _)
 rwa [show xb (fun i=>ay (f0 i)) (ay (f0 0)) 1=ay (f0 0) from Int.max_self _] at this
theorem acd (n0:Nat) (f0:ah) (hp:1<=n0):aN (Ev (yC n0 f0)) (Md n0 f0) (.int .i64 (eH n0 (aa ae f0))):=Pp n0 f0 hp
def LF:aB:=bI [.sl ae] (fun
 | [.sl n0 f0]=>1<=n0
 | _=>False) fun
 | [.sl n0 f0]=>.int .i64 (eH n0 f0)
 | _=>.any
theorem BF:(vP LF).Ok Tryz.prog 143:=bY gb Tryz.func143 (by kernel_rfl) fun ds hp=>jE (QY ..) (acd _ _ hp)
inductive nt where
 | L0 (ia0 ia1:Int)
 | L1 (ib0 ib1 ib2:Int)
def GI (s0:ByteArray) (n1:Nat) (f1:ah) (n3:Nat) (f3:ah) (n5:Nat) (f5:ah) (x7 x8:Int):nt->bp × List O × Option Ex
 | .L0 ia0 ia1=>([(4,vi ia0),(3,vi ia1),(1,V.pl 0 0)],[O.cells [V.str s0,V.sl n1 (aa ae f1),V.sl n3 (aa ae f3),V.sl n5 (aa [Ty.sl ae] f5),vi x7,vi x8] 126],none)
 | .L1 ib0 ib1 ib2=>([(5,vi ib0),(4,vi ib1),(3,vi ib2),(1,V.pl 0 0)],[O.cells [V.str s0,V.sl n1 (aa ae f1),V.sl n3 (aa ae f3),V.sl n5 (aa [Ty.sl ae] f5),vi x7,vi x8] 126],none)
def adm:nt->JJ
 | .L0 ia0 ia1=>(0,[])
 | .L1 ib0 ib1 ib2=>(1,[])
section
variable (s0:ByteArray) (n1:Nat) (f1:ah) (n3:Nat) (f3:ah) (n5:Nat) (f5:ah) (x7 x8:Int)
include s0 n1 f1 n3 f3 n5 f5 x7 x8
def Qm:T (bN JJ):=aS JJ fQ u0 ahX [V.agg [V.str s0,V.sl n1 (aa ae f1),V.sl n3 (aa ae f3),V.sl n5 (aa [Ty.sl ae] f5),vi x7,vi x8]]
def s4 (cx:List Cx):Lp JJ:=fb (eL (Qm s0 n1 f1 n3 f3 n5 f5 x7 x8) [])
def Ke (cx:List Cx):Lp JJ:=fb (eL (u4 fQ u0 (0,[]) (s4 s0 n1 f1 n3 f3 n5 f5 x7 x8 []) (GI s0 n1 f1 n3 f3 n5 f5 x7 x8 (.L0 (0:Int) (0:Int)))) [true])
def ad9:JJ->Lp JJ
 | (0,cx)=>s4 s0 n1 f1 n3 f3 n5 f5 x7 x8 cx
 | (1,cx)=>Ke s0 n1 f1 n3 f3 n5 f5 x7 x8 cx
 | (_,cx)=>s4 s0 n1 f1 n3 f3 n5 f5 x7 x8 cx
def akj:LD JJ nt:=⟨adm,ad9 s0 n1 f1 n3 f3 n5 f5 x7 x8,GI s0 n1 f1 n3 f3 n5 f5 x7 x8⟩
end
def og (s0:ByteArray) (n1:Nat) (f1:ah) (n3:Nat) (f3:ah) (n5:Nat) (f5:ah) (x7 x8:Int):nt->RT nt
 | .L0 ia0 ia1=>.asm (true=true->n5<=9223372036854775807) (.br (decide (ia0 < (↑n5:Int))) (.enter [some (some 0)] (nt.L1 (0) (ia0) (ia1)) []) (.ret (vi ia1)))
 | .L1 ib0 ib1 ib2=>.ob (decide (0<=ib1/\ib1 < (↑n5:Int))) (.asm (true=true->au (hdV (f5 ib1.toNat))<=9223372036854775807) (.br (decide (ib0 < (↑(au (hdV (f5 ib1.toNat))):Int))) (.ob (decide (0<=ib1/\ib1 < (↑n5:Int))) (.ob (decide (0<=ib0/\ib0 < (↑(au (hdV (f5 ib1.toNat))):Int))) (.next [some (some 0)] (nt.L1 (i64.wrap (ib0+1)) (ib1) (max ib2 (ay (bj (hdV (f5 ib1.toNat)) ib0.toNat)))) []))) (.next [some (some 0)] (nt.L0 (i64.wrap (ib1+1)) (ib2)) [])))
def KE (s0:ByteArray) (n1:Nat) (f1:ah) (n3:Nat) (f3:ah) (n5:Nat) (f5:ah) (x7 x8:Int):RT nt:=.enter [some (some 0)] (nt.L0 (0) (x7)) []
theorem Se (s0:ByteArray) (n1:Nat) (f1:ah) (n3:Nat) (f3:ah) (n5:Nat) (f5:ah) (x7 x8:Int):dR fQ u0 (akj s0 n1 f1 n3 f3 n5 f5 x7 x8) (Qm s0 n1 f1 n3 f3 n5 f5 x7 x8) (KE s0 n1 f1 n3 f3 n5 f5 x7 x8) (og s0 n1 f1 n3 f3 n5 f5 x7 x8):=⟨⟨by kernel_rfl,by kernel_rfl⟩,fun s=>by cases s <;> exact ⟨by kernel_rfl,by kernel_rfl⟩⟩
def grL (l:Nat->Nat) (v:Nat->Nat->Int) (z:Int):Nat->Int
 | 0=>z
 | k+1=>xb (v k) (grL l v z k) (l k)
abbrev grR (f5:ah) (z:Int) (k:Nat):Int:=grL (fun i=>au (hdV (f5 i))) (fun i j=>ay (bj (hdV (f5 i)) j)) z k
def nN (n5:Nat) (f5:ah) (x7:Int):Int:=grR f5 x7 n5
section
variable (s0:ByteArray) (n1:Nat) (f1:ah) (n3:Nat) (f3:ah) (n5:Nat) (f5:ah) (x7 x8:Int)
include s0 n1 f1 n3 f3 n5 f5 x7 x8
theorem US (hn:n5<=9223372036854775807) (i:Nat) (hi:i < n5) (r:V) (hx:Ev (og s0 n1 f1 n3 f3 n5 f5 x7 x8) (.L0 (i64.wrap ((i:Int)+1)) (grR f5 x7 (i+1))) r):Ev (og s0 n1 f1 n3 f3 n5 f5 x7 x8) (.L1 0 i (grR f5 x7 i)) r:=by
 by_cases h5:au (hdV (f5 i))<=9223372036854775807
 ·refine As h5 (P:=fun x=>Ev (og s0 n1 f1 n3 f3 n5 f5 x7 x8) (.L1 x i (xb (fun j=>ay (bj (hdV (f5 i)) j)) (grR f5 x7 i) x.toNat)) r) (fun j hlt nx=>?_) (Ev.of rfl (bZ hi (evAsm fun _=>cd (aQ ?_))))
  ·rw [show (i64.wrap ((j:Int)+1)).toNat=j+1 by rw [jT hlt h5]; rfl] at nx
   exact Ev.of rfl (bZ hi (evAsm fun _=>ck hlt (bZ hi (bZ hlt (aQ nx)))))
  ·exact hx
 ·exact Ev.of rfl (bZ hi (evAsm fun h=>absurd (h rfl) h5))
theorem N8:aN (Ev (og s0 n1 f1 n3 f3 n5 f5 x7 x8)) (KE s0 n1 f1 n3 f3 n5 f5 x7 x8) (.int .i64 (nN n5 f5 x7)):=by
 refine aH ?_
 by_cases hn:n5<=9223372036854775807
 ·refine As hn (P:=fun x=>Ev (og s0 n1 f1 n3 f3 n5 f5 x7 x8) (.L0 x (grR f5 x7 x.toNat)) (.int .i64 (nN n5 f5 x7))) (fun i hlt nx=>?_) (Ev.of rfl (evAsm fun _=>cd (evRet rfl)))
  rw [show (i64.wrap ((i:Int)+1)).toNat=i+1 by rw [jT hlt hn]; rfl] at nx
  exact Ev.of rfl (evAsm fun _=>ck hlt (aH (US s0 n1 f1 n3 f3 n5 f5 x7 x8 hn i hlt _ nx)))
 ·exact Ev.of rfl (evAsm fun h=>absurd (h rfl) hn)
theorem abL:aN (Ev (og s0 n1 f1 n3 f3 n5 f5 x7 x8)) (KE s0 n1 f1 n3 f3 n5 f5 x7 x8) (.int .i64 (nN n5 (aa [.sl ae] f5) x7)):=N8 s0 n1 f1 n3 f3 n5 f5 x7 x8
end
def Jr:aB:=bI [.agg al] (fun _=>True) fun
 | [.agg [.str s0,.sl n1 f1,.sl n3 f3,.sl n5 f5,.int _ x7,.int _ x8]]=>.int .i64 (nN n5 f5 x7)
 | _=>.any
theorem Kb:(vP Jr).Ok Tryz.prog 66:=bY gb Tryz.func66 (by kernel_rfl) fun ds hp=>jE (Se ..) (abL _ _ _ _ _ _ _ _ _)
inductive pc where
 | L0 (ia0 ia1:Int)
def Uw (x0:Int):pc->bp × List O × Option Ex
 | .L0 ia0 ia1=>([(4,vi ia0),(3,vi ia1),(0,vi x0)],[],none)
def aen:pc->JJ
 | .L0 ia0 ia1=>(0,[])
def Lo (x0:Int):T (bN JJ):=aS JJ fQ u0 YG [vi x0]
def yaq (x0:Int) (cx:List Cx):Lp JJ:=fb (eL (Lo x0) [])
def ada (x0:Int):JJ->Lp JJ
 | (0,cx)=>yaq x0 cx
 | (_,cx)=>yaq x0 cx
def akf (x0:Int):LD JJ pc:=⟨aen,ada x0,Uw x0⟩
def ut (x0:Int):pc->RT pc
 | .L0 ia0 ia1=>.br (decide (0 < ia0)) (.br (decide (i64.wrap (i64.wrap (ia1+ia0) * i64.wrap (ia1+ia0))<=x0)) (.obt (.next [] (pc.L0 (i64.wrap (ia0.tdiv 2)) (i64.wrap (ia1+ia0))) [])) (.obt (.next [] (pc.L0 (i64.wrap (ia0.tdiv 2)) (ia1)) []))) (.ret (vi ia1))
def JD (x0:Int):RT pc:=.enter [] (pc.L0 (1073741824) (0)) []
theorem VG (x0:Int):dR fQ u0 (akf x0) (Lo x0) (JD x0) (ut x0):=⟨⟨by kernel_rfl,by kernel_rfl⟩,fun s=>by cases s <;> exact ⟨by kernel_rfl,by kernel_rfl⟩⟩
def ek:Nat->Nat
 | 0=>0
 | n+1=>bif Nat.ble ((ek n+1) * (ek n+1)) (n+1) then ek n+1 else ek n
theorem kF:∀ n,ek n * ek n<=n/\n < (ek n+1) * (ek n+1)
 | 0=>⟨Nat.le_refl _,by decide⟩
 | n + 1=>by
   obtain ⟨h1,h2⟩:=kF n
   unfold ek
   cases hb:Nat.ble ((ek n+1) * (ek n+1)) (n+1) with
   | true =>
     have:=Nat.le_of_ble_eq_true hb
     refine ⟨this,?_⟩
     have e:(ek n+1+1) * (ek n+1+1)=(ek n+1) * (ek n+1)+2 * (ek n+1)+1:=by grind
     show n+1 < (ek n+1+1) * (ek n+1+1)
     omega
   | false =>
     have h3:¬ (ek n+1) * (ek n+1)<=n+1:=fun h=>by rw [Nat.ble_eq_true_of_le h] at hb; cases hb
     exact ⟨by show ek n * ek n<=n+1; omega,by show n+1 < (ek n+1) * (ek n+1); omega⟩
theorem EM {n r:Nat} (h1:r * r<=n) (h2:n < (r+1) * (r+1)):ek n=r:=by
 obtain ⟨g1,g2⟩:=kF n
 have a:¬ ek n < r:=fun h=>by have:=Nat.mul_le_mul (show ek n+1<=r from h) (show ek n+1<=r from h); omega
 have c:¬ r < ek n:=fun h=>by have:=Nat.mul_le_mul (show r+1<=ek n from h) (show r+1<=ek n from h); omega
 omega
def isq (x:Int):Int:=(ek x.toNat:Int)
def jG (x0:Int):Nat:=(min x0 4611686018427387903).toNat
def yad (x0:Int):Int:=(ek (jG x0):Int)
theorem Xm {x:Int} {m:Nat} (h1:1<=m) (hm:m<=2147483647):decide (i64.wrap (i64.wrap (m:Int) * i64.wrap (m:Int))<=x)=decide (m * m<=jG x):=by
 have b:m * m<=2147483647 * 2147483647:=Nat.mul_le_mul hm hm
 have b1:1<=m * m:=Nat.mul_le_mul h1 h1
 rw [wrapI (x:=(m:Int)) (by omega) (by omega),show (m:Int) * (m:Int)=((m * m:Nat):Int) from (Int.natCast_mul m m).symm]
 generalize m * m=q at *
 rw [wrapI (by omega) (by omega)]
 unfold jG
 exact decide_eq_decide.2 (by omega)
theorem agV (x0:Int):∀ k:Nat,k<=30->∀ r:Nat,r * r<=jG x0->jG x0 < (r+2 ^ (k+1)) * (r+2 ^ (k+1))->r+2 ^ (k+1)<=2147483648->Ev (ut x0) (.L0 ((2 ^ k:Nat):Int) (r:Int)) (.int .i64 (yad x0)):=by
 intro k
 induction k with
 | zero =>
   intro _ r h1 h2 h3
   have h3':r+2<=2147483648:=h3
   have h2':jG x0 < (r+2) * (r+2):=h2
   have fin:∀ q:Nat,q * q<=jG x0->jG x0 < (q+1) * (q+1)->Ev (ut x0) (.L0 (i64.wrap (((1:Nat):Int).tdiv 2)) (q:Int)) (.int .i64 (yad x0)):=fun q g1 g2 =>
    Ev.of rfl (ft rfl (evRet (by unfold yad; rw [EM g1 g2])))
   have hs:=Xm (x:=x0) (m:=r+1) (by omega) (by omega)
   have e1:(r:Int)+((1:Nat):Int)=((r+1:Nat):Int):=by omega
   refine Ev.of rfl (fA (by decide) (evBr (fun h=>af (aQ ?_)) (fun h=>af (aQ ?_))))
   ·have h':decide ((r+1) * (r+1)<=jG x0)=true:=by rw [← hs,← e1]; exact h
    have:=fin (r+1) (of_decide_eq_true h') h2'
    rw [show i64.wrap ((r:Int)+((2 ^ 0:Nat):Int))=((r+1:Nat):Int) from by rw [wrapI (by omega) (by omega)]; rfl]
    exact this
   ·have h':decide ((r+1) * (r+1)<=jG x0)=false:=by rw [← hs,← e1]; exact h
    exact fin r h1 (Nat.lt_of_not_le (of_decide_eq_false h'))
 | succ k ih =>
   intro hk r h1 h2 h3
   have p1:2 ^ (k+1+1)=2 * 2 ^ (k+1):=by rw [Nat.pow_succ]; omega
   have p0:1<=2 ^ (k+1):=Nat.one_le_two_pow
   have p2:2 ^ (k+1)=2 * 2 ^ k:=by rw [Nat.pow_succ]; omega
   have hs:=Xm (x:=x0) (m:=r+2 ^ (k+1)) (by omega) (by omega)
   have e1:(r:Int)+((2 ^ (k+1):Nat):Int)=((r+2 ^ (k+1):Nat):Int):=by omega
   have e2:i64.wrap (((2 ^ (k+1):Nat):Int).tdiv 2)=((2 ^ k:Nat):Int):=by
    rw [p2,show ((2 * 2 ^ k:Nat):Int).tdiv 2=((2 ^ k:Nat):Int) by rw [Int.tdiv_eq_ediv_of_nonneg (by omega)]; omega]
    exact wrapI (by omega) (by omega)
   have e3:i64.wrap ((r:Int)+((2 ^ (k+1):Nat):Int))=((r+2 ^ (k+1):Nat):Int):=by rw [wrapI (by omega) (by omega)]; exact e1
   refine Ev.of rfl (fA (dqt (by omega)) (evBr (fun h=>af (aQ ?_)) (fun h=>af (aQ ?_))))
   ·have h':decide ((r+2 ^ (k+1)) * (r+2 ^ (k+1))<=jG x0)=true:=by rw [← hs,← e1]; exact h
    rw [e2,e3]
    exact ih (by omega) (r+2 ^ (k+1)) (of_decide_eq_true h') (by rw [show r+2 ^ (k+1)+2 ^ (k+1)=r+2 ^ (k+1+1) by omega]; exact h2) (by omega)
   ·have h':decide ((r+2 ^ (k+1)) * (r+2 ^ (k+1))<=jG x0)=false:=by rw [← hs,← e1]; exact h
    rw [e2]
    exact ih (by omega) r h1 (Nat.lt_of_not_le (of_decide_eq_false h')) (by omega)
theorem Lr (x0:Int):aN (Ev (ut x0)) (JD x0) (.int .i64 (yad x0)):=aH (agV x0 30 (Nat.le_refl _) 0 (Nat.zero_le _) (by unfold jG; show _ < 4611686018427387904; omega) (by decide))
theorem abA (x0:Int):aN (Ev (ut x0)) (JD x0) (.int .i64 (yad x0)):=Lr x0
def OL:aB:=bI ae (fun _=>True) fun
 | [.int _ x0]=>.int .i64 (yad x0)
 | _=>.any
theorem Qr:(vP OL).Ok Tryz.prog 115:=bY gb Tryz.func115 (by kernel_rfl) fun ds hp=>jE (VG ..) (abA _)
inductive pZ where
 | L0 (ia0 ia1:Int)
def TW (x0:Int):pZ->bp × List O × Option Ex
 | .L0 ia0 ia1=>([(4,vi ia0),(3,vi ia1),(0,vi x0)],[],none)
def aeX:pZ->JJ
 | .L0 ia0 ia1=>(0,[])
def OE (x0:Int):T (bN JJ):=aS JJ fQ u0 aip [vi x0]
def zk (x0:Int) (cx:List Cx):Lp JJ:=fb (eL (OE x0) [])
def ae2 (x0:Int):JJ->Lp JJ
 | (0,cx)=>zk x0 cx
 | (_,cx)=>zk x0 cx
def ajU (x0:Int):LD JJ pZ:=⟨aeX,ae2 x0,TW x0⟩
def yd (x0:Int):pZ->RT pZ
 | .L0 ia0 ia1=>.br (decide (1 < i64.wrap (ia0 - ia1))) (.obt (.br (decide (i64.wrap (i64.wrap ((i64.wrap (ia1+ia0)).tdiv 2) * i64.wrap ((i64.wrap (ia1+ia0)).tdiv 2))<=x0)) (.next [] (pZ.L0 (ia0) (i64.wrap ((i64.wrap (ia1+ia0)).tdiv 2))) []) (.next [] (pZ.L0 (i64.wrap ((i64.wrap (ia1+ia0)).tdiv 2)) (ia1)) []))) (.ret (vi ia1))
def HZ (x0:Int):RT pZ:=.enter [] (pZ.L0 (2000000000) (0)) []
theorem U0 (x0:Int):dR fQ u0 (ajU x0) (OE x0) (HZ x0) (yd x0):=⟨⟨by kernel_rfl,by kernel_rfl⟩,fun s=>by cases s <;> exact ⟨by kernel_rfl,by kernel_rfl⟩⟩
def jR (x0:Int):Nat:=(min x0 3999999999999999999).toNat
def cw (x0:Int):Int:=(ek (jR x0):Int)
theorem Rc {x:Int} {m:Nat} (h1:1<=m) (hm:m < 2000000000):decide (i64.wrap ((m:Int) * (m:Int))<=x)=decide (m * m<=jR x):=by
 have b:m * m<=1999999999 * 1999999999:=Nat.mul_le_mul (by omega) (by omega)
 have b1:1<=m * m:=Nat.mul_le_mul h1 h1
 rw [show (m:Int) * (m:Int)=((m * m:Nat):Int) from (Int.natCast_mul m m).symm]
 generalize m * m=q at *
 rw [wrapI (by omega) (by omega)]
 unfold jR
 exact decide_eq_decide.2 (by omega)
theorem aiU (x0:Int):∀ d lo hi:Nat,hi - lo<=d->lo < hi->hi<=2000000000->lo * lo<=jR x0->jR x0 < hi * hi->Ev (yd x0) (.L0 (hi:Int) (lo:Int)) (.int .i64 (cw x0)):=by
 intro d
 induction d with
 | zero=>intro lo hi h1 h2; omega
 | succ d ih =>
   intro lo hi h1 h2 h3 h4 h5
   refine Ev.of rfl (evBr (fun h=>af ?_) (fun h=>evRet ?_))
   ·have hd:1 < hi - lo:=by have:=of_decide_eq_true h; rw [wrapI (by omega) (by omega)] at this; omega
    have em:i64.wrap ((i64.wrap ((lo:Int)+(hi:Int))).tdiv 2)=(((lo+hi) / 2:Nat):Int):=by
     rw [wrapI (x:=(lo:Int)+(hi:Int)) (by omega) (by omega),Int.tdiv_eq_ediv_of_nonneg (by omega),wrapI (by omega) (by omega)]; omega
    rw [em]
    have hs:=Rc (x:=x0) (m:=(lo+hi) / 2) (by omega) (by omega)
    refine evBr (fun h=>aQ ?_) (fun h=>aQ ?_)
    ·rw [hs] at h; exact ih _ _ (by omega) (by omega) h3 (of_decide_eq_true h) h5
    ·rw [hs] at h; exact ih _ _ (by omega) (by omega) (by omega) h4 (Nat.lt_of_not_le (of_decide_eq_false h))
   ·have hd:hi=lo+1:=by have:=of_decide_eq_false h; rw [wrapI (by omega) (by omega)] at this; omega
    subst hd
    unfold cw; rw [EM h4 h5]
theorem JB (x0:Int):aN (Ev (yd x0)) (HZ x0) (.int .i64 (cw x0)):=aH (aiU x0 2000000000 0 2000000000 (by omega) (by omega) (Nat.le_refl _) (Nat.zero_le _) (by unfold jR; show _ < 4000000000000000000; omega))
theorem aab (x0:Int):aN (Ev (yd x0)) (HZ x0) (.int .i64 (cw x0)):=JB x0
def KC:aB:=bI ae (fun _=>True) fun
 | [.int _ x0]=>.int .i64 (cw x0)
 | _=>.any
theorem M2:(vP KC).Ok Tryz.prog 122:=bY gb Tryz.func122 (by kernel_rfl) fun ds hp=>jE (U0 ..) (aab _)
def nJ:bd:=(154,.con Lw)::(155,.con Ic)::(156,.con MM)::(193,.con Qs)::(256,.con Ie)::(74,.con Io)::(153,.con Lu)::(57,.con LO)::(54,.con N4)::(143,.con LF)::(66,.con Jr)::(115,.con OL)::(122,.con KC)::fQ
theorem q5:aR Tryz.prog eqs its nJ:=.con yaN (.con LW (.con NH (.con Nj (.con IP (.con P5 (.con OF (.con Oe (.con Ot (.con BF (.con Kb (.con Qr (.con M2 (gb)))))))))))))
def XQ (x0:Int):RT Empty:=.obc (.obt (.br (decide (i64.wrap (yad x0 * yad x0) < x0)) (.ret (vi (i64.wrap (yad x0+1)))) (.ret (vi (yad x0)))))
theorem Tj (x0:Int):dh dm (aS JJ nJ u0 Wx [vi x0]) (XQ x0):=⟨by kernel_rfl,by kernel_rfl⟩
def cJ (x0:Int):Int:=bif decide (i64.wrap (yad x0 * yad x0) < x0) then i64.wrap (yad x0+1) else yad x0
def FL (x0:Int):V:=.int i64 (cJ x0)
theorem ZU (x0:Int):aN cr (XQ x0) (FL x0):=av (af (evBr (fun h0=>evRet (by unfold FL cJ; try rw [h0]; rfl)) (fun h0=>evRet (by unfold FL cJ; try rw [h0]; rfl))))
def O0:aB:=bI ae (fun _=>True) fun
 | [.int _ x0]=>FL x0
 | _=>.any
theorem KU:(vP O0).Ok Tryz.prog 114:=bY q5 Tryz.func114 (by kernel_rfl) fun ds hp=>dG (Tj ..) (ZU _)
def Zb (x0:Int):RT Empty:=.obc (.obt (.br (decide (i64.wrap (cw x0 * cw x0) < x0)) (.ret (vi (i64.wrap (cw x0+1)))) (.ret (vi (cw x0)))))
theorem Vn (x0:Int):dh dm (aS JJ nJ u0 ahJ [vi x0]) (Zb x0):=⟨by kernel_rfl,by kernel_rfl⟩
def b7 (x0:Int):Int:=bif decide (i64.wrap (cw x0 * cw x0) < x0) then i64.wrap (cw x0+1) else cw x0
def Fc (x0:Int):V:=.int i64 (b7 x0)
theorem aak (x0:Int):aN cr (Zb x0) (Fc x0):=av (af (evBr (fun h0=>evRet (by unfold Fc b7; try rw [h0]; rfl)) (fun h0=>evRet (by unfold Fc b7; try rw [h0]; rfl))))
def Je:aB:=bI ae (fun _=>True) fun
 | [.int _ x0]=>Fc x0
 | _=>.any
theorem MP:(vP Je).Ok Tryz.prog 121:=bY q5 Tryz.func121 (by kernel_rfl) fun ds hp=>dG (Vn ..) (aak _)
inductive rN where
 | L0 (ia0:Int)
def ybk (n0:Nat) (f0:ah):rN->bp × List O × Option Ex
 | .L0 ia0=>([(8,vi ia0),(7,vi (↑n0:Int)),(6,V.sl n0 (aa ae f0)),(4,vi 0),(0,V.sl n0 (aa ae f0)),(1,V.fn 153 [] [])],[],none)
def abp:rN->JJ
 | .L0 ia0=>(0,[])
section
variable (n0:Nat)
include n0
def NG (f0:ah):T (bN JJ):=aS JJ nJ u0 Td [V.sl n0 (aa ae f0),V.fn 153 [] []]
def y5 (f0:ah) (cx:List Cx):Lp JJ:=fb (eL (NG n0 f0) [])
def aff (f0:ah):JJ->Lp JJ
 | (0,cx)=>y5 n0 f0 cx
 | (_,cx)=>y5 n0 f0 cx
def akg (f0:ah):LD JJ rN:=⟨abp,aff n0 f0,ybk n0 f0⟩
def A5 (f0:ah):rN->RT rN
 | .L0 ia0=>.br (decide (ia0 < (↑n0:Int))) (.ob (decide (0<=ia0/\ia0 < (↑n0:Int))) (.obc (.obt (.br (mN (ay (f0 ia0.toNat))) (.ret (vi ia0)) (.next [] (rN.L0 (i64.wrap (ia0+1))) []))))) (.ret (vi (-1)))
def Pe (f0:ah):RT rN:=.asm (true=true->n0<=9223372036854775807) (.enter [] (rN.L0 (0)) [])
theorem Vf (f0:ah):dR nJ u0 (akg n0 f0) (NG n0 f0) (Pe n0 f0) (A5 n0 f0):=⟨⟨by kernel_rfl,by kernel_rfl⟩,fun s=>by cases s <;> exact ⟨by kernel_rfl,by kernel_rfl⟩⟩
def zU (f0:ah):Int  :=vV n0 fun ii=>mN (ay (f0 ii))
theorem KF (f0:ah):aN (Ev (A5 n0 f0)) (Pe n0 f0) (.int .i64 (zU n0 f0)):=bk fun hn=>aH (oE hn fun i=>rfl)
theorem aaZ (f0:ah):aN (Ev (A5 n0 f0)) (Pe n0 f0) (.int .i64 (zU n0 (aa ae f0))):=KF n0 f0
end
def NR:aB:=bI [.sl ae,.fn 153 [] []] (fun _=>True) fun
 | [.sl n0 f0,.fn _ [] []]=>.int .i64 (zU n0 f0)
 | _=>.any
theorem Lv:(vP NR).Ok Tryz.prog 221:=bY q5 Tryz.func221 (by kernel_rfl) fun ds hp=>jE (Vf ..) (aaZ _ _)
inductive rF where
 | L0 (ia0 ia1:Int)
def VD (n0:Nat) (f0:ah):rF->bp × List O × Option Ex
 | .L0 ia0 ia1=>([(4,vi ia0),(3,vi ia1),(0,V.sl n0 (aa ae f0))],[],none)
def aag:rF->JJ
 | .L0 ia0 ia1=>(0,[])
section
variable (n0:Nat) (f0:ah)
include n0 f0
def IK:T (bN JJ):=aS JJ nJ u0 ajE [V.sl n0 (aa ae f0)]
def AG (cx:List Cx):Lp JJ:=fb (eL (IK n0 f0) [false])
def aal:JJ->Lp JJ
 | (0,cx)=>AG n0 f0 cx
 | (_,cx)=>AG n0 f0 cx
def ajt:LD JJ rF:=⟨aag,aal n0 f0,VD n0 f0⟩
def ym:rF->RT rF
 | .L0 ia0 ia1=>.asm (true=true->n0<=9223372036854775807) (.br (decide (ia0 < (↑n0:Int))) (.ob (decide (0<=ia0/\ia0 < (↑n0:Int))) (.next [] (rF.L0 (i64.wrap (ia0+1)) (min ia1 (ay (f0 ia0.toNat)))) [])) (.ret (vi ia1)))
def PG:RT rF:=.asm (true=true->n0<=9223372036854775807) (.br (decide ((↑n0:Int) < 1)) (.fail) (.ob (decide ((0:Int)<=0/\0 < (↑n0:Int))) (.enter [] (rF.L0 (1) (ay (f0 0))) [])))
theorem UW:dR nJ u0 (ajt n0 f0) (IK n0 f0) (PG n0 f0) (ym n0 f0):=⟨⟨by kernel_rfl,by kernel_rfl⟩,fun s=>by cases s <;> exact ⟨by kernel_rfl,by kernel_rfl⟩⟩
end
def YD (p:Nat->Int) (z:Int):Nat->Int
 | 0=>z
 | k+1=>min (YD p z k) (p k)
def fw (n0:Nat) (f0:ah):Int:=YD (fun i=>ay (f0 i)) (ay (f0 0)) n0
theorem IN (n0:Nat) (f0:ah) (hp:1<=n0):aN (Ev (ym n0 f0)) (PG n0 f0) (.int .i64 (fw n0 f0)):=by
 refine bk fun hn=>ft (jx (by omega)) (aM (dqt (by omega)) (aH ?_))
 have key:=dH (n:=n0) (P:=fun i=>1<=i->Ev (ym n0 f0) (.L0 i (YD (fun i=>ay (f0 i)) (ay (f0 0)) i)) (.int .i64 (fw n0 f0))) fun i hi ih h1=>by
  refine Ev.of rfl (evAsm fun _=>evBr (fun h=>?_) (fun h=>evRet ?_))
  ·have hlt:i < n0:=by have:=of_decide_eq_true h; omega
   refine bZ hlt (aQ ?_)
   rw [jT hlt hn]
   exact ih hlt (by omega)
  ·have:i=n0:=by have:=of_decide_eq_false h; omega
   subst this; rfl
 have:=key 1 hp (Nat.le_refl _)
 rwa [show YD (fun i=>ay (f0 i)) (ay (f0 0)) 1=ay (f0 0) from Int.min_self _] at this
theorem aec (n0:Nat) (f0:ah) (hp:1<=n0):aN (Ev (ym n0 f0)) (PG n0 f0) (.int .i64 (fw n0 (aa ae f0))):=IN n0 f0 hp
def Kc:aB:=bI [.sl ae] (fun
 | [.sl n0 f0]=>1<=n0
 | _=>False) fun
 | [.sl n0 f0]=>.int .i64 (fw n0 f0)
 | _=>.any
theorem B6:(vP Kc).Ok Tryz.prog 192:=bY q5 Tryz.func192 (by kernel_rfl) fun ds hp=>jE (UW ..) (aec _ _ hp)
inductive rP where
 | L0 (ia0 ia1:Int)
def TA (s0:ByteArray) (n1:Nat) (f1:ah) (n3:Nat) (f3:ah) (n5:Nat) (f5:ah) (x7 x8:Int):rP->bp × List O × Option Ex
 | .L0 ia0 ia1=>([(11,vi ia0),(10,vi (↑n5:Int)),(9,V.sl n5 (aa [Ty.sl ae] f5)),(3,vi ia1)],[],none)
def afj:rP->JJ
 | .L0 ia0 ia1=>(0,[])
section
variable (s0:ByteArray) (n1:Nat) (f1:ah) (n3:Nat) (f3:ah) (n5:Nat) (f5:ah) (x7 x8:Int)
include s0 n1 f1 n3 f3 n5 f5 x7 x8
def Kd:T (bN JJ):=aS JJ nJ u0 ajr [V.agg [V.str s0,V.sl n1 (aa ae f1),V.sl n3 (aa ae f3),V.sl n5 (aa [Ty.sl ae] f5),vi x7,vi x8]]
def AR (cx:List Cx):Lp JJ:=fb (eL (Kd s0 n1 f1 n3 f3 n5 f5 x7 x8) [])
def acJ:JJ->Lp JJ
 | (0,cx)=>AR s0 n1 f1 n3 f3 n5 f5 x7 x8 cx
 | (_,cx)=>AR s0 n1 f1 n3 f3 n5 f5 x7 x8 cx
def agO:LD JJ rP:=⟨afj,acJ s0 n1 f1 n3 f3 n5 f5 x7 x8,TA s0 n1 f1 n3 f3 n5 f5 x7 x8⟩
end
def xY (s0:ByteArray) (n1:Nat) (f1:ah) (n3:Nat) (f3:ah) (n5:Nat) (f5:ah) (x7 x8:Int):rP->RT rP
 | .L0 ia0 ia1=>.br (decide (ia0 < (↑n5:Int))) (.ob (decide (0<=ia0/\ia0 < (↑n5:Int))) (.obp ((1:Nat)<=au (hdV (f5 ia0.toNat))) (.obt (.next [] (rP.L0 (i64.wrap (ia0+1)) (max ia1 (eH (au (hdV (f5 ia0.toNat))) fun i=>ao ae (bj (hdV (f5 ia0.toNat)) i)))) [])))) (.ret (vi ia1))
def NQ (s0:ByteArray) (n1:Nat) (f1:ah) (n3:Nat) (f3:ah) (n5:Nat) (f5:ah) (x7 x8:Int):RT rP:=.asm (true=true->n5<=9223372036854775807) (.enter [] (rP.L0 (0) (x7)) [])
theorem UV (s0:ByteArray) (n1:Nat) (f1:ah) (n3:Nat) (f3:ah) (n5:Nat) (f5:ah) (x7 x8:Int):dR nJ u0 (agO s0 n1 f1 n3 f3 n5 f5 x7 x8) (Kd s0 n1 f1 n3 f3 n5 f5 x7 x8) (NQ s0 n1 f1 n3 f3 n5 f5 x7 x8) (xY s0 n1 f1 n3 f3 n5 f5 x7 x8):=⟨⟨by kernel_rfl,by kernel_rfl⟩,fun s=>by cases s <;> exact ⟨by kernel_rfl,by kernel_rfl⟩⟩
def zj (f5:ah) (i:Nat):Int:=eH (au (hdV (f5 i))) fun j=>ao ae (bj (hdV (f5 i)) j)
def oU (n5:Nat) (f5:ah) (x7:Int):Int:=xb (fun i=>zj f5 i) x7 n5
section
variable (s0:ByteArray) (n1:Nat) (f1:ah) (n3:Nat) (f3:ah) (n5:Nat) (f5:ah) (x7 x8:Int)
include s0 n1 f1 n3 f3 n5 f5 x7 x8
theorem K6 (hp:∀ i,i < n5->1<=au (hdV (f5 i))):aN (Ev (xY s0 n1 f1 n3 f3 n5 f5 x7 x8)) (NQ s0 n1 f1 n3 f3 n5 f5 x7 x8) (.int .i64 (oU n5 f5 x7)):=by
 refine bk fun hn=>aH (As hn (P:=fun x=>Ev (xY s0 n1 f1 n3 f3 n5 f5 x7 x8) (.L0 x (xb (fun i=>zj f5 i) x7 x.toNat)) (.int .i64 (oU n5 f5 x7))) (fun i hlt nx=>?_) (Ev.of rfl (cd (evRet rfl))))
 rw [show (i64.wrap ((i:Int)+1)).toNat=i+1 by rw [jT hlt hn]; rfl] at nx
 exact Ev.of rfl (ck hlt (bZ hlt (aC (hp i hlt) (af (aQ nx)))))
theorem aeF (hp:∀ i,i < n5->1<=au (hdV ((aa [.sl ae] f5) i))):aN (Ev (xY s0 n1 f1 n3 f3 n5 f5 x7 x8)) (NQ s0 n1 f1 n3 f3 n5 f5 x7 x8) (.int .i64 (oU n5 (aa [.sl ae] f5) x7)):=K6 s0 n1 f1 n3 f3 n5 f5 x7 x8 hp
end
def PN:aB:=bI [.agg al] (fun
 | [.agg [.str s0,.sl n1 f1,.sl n3 f3,.sl n5 f5,.int _ x7,.int _ x8]]=>∀ i,i < n5->1<=au (hdV (f5 i))
 | _=>False) fun
 | [.agg [.str s0,.sl n1 f1,.sl n3 f3,.sl n5 f5,.int _ x7,.int _ x8]]=>.int .i64 (oU n5 f5 x7)
 | _=>.any
theorem Mr:(vP PN).Ok Tryz.prog 62:=bY q5 Tryz.func62 (by kernel_rfl) fun ds hp=>jE (UV ..) (aeF _ _ _ _ _ _ _ _ _ hp)
def Me:bd:=(114,.con O0)::(121,.con Je)::(221,.con NR)::(192,.con Kc)::(62,.con PN)::nJ
theorem LB:aR Tryz.prog eqs its Me:=.con KU (.con MP (.con Lv (.con B6 (.con Mr (q5)))))
def uu5:kn:=fun _=>5
section
variable (n0:Nat) (f0:ah)
include n0 f0
def ajX:RT Empty:=.obc (.obt (.ret (V.bool (decide (0<=zU n0 (aa ae f0))))))
theorem acM:dh dm (aS JJ Me u0 s99 [V.sl n0 (aa ae f0),V.fn 153 [] []]) (ajX n0 f0):=⟨by kernel_rfl,by kernel_rfl⟩
def xg:Bool:=decide (0<=zU n0 (aa ae f0))
def abU:V:=.bool (xg n0 f0)
theorem ajv:aN cr (ajX n0 f0) (abU n0 f0):=av (af (evRet (by unfold abU xg; rfl)))
end
def ac5:aB:=bI [.sl ae,.fn 153 [] []] (fun _=>True) fun
 | [.sl n0 f0,.fn _ [] []]=>abU n0 f0
 | _=>.any
theorem X7:(vP ac5).Ok Tryz.prog 152:=bY LB Tryz.func152 (by kernel_rfl) fun ds hp=>dG (acM ..) (ajv _ _)
def zN:bd:=(152,.con ac5)::Me
theorem Ck:aR Tryz.prog eqs its zN:=.con X7 (LB)
section
variable (n0:Nat) (f0:ah)
include n0 f0
def Xc:RT Empty:=.obc (.obt (.ret (V.bool !xg n0 (aa ae f0))))
theorem Q2:dh dm (aS JJ zN u0 Zu [V.sl n0 (aa ae f0)]) (Xc n0 f0):=⟨by kernel_rfl,by kernel_rfl⟩
def sP:Bool:=!xg n0 (aa ae f0)
def K3:V:=.bool (sP n0 f0)
theorem aaY:aN cr (Xc n0 f0) (K3 n0 f0):=av (af (evRet (by unfold K3 sP; rfl)))
end
def Ll:aB:=bI [.sl ae] (fun _=>True) fun
 | [.sl n0 f0]=>K3 n0 f0
 | _=>.any
theorem JA:(vP Ll).Ok Tryz.prog 71:=bY Ck Tryz.func71 (by kernel_rfl) fun ds hp=>dG (Q2 ..) (aaY _ _)
inductive rv where
 | L0 (ia0 ia1 ia2:Int)
def Wk (n0:Nat) (f0:ah) (x2:Int):rv->bp × List O × Option Ex
 | .L0 ia0 ia1 ia2=>([(8,vi ia0),(7,vi ia1),(6,vi ia2),(0,V.sl n0 (aa ae f0)),(1,vi x2)],[],none)
def ybn:rv->JJ
 | .L0 ia0 ia1 ia2=>(0,[])
section
variable (n0:Nat) (f0:ah)
include n0 f0
def yaU (x2:Int):T (bN JJ):=aS JJ zN u0 afD [V.sl n0 (aa ae f0),vi x2]
def ze (x2:Int) (cx:List Cx):Lp JJ:=fb (eL (yaU n0 f0 x2) [])
def adM (x2:Int):JJ->Lp JJ
 | (0,cx)=>ze n0 f0 x2 cx
 | (_,cx)=>ze n0 f0 x2 cx
def aiA (x2:Int):LD JJ rv:=⟨ybn,adM n0 f0 x2,Wk n0 f0 x2⟩
def ya (x2:Int):rv->RT rv
 | .L0 ia0 ia1 ia2=>.asm (true=true->n0<=9223372036854775807) (.br (decide (ia0 < (↑n0:Int))) (.ob (decide (0<=ia0/\ia0 < (↑n0:Int))) (.ob (decide (0<=ia0/\ia0 < (↑n0:Int))) (.next [] (rv.L0 (i64.wrap (ia0+1)) (max ia1 (ay (f0 ia0.toNat))) (min ia2 (ay (f0 ia0.toNat)))) []))) (.obc (.obt (.obc (.obt (.obp (b7 (i64.wrap ((1000000:Int) * x2))=(0:Int)->False) (.obt (.obp (cw (i64.wrap ((1000000:Int) * x2))=(0:Int)->False) (.obt (.br (decide (ia2 < 0)) (.obp (cw (i64.wrap ((1000000:Int) * x2))=(0:Int)->False) (.obt (.br (decide (ia1 < 0)) (.obp (b7 (i64.wrap ((1000000:Int) * x2))=(0:Int)->False) (.obt (.obc (.obt (.obc (.obt (.ret (V.tup [vi (ea (bU (i64.wrap (1000 * ia2)) (cw (i64.wrap (1000000 * x2))))),vi (ea (dt (i64.wrap (1000 * ia1)) (b7 (i64.wrap (1000000 * x2)))))])))))))) (.obc (.obt (.obc (.obt (.ret (V.tup [vi (ea (bU (i64.wrap (1000 * ia2)) (cw (i64.wrap (1000000 * x2))))),vi (ea (dt (i64.wrap (1000 * ia1)) (cw (i64.wrap (1000000 * x2)))))]))))))))) (.br (decide (ia1 < 0)) (.obp (b7 (i64.wrap ((1000000:Int) * x2))=(0:Int)->False) (.obt (.obc (.obt (.obc (.obt (.ret (V.tup [vi (ea (bU (i64.wrap (1000 * ia2)) (b7 (i64.wrap (1000000 * x2))))),vi (ea (dt (i64.wrap (1000 * ia1)) (b7 (i64.wrap (1000000 * x2)))))])))))))) (.obc (.obt (.obc (.obt (.ret (V.tup [vi (ea (bU (i64.wrap (1000 * ia2)) (b7 (i64.wrap (1000000 * x2))))),vi (ea (dt (i64.wrap (1000 * ia1)) (cw (i64.wrap (1000000 * x2)))))])))))))))))))))))
def Qj (x2:Int):RT rv:=.ob (decide ((0:Int)<=0/\0 < (↑n0:Int))) (.ob (decide ((0:Int)<=0/\0 < (↑n0:Int))) (.enter [] (rv.L0 (0) (ay (f0 0)) (ay (f0 0))) []))
theorem TL (x2:Int):dR zN u0 (aiA n0 f0 x2) (yaU n0 f0 x2) (Qj n0 f0 x2) (ya n0 f0 x2):=⟨⟨by kernel_rfl,by kernel_rfl⟩,fun s=>by cases s <;> exact ⟨by kernel_rfl,by kernel_rfl⟩⟩
end
def Z5 (m x:Int):Int:=bif decide (m < 0) then ea (bU (i64.wrap (1000 * m)) (cw (i64.wrap (1000000 * x)))) else ea (bU (i64.wrap (1000 * m)) (b7 (i64.wrap (1000000 * x))))
def qhi (m x:Int):Int:=bif decide (m < 0) then ea (dt (i64.wrap (1000 * m)) (b7 (i64.wrap (1000000 * x)))) else ea (dt (i64.wrap (1000 * m)) (cw (i64.wrap (1000000 * x))))
def YC (f0:ah) (i:Nat):Int:=ay (f0 i)
def fG (n0:Nat) (f0:ah) (x2:Int):Int:=Z5 (YD (YC f0) (YC f0 0) n0) x2
def fH (n0:Nat) (f0:ah) (x2:Int):Int:=qhi (xb (YC f0) (YC f0 0) n0) x2
def Co (x:Int):Prop:=(b7 (i64.wrap (1000000 * x))=0->False)/\(cw (i64.wrap (1000000 * x))=0->False)
theorem H3 (n0:Nat) (f0:ah) (x2:Int) (hp:1<=n0/\Co x2):aN (Ev (ya n0 f0 x2)) (Qj n0 f0 x2) (.tup [.int .i64 (fG n0 f0 x2),.int .i64 (fH n0 f0 x2)]):=by
 obtain ⟨h1,h2,h3⟩:=hp
 refine aM (dqt (by omega)) (aM (dqt (by omega)) (aH ?_))
 have key:=dH (n:=n0) (P:=fun i=>Ev (ya n0 f0 x2) (.L0 i (xb (YC f0) (YC f0 0) i) (YD (YC f0) (YC f0 0) i)) (.tup [.int .i64 (fG n0 f0 x2),.int .i64 (fH n0 f0 x2)])) fun i hi ih=>by
  refine Ev.of rfl (bk fun hn=>evBr (fun h=>?_) (fun h=>?_))
  ·have hlt:i < n0:=by have:=of_decide_eq_true h; omega
   refine bZ hlt (bZ hlt (aQ ?_))
   rw [jT hlt hn]
   exact ih hlt
  ·have:i=n0:=by have:=of_decide_eq_false h; omega
   subst this
   refine av (af (av (af (aC h2 (af (aC h3 (af (evBr (fun h0=>?_) (fun h0=>?_)))))))))
   ·refine aC h3 (af (evBr (fun h1=>?_) (fun h1=>?_)))
    ·exact aC h2 (af (av (af (av (af (evRet (by unfold fG fH Z5 qhi; rw [h0,h1]; rfl)))))))
    ·exact av (af (av (af (evRet (by unfold fG fH Z5 qhi; rw [h0,h1]; rfl)))))
   ·refine evBr (fun h1=>?_) (fun h1=>?_)
    ·exact aC h2 (af (av (af (av (af (evRet (by unfold fG fH Z5 qhi; rw [h0,h1]; rfl)))))))
    ·exact av (af (av (af (evRet (by unfold fG fH Z5 qhi; rw [h0,h1]; rfl)))))
 exact key 0 (Nat.zero_le _)
theorem acL (n0:Nat) (f0:ah) (x2:Int) (hp:1<=n0/\Co x2):aN (Ev (ya n0 f0 x2)) (Qj n0 f0 x2) (.tup [.int .i64 (fG n0 (aa ae f0) x2),.int .i64 (fH n0 (aa ae f0) x2)]):=H3 n0 f0 x2 hp
def OK:aB:=bI [.sl ae,tI] (fun
 | [.sl n0 f0,.int _ x2]=>1<=n0/\Co x2
 | _=>False) fun
 | [.sl n0 f0,.int _ x2]=>.tup [.int .i64 (fG n0 f0 x2),.int .i64 (fH n0 f0 x2)]
 | _=>.any
theorem PS:(vP OK).Ok Tryz.prog 220:=bY Ck Tryz.func220 (by kernel_rfl) fun ds hp=>jE (TL ..) (acL _ _ _ hp)
def EC:bd:=(71,.con Ll)::(220,.con OK)::zN
theorem yat:aR Tryz.prog eqs its EC:=.con JA (.con PS (Ck))
section
variable (x0 x1 x2 x3 x4 x5 x6 x7 x8 x9 x10 x11:Int)
include x0 x1 x2 x3 x4 x5 x6 x7 x8 x9 x10 x11
def H9:RT Empty:=.brt (.obt (.obt (.obt (.obc (.obt (.obt (.brt (.obt (.obt (.obt (.obc (.obt (.obt (.brt (.obt (.obt (.obt (.obc (.obt (.obt (.brt (.obt (.obt (.obt (.obc (.obt (.obt (.brf (.obp ((1:Nat)<=(4:Nat)) (.obt (.obp ((1:Nat)<=(4:Nat)) (.obt (.br (decide (fw 4 (aa ae (bQ [vi (i64.wrap (1000 * aJ x0 x1 x2 x3)),vi (i64.wrap (1000 * aJ x0 x1 x4 x5)),vi (i64.wrap (1000 * aJ x0 x1 x6 x7)),vi (i64.wrap (1000 * aJ x0 x1 x8 x9))] 0 1)) < 0)) (.br (decide (eH 4 (aa ae (bQ [vi (i64.wrap (1000 * aJ x0 x1 x2 x3)),vi (i64.wrap (1000 * aJ x0 x1 x4 x5)),vi (i64.wrap (1000 * aJ x0 x1 x6 x7)),vi (i64.wrap (1000 * aJ x0 x1 x8 x9))] 0 1)) < 0)) (.obp (x11=(0:Int)->False) (.obt (.obc (.obt (.obp (x10=(0:Int)->False) (.obt (.obc (.obt (.ret (V.tup [vi (bL (cj (fw 4 (aa ae (bQ [vi (i64.wrap (1000 * aJ x0 x1 x2 x3)),vi (i64.wrap (1000 * aJ x0 x1 x4 x5)),vi (i64.wrap (1000 * aJ x0 x1 x6 x7)),vi (i64.wrap (1000 * aJ x0 x1 x8 x9))] 0 1))) x11)),vi (bL (cK (eH 4 (aa ae (bQ [vi (i64.wrap (1000 * aJ x0 x1 x2 x3)),vi (i64.wrap (1000 * aJ x0 x1 x4 x5)),vi (i64.wrap (1000 * aJ x0 x1 x6 x7)),vi (i64.wrap (1000 * aJ x0 x1 x8 x9))] 0 1))) x10))])))))))))) (.obp (x11=(0:Int)->False) (.obt (.obc (.obt (.obp (x11=(0:Int)->False) (.obt (.obc (.obt (.ret (V.tup [vi (bL (cj (fw 4 (aa ae (bQ [vi (i64.wrap (1000 * aJ x0 x1 x2 x3)),vi (i64.wrap (1000 * aJ x0 x1 x4 x5)),vi (i64.wrap (1000 * aJ x0 x1 x6 x7)),vi (i64.wrap (1000 * aJ x0 x1 x8 x9))] 0 1))) x11)),vi (bL (cK (eH 4 (aa ae (bQ [vi (i64.wrap (1000 * aJ x0 x1 x2 x3)),vi (i64.wrap (1000 * aJ x0 x1 x4 x5)),vi (i64.wrap (1000 * aJ x0 x1 x6 x7)),vi (i64.wrap (1000 * aJ x0 x1 x8 x9))] 0 1))) x11))]))))))))))) (.br (decide (eH 4 (aa ae (bQ [vi (i64.wrap (1000 * aJ x0 x1 x2 x3)),vi (i64.wrap (1000 * aJ x0 x1 x4 x5)),vi (i64.wrap (1000 * aJ x0 x1 x6 x7)),vi (i64.wrap (1000 * aJ x0 x1 x8 x9))] 0 1)) < 0)) (.obp (x10=(0:Int)->False) (.obt (.obc (.obt (.obp (x10=(0:Int)->False) (.obt (.obc (.obt (.ret (V.tup [vi (bL (cj (fw 4 (aa ae (bQ [vi (i64.wrap (1000 * aJ x0 x1 x2 x3)),vi (i64.wrap (1000 * aJ x0 x1 x4 x5)),vi (i64.wrap (1000 * aJ x0 x1 x6 x7)),vi (i64.wrap (1000 * aJ x0 x1 x8 x9))] 0 1))) x10)),vi (bL (cK (eH 4 (aa ae (bQ [vi (i64.wrap (1000 * aJ x0 x1 x2 x3)),vi (i64.wrap (1000 * aJ x0 x1 x4 x5)),vi (i64.wrap (1000 * aJ x0 x1 x6 x7)),vi (i64.wrap (1000 * aJ x0 x1 x8 x9))] 0 1))) x10))])))))))))) (.obp (x10=(0:Int)->False) (.obt (.obc (.obt (.obp (x11=(0:Int)->False) (.obt (.obc (.obt (.ret (V.tup [vi (bL (cj (fw 4 (aa ae (bQ [vi (i64.wrap (1000 * aJ x0 x1 x2 x3)),vi (i64.wrap (1000 * aJ x0 x1 x4 x5)),vi (i64.wrap (1000 * aJ x0 x1 x6 x7)),vi (i64.wrap (1000 * aJ x0 x1 x8 x9))] 0 1))) x10)),vi (bL (cK (eH 4 (aa ae (bQ [vi (i64.wrap (1000 * aJ x0 x1 x2 x3)),vi (i64.wrap (1000 * aJ x0 x1 x4 x5)),vi (i64.wrap (1000 * aJ x0 x1 x6 x7)),vi (i64.wrap (1000 * aJ x0 x1 x8 x9))] 0 1))) x11))]))))))))))))))))))))))))))))))))))))))))))))
theorem IV:dh dm (aS JJ EC uu5 Qt [V.fn 155 [V.agg [vi x0,vi x1]] [],V.pd [vi x2,vi x3,vi x4,vi x5,vi x6,vi x7,vi x8,vi x9],V.pd [vi x10],V.pd [vi x11]]) (H9 x0 x1 x2 x3 x4 x5 x6 x7 x8 x9 x10 x11):=⟨by kernel_rfl,by kernel_rfl⟩
def gY:Int:=bif decide (fw 4 (aa ae (bQ [vi (i64.wrap (1000 * aJ x0 x1 x2 x3)),vi (i64.wrap (1000 * aJ x0 x1 x4 x5)),vi (i64.wrap (1000 * aJ x0 x1 x6 x7)),vi (i64.wrap (1000 * aJ x0 x1 x8 x9))] 0 1)) < 0) then bL (cj (fw 4 (aa ae (bQ [vi (i64.wrap (1000 * aJ x0 x1 x2 x3)),vi (i64.wrap (1000 * aJ x0 x1 x4 x5)),vi (i64.wrap (1000 * aJ x0 x1 x6 x7)),vi (i64.wrap (1000 * aJ x0 x1 x8 x9))] 0 1))) x11) else bL (cj (fw 4 (aa ae (bQ [vi (i64.wrap (1000 * aJ x0 x1 x2 x3)),vi (i64.wrap (1000 * aJ x0 x1 x4 x5)),vi (i64.wrap (1000 * aJ x0 x1 x6 x7)),vi (i64.wrap (1000 * aJ x0 x1 x8 x9))] 0 1))) x10)
def hG:Int:=bif decide (eH 4 (aa ae (bQ [vi (i64.wrap (1000 * aJ x0 x1 x2 x3)),vi (i64.wrap (1000 * aJ x0 x1 x4 x5)),vi (i64.wrap (1000 * aJ x0 x1 x6 x7)),vi (i64.wrap (1000 * aJ x0 x1 x8 x9))] 0 1)) < 0) then bL (cK (eH 4 (aa ae (bQ [vi (i64.wrap (1000 * aJ x0 x1 x2 x3)),vi (i64.wrap (1000 * aJ x0 x1 x4 x5)),vi (i64.wrap (1000 * aJ x0 x1 x6 x7)),vi (i64.wrap (1000 * aJ x0 x1 x8 x9))] 0 1))) x10) else bL (cK (eH 4 (aa ae (bQ [vi (i64.wrap (1000 * aJ x0 x1 x2 x3)),vi (i64.wrap (1000 * aJ x0 x1 x4 x5)),vi (i64.wrap (1000 * aJ x0 x1 x6 x7)),vi (i64.wrap (1000 * aJ x0 x1 x8 x9))] 0 1))) x11)
def qC:V:=.tup [.int i64 (gY x0 x1 x2 x3 x4 x5 x6 x7 x8 x9 x10 x11),.int i64 (hG x0 x1 x2 x3 x4 x5 x6 x7 x8 x9 x10 x11)]
theorem R2 (hp:(x10=0->False)/\(x11=0->False)):aN cr (H9 x0 x1 x2 x3 x4 x5 x6 x7 x8 x9 x10 x11) (qC x0 x1 x2 x3 x4 x5 x6 x7 x8 x9 x10 x11):=eg (af (af (af (av (af (af (eg (af (af (af (av (af (af (eg (af (af (af (av (af (af (eg (af (af (af (av (af (af (jP (aC (by first | assumption | ((first | exact hp.1 | exact hp.2 | decide))) (af (aC (by first | assumption | ((first | exact hp.1 | exact hp.2 | decide))) (af (evBr (fun h0=>evBr (fun h1=>aC (by first | assumption | ((first | exact hp.1 | exact hp.2 | decide))) (af (av (af (aC (by first | assumption | ((first | exact hp.1 | exact hp.2 | decide))) (af (av (af (evRet (by unfold qC gY hG; try rw [h0]; try rw [h1]; rfl)))))))))) (fun h1=>aC (by first | assumption | ((first | exact hp.1 | exact hp.2 | decide))) (af (av (af (aC (by first | assumption | ((first | exact hp.1 | exact hp.2 | decide))) (af (av (af (evRet (by unfold qC gY hG; try rw [h0]; try rw [h1]; rfl))))))))))) (fun h0=>evBr (fun h1=>aC (by first | assumption | ((first | exact hp.1 | exact hp.2 | decide))) (af (av (af (aC (by first | assumption | ((first | exact hp.1 | exact hp.2 | decide))) (af (av (af (evRet (by unfold qC gY hG; try rw [h0]; try rw [h1]; rfl)))))))))) (fun h1=>aC (by first | assumption | ((first | exact hp.1 | exact hp.2 | decide))) (af (av (af (aC (by first | assumption | ((first | exact hp.1 | exact hp.2 | decide))) (af (av (af (evRet (by unfold qC gY hG; try rw [h0]; try rw [h1]; rfl))))))))))))))))))))))))))))))))))))))))))))
end
def JY:aB:=bI [.fn 155 [.agg b4] [],.pd [tI,tI,tI,tI,tI,tI,tI,tI],.pd ae,.pd ae] (fun
 | [.fn _ [.agg [.int _ x0,.int _ x1]] [],.pd [.int _ x2,.int _ x3,.int _ x4,.int _ x5,.int _ x6,.int _ x7,.int _ x8,.int _ x9],.pd [.int _ x10],.pd [.int _ x11]]=>(x10=0->False)/\(x11=0->False)
 | _=>False) fun
 | [.fn _ [.agg [.int _ x0,.int _ x1]] [],.pd [.int _ x2,.int _ x3,.int _ x4,.int _ x5,.int _ x6,.int _ x7,.int _ x8,.int _ x9],.pd [.int _ x10],.pd [.int _ x11]]=>qC x0 x1 x2 x3 x4 x5 x6 x7 x8 x9 x10 x11
 | _=>.any
theorem QP:(vP JY).Ok Tryz.prog 191:=bY yat Tryz.func191 (by kernel_rfl) fun ds hp=>dG (IV ..) (R2 _ _ _ _ _ _ _ _ _ _ _ _ hp)
section
variable (x0 x1 x2 x3 x4 x5 x6 x7 x8 x9 x10 x11:Int)
include x0 x1 x2 x3 x4 x5 x6 x7 x8 x9 x10 x11
def Ka:RT Empty:=.brt (.obt (.obt (.obt (.obc (.obt (.obt (.brt (.obt (.obt (.obt (.obc (.obt (.obt (.brt (.obt (.obt (.obt (.obc (.obt (.obt (.brt (.obt (.obt (.obt (.obc (.obt (.obt (.brf (.obp ((1:Nat)<=(4:Nat)) (.obt (.obp ((1:Nat)<=(4:Nat)) (.obt (.br (decide (fw 4 (aa ae (bQ [vi (i64.wrap (1000 * aK x0 x1 x2 x3)),vi (i64.wrap (1000 * aK x0 x1 x4 x5)),vi (i64.wrap (1000 * aK x0 x1 x6 x7)),vi (i64.wrap (1000 * aK x0 x1 x8 x9))] 0 1)) < 0)) (.br (decide (eH 4 (aa ae (bQ [vi (i64.wrap (1000 * aK x0 x1 x2 x3)),vi (i64.wrap (1000 * aK x0 x1 x4 x5)),vi (i64.wrap (1000 * aK x0 x1 x6 x7)),vi (i64.wrap (1000 * aK x0 x1 x8 x9))] 0 1)) < 0)) (.obp (x11=(0:Int)->False) (.obt (.obc (.obt (.obp (x10=(0:Int)->False) (.obt (.obc (.obt (.ret (V.tup [vi (bL (cj (fw 4 (aa ae (bQ [vi (i64.wrap (1000 * aK x0 x1 x2 x3)),vi (i64.wrap (1000 * aK x0 x1 x4 x5)),vi (i64.wrap (1000 * aK x0 x1 x6 x7)),vi (i64.wrap (1000 * aK x0 x1 x8 x9))] 0 1))) x11)),vi (bL (cK (eH 4 (aa ae (bQ [vi (i64.wrap (1000 * aK x0 x1 x2 x3)),vi (i64.wrap (1000 * aK x0 x1 x4 x5)),vi (i64.wrap (1000 * aK x0 x1 x6 x7)),vi (i64.wrap (1000 * aK x0 x1 x8 x9))] 0 1))) x10))])))))))))) (.obp (x11=(0:Int)->False) (.obt (.obc (.obt (.obp (x11=(0:Int)->False) (.obt (.obc (.obt (.ret (V.tup [vi (bL (cj (fw 4 (aa ae (bQ [vi (i64.wrap (1000 * aK x0 x1 x2 x3)),vi (i64.wrap (1000 * aK x0 x1 x4 x5)),vi (i64.wrap (1000 * aK x0 x1 x6 x7)),vi (i64.wrap (1000 * aK x0 x1 x8 x9))] 0 1))) x11)),vi (bL (cK (eH 4 (aa ae (bQ [vi (i64.wrap (1000 * aK x0 x1 x2 x3)),vi (i64.wrap (1000 * aK x0 x1 x4 x5)),vi (i64.wrap (1000 * aK x0 x1 x6 x7)),vi (i64.wrap (1000 * aK x0 x1 x8 x9))] 0 1))) x11))]))))))))))) (.br (decide (eH 4 (aa ae (bQ [vi (i64.wrap (1000 * aK x0 x1 x2 x3)),vi (i64.wrap (1000 * aK x0 x1 x4 x5)),vi (i64.wrap (1000 * aK x0 x1 x6 x7)),vi (i64.wrap (1000 * aK x0 x1 x8 x9))] 0 1)) < 0)) (.obp (x10=(0:Int)->False) (.obt (.obc (.obt (.obp (x10=(0:Int)->False) (.obt (.obc (.obt (.ret (V.tup [vi (bL (cj (fw 4 (aa ae (bQ [vi (i64.wrap (1000 * aK x0 x1 x2 x3)),vi (i64.wrap (1000 * aK x0 x1 x4 x5)),vi (i64.wrap (1000 * aK x0 x1 x6 x7)),vi (i64.wrap (1000 * aK x0 x1 x8 x9))] 0 1))) x10)),vi (bL (cK (eH 4 (aa ae (bQ [vi (i64.wrap (1000 * aK x0 x1 x2 x3)),vi (i64.wrap (1000 * aK x0 x1 x4 x5)),vi (i64.wrap (1000 * aK x0 x1 x6 x7)),vi (i64.wrap (1000 * aK x0 x1 x8 x9))] 0 1))) x10))])))))))))) (.obp (x10=(0:Int)->False) (.obt (.obc (.obt (.obp (x11=(0:Int)->False) (.obt (.obc (.obt (.ret (V.tup [vi (bL (cj (fw 4 (aa ae (bQ [vi (i64.wrap (1000 * aK x0 x1 x2 x3)),vi (i64.wrap (1000 * aK x0 x1 x4 x5)),vi (i64.wrap (1000 * aK x0 x1 x6 x7)),vi (i64.wrap (1000 * aK x0 x1 x8 x9))] 0 1))) x10)),vi (bL (cK (eH 4 (aa ae (bQ [vi (i64.wrap (1000 * aK x0 x1 x2 x3)),vi (i64.wrap (1000 * aK x0 x1 x4 x5)),vi (i64.wrap (1000 * aK x0 x1 x6 x7)),vi (i64.wrap (1000 * aK x0 x1 x8 x9))] 0 1))) x11))]))))))))))))))))))))))))))))))))))))))))))))
theorem M1:dh dm (aS JJ EC uu5 Qt [V.fn 154 [V.agg [vi x0,vi x1]] [],V.pd [vi x2,vi x3,vi x4,vi x5,vi x6,vi x7,vi x8,vi x9],V.pd [vi x10],V.pd [vi x11]]) (Ka x0 x1 x2 x3 x4 x5 x6 x7 x8 x9 x10 x11):=⟨by kernel_rfl,by kernel_rfl⟩
def g9:Int:=bif decide (fw 4 (aa ae (bQ [vi (i64.wrap (1000 * aK x0 x1 x2 x3)),vi (i64.wrap (1000 * aK x0 x1 x4 x5)),vi (i64.wrap (1000 * aK x0 x1 x6 x7)),vi (i64.wrap (1000 * aK x0 x1 x8 x9))] 0 1)) < 0) then bL (cj (fw 4 (aa ae (bQ [vi (i64.wrap (1000 * aK x0 x1 x2 x3)),vi (i64.wrap (1000 * aK x0 x1 x4 x5)),vi (i64.wrap (1000 * aK x0 x1 x6 x7)),vi (i64.wrap (1000 * aK x0 x1 x8 x9))] 0 1))) x11) else bL (cj (fw 4 (aa ae (bQ [vi (i64.wrap (1000 * aK x0 x1 x2 x3)),vi (i64.wrap (1000 * aK x0 x1 x4 x5)),vi (i64.wrap (1000 * aK x0 x1 x6 x7)),vi (i64.wrap (1000 * aK x0 x1 x8 x9))] 0 1))) x10)
def ia:Int:=bif decide (eH 4 (aa ae (bQ [vi (i64.wrap (1000 * aK x0 x1 x2 x3)),vi (i64.wrap (1000 * aK x0 x1 x4 x5)),vi (i64.wrap (1000 * aK x0 x1 x6 x7)),vi (i64.wrap (1000 * aK x0 x1 x8 x9))] 0 1)) < 0) then bL (cK (eH 4 (aa ae (bQ [vi (i64.wrap (1000 * aK x0 x1 x2 x3)),vi (i64.wrap (1000 * aK x0 x1 x4 x5)),vi (i64.wrap (1000 * aK x0 x1 x6 x7)),vi (i64.wrap (1000 * aK x0 x1 x8 x9))] 0 1))) x10) else bL (cK (eH 4 (aa ae (bQ [vi (i64.wrap (1000 * aK x0 x1 x2 x3)),vi (i64.wrap (1000 * aK x0 x1 x4 x5)),vi (i64.wrap (1000 * aK x0 x1 x6 x7)),vi (i64.wrap (1000 * aK x0 x1 x8 x9))] 0 1))) x11)
def qF:V:=.tup [.int i64 (g9 x0 x1 x2 x3 x4 x5 x6 x7 x8 x9 x10 x11),.int i64 (ia x0 x1 x2 x3 x4 x5 x6 x7 x8 x9 x10 x11)]
theorem Q3 (hp:(x10=0->False)/\(x11=0->False)):aN cr (Ka x0 x1 x2 x3 x4 x5 x6 x7 x8 x9 x10 x11) (qF x0 x1 x2 x3 x4 x5 x6 x7 x8 x9 x10 x11):=eg (af (af (af (av (af (af (eg (af (af (af (av (af (af (eg (af (af (af (av (af (af (eg (af (af (af (av (af (af (jP (aC (by first | assumption | ((first | exact hp.1 | exact hp.2 | decide))) (af (aC (by first | assumption | ((first | exact hp.1 | exact hp.2 | decide))) (af (evBr (fun h0=>evBr (fun h1=>aC (by first | assumption | ((first | exact hp.1 | exact hp.2 | decide))) (af (av (af (aC (by first | assumption | ((first | exact hp.1 | exact hp.2 | decide))) (af (av (af (evRet (by unfold qF g9 ia; try rw [h0]; try rw [h1]; rfl)))))))))) (fun h1=>aC (by first | assumption | ((first | exact hp.1 | exact hp.2 | decide))) (af (av (af (aC (by first | assumption | ((first | exact hp.1 | exact hp.2 | decide))) (af (av (af (evRet (by unfold qF g9 ia; try rw [h0]; try rw [h1]; rfl))))))))))) (fun h0=>evBr (fun h1=>aC (by first | assumption | ((first | exact hp.1 | exact hp.2 | decide))) (af (av (af (aC (by first | assumption | ((first | exact hp.1 | exact hp.2 | decide))) (af (av (af (evRet (by unfold qF g9 ia; try rw [h0]; try rw [h1]; rfl)))))))))) (fun h1=>aC (by first | assumption | ((first | exact hp.1 | exact hp.2 | decide))) (af (av (af (aC (by first | assumption | ((first | exact hp.1 | exact hp.2 | decide))) (af (av (af (evRet (by unfold qF g9 ia; try rw [h0]; try rw [h1]; rfl))))))))))))))))))))))))))))))))))))))))))))
end
def Mp:aB:=bI [.fn 154 [.agg b4] [],.pd [tI,tI,tI,tI,tI,tI,tI,tI],.pd ae,.pd ae] (fun
 | [.fn _ [.agg [.int _ x0,.int _ x1]] [],.pd [.int _ x2,.int _ x3,.int _ x4,.int _ x5,.int _ x6,.int _ x7,.int _ x8,.int _ x9],.pd [.int _ x10],.pd [.int _ x11]]=>(x10=0->False)/\(x11=0->False)
 | _=>False) fun
 | [.fn _ [.agg [.int _ x0,.int _ x1]] [],.pd [.int _ x2,.int _ x3,.int _ x4,.int _ x5,.int _ x6,.int _ x7,.int _ x8,.int _ x9],.pd [.int _ x10],.pd [.int _ x11]]=>qF x0 x1 x2 x3 x4 x5 x6 x7 x8 x9 x10 x11
 | _=>.any
theorem ybc:(vP Mp).Ok Tryz.prog 191:=bY yat Tryz.func191 (by kernel_rfl) fun ds hp=>dG (M1 ..) (Q3 _ _ _ _ _ _ _ _ _ _ _ _ hp)
def orC (p:List V->Bool) (A B:aB):aB:=fun ds=>cond (p ds) (A ds) (B ds)
theorem CN {P:Program} {f:FuncId} (p:List V->Bool) (A B:aB) (hA:(vP A).Ok P f) (hB:(vP B).Ok P f):(vP (orC p A B)).Ok P f:=by
 have key:∀ {w0 args lh K},vP (orC p A B) w0 args lh K->vP A w0 args lh K ∨ vP B w0 args lh K:=by
  intro w0 args lh K ⟨ds,d,pr,r,h1,h2,h3⟩
  unfold orC at h2
  cases hc:p ds with
  | true=>rw [hc] at h2; exact .inl ⟨ds,d,pr,r,h1,h2,h3⟩
  | false=>rw [hc] at h2; exact .inr ⟨ds,d,pr,r,h1,h2,h3⟩
 exact ⟨fun B m lh w args vs K hrel hargs hsp=>(key hsp).elim (fun h=>hA.1 B m lh w args vs K hrel hargs h) (fun h=>hB.1 B m lh w args vs K hrel hargs h),
  fun _ _ _ _ _ hk ⟨ds,d,p,r,h1,h2,h3,h4,h5⟩=>⟨ds,d,p,r,h1,h2,h3,h4,hk _ _ h5⟩,fun _ _ _ _ ⟨_,_,_,_,_,_,_,_,h⟩=>h⟩
def ad6:List V->Bool
 | .fn n _ _::_=>Nat.beq n (match (.fn 155 [] []:V) with | .fn k _ _=>k | _=>0)
 | _=>false
def O3:aB:=orC ad6 JY Mp
theorem H5:(vP O3).Ok Tryz.prog 191:=CN _ _ _ QP ybc
end
end Go.Dx
namespace Go.Dx
open Go.IntKind (i64 u64 u8)
open Go.Sx
noncomputable section
theorem pB (a l h:Int):dn a l h=!bB a l h:=by
 unfold dn bB
 by_cases h1:a < l
 ·rw [dqt h1,jx (show ¬ l<=a by omega)]; rfl
 ·rw [jx h1,dqt (show l<=a by omega)]
  by_cases h2:h < a
  ·rw [dqt h2,cond_false,cond_true]; exact jx (by omega)
  ·rw [jx h2,cond_false,cond_true]; exact dqt (by omega)
theorem vT {n:Nat} {p q:Nat->Bool} (h:∀ i,i < n->p i=q i):jD n p=jD n q:=by
 cases hq:jD n q with
 | true =>
   obtain ⟨i,hi,hp⟩:=ybg.1 hq
   exact cP i hi (by rw [h i hi]; exact hp)
 | false =>
   refine ca fun i hi=>?_
   rw [h i hi]
   cases hp:q i with
   | false=>rfl
   | true=>rw [cP i hi hp] at hq; cases hq
theorem jS (n:Nat) (f:Nat->List V):jH n f=!xX n f:=by
 unfold jH zF GT
 rw [yah]
 unfold jD xX
 congr 1
 congr 1
 funext i
 rw [pB]; rfl
theorem SP (s:ByteArray):∀ (k i:Nat) (r:List UInt8),s.size - i=k->(ByteArray.toList.loop s i r).length=r.length+k:=by
 intro k
 induction k with
 | zero =>
   intro i r h
   rw [ByteArray.toList.loop]
   have:¬ i < s.size:=by omega
   simp [this]
 | succ k ih =>
   intro i r h
   rw [ByteArray.toList.loop]
   have:i < s.size:=by omega
   simp only [this,if_true]
   rw [ih (i+1) _ (by omega)]
   simp; omega
theorem GJ (s:ByteArray):(s.toList == (⟨#[]⟩:ByteArray).toList)=decide (s.size=0):=by
 have e:(⟨#[]⟩:ByteArray).toList=[]:=by decide +kernel
 rw [e]
 have hl:s.toList.length=s.size:=by
  unfold ByteArray.toList; rw [SP s s.size 0 [] (by omega)]; simp
 by_cases h:s.size=0
 ·rw [dqt h]
  have:s.toList=[]:=List.eq_nil_of_length_eq_zero (by omega)
  rw [this]; rfl
 ·rw [jx h]
  cases hs:s.toList with
  | nil=>rw [hs] at hl; simp at hl; omega
  | cons a l=>rfl
theorem kf {α:Type} {p:α->Bool}:∀ {l:List α},l.dropWhile p=[] ↔ ∀ x ∈ l,p x=true
 | []=>by simp
 | a::l=>by
   rw [List.dropWhile_cons]
   cases h:p a with
   | true=>simp only [if_true]; rw [kf]; simp [h]
   | false=>simp [h]
theorem Mk (l cs:List UInt8):Lib.trimS l cs=[] ↔ ∀ b ∈ l,cs.contains b=true:=by
 unfold Lib.trimS Lib.trimLeftS Lib.trimRightS
 rw [kf]
 constructor
 ·intro h
  have h1:l.reverse.dropWhile (cs.contains ·)=[]:=by
   cases hd:l.reverse.dropWhile (cs.contains ·) with
   | nil=>rfl
   | cons a r =>
     have ha:cs.contains a=true:=h a (by rw [hd]; simp)
     have hh:=List.head_dropWhile_not (cs.contains ·) (l:=l.reverse) (by rw [hd]; simp)
     simp only [hd,List.head_cons] at hh
     rw [ha] at hh; cases hh
  rw [kf] at h1
  exact fun b hb=>h1 b (by simpa using hb)
 ·intro h b hb
  have:b ∈ l.reverse:=by
   have:=List.mem_reverse.1 hb
   exact (List.dropWhile_sublist _).subset this
  exact h b (by simpa using this)
def nmB (b:Nat):Bool:=(decide (97<=b) && decide (b<=122)) || ((decide (48<=b) && decide (b<=57)) || decide (b=45))
theorem wF (b:UInt8):([97,98,99,100,101,102,103,104,105,106,107,108,109,110,111,112,113,114,115,116,117,118,119,120,121,122,48,49,50,51,52,53,54,55,56,57,45]:List UInt8).contains b=nmB b.toNat:=by
 have key:∀ n:Fin 256,([97,98,99,100,101,102,103,104,105,106,107,108,109,110,111,112,113,114,115,116,117,118,119,120,121,122,48,49,50,51,52,53,54,55,56,57,45]:List UInt8).contains (UInt8.ofNat n.val)=nmB n.val:=by decide +kernel
 have:=key ⟨b.toNat,b.toNat_lt⟩
 simpa using this
theorem FY {l:List UInt8} {i:Nat} (h:i < l.length):l.getD i 0=l[i]:=by simp [List.getD,h]
theorem xL (s:ByteArray) (i:Nat):(!Bh s i)=(nmB (s.data.toList.getD i 0).toNat && (decide (0 < i) || (decide (97<=(s.data.toList.getD i 0).toNat) && decide ((s.data.toList.getD i 0).toNat<=122)))):=by
 unfold Bh nmB
 generalize (s.data.toList.getD i 0).toNat=b
 rw [Bool.eq_iff_iff]
 simp only [Bool.cond_eq_ite,Bool.not_eq_true',Bool.and_eq_true,Bool.or_eq_true,decide_eq_true_eq]
 split <;> split <;> (try split) <;> simp_all <;> omega
theorem Gk (s:ByteArray):lQ s=kH s:=by
 unfold lQ kH
 rw [GJ]
 have hsz:s.size=s.data.toList.length:=by rw [Array.length_toList]; rfl
 by_cases h0:s.size=0
 ·rw [dqt h0,h0]; rfl
 rw [jx h0]
 have e0:decide (0 < (s.size:Int))=true:=dqt (by omega)
 rw [e0]
 by_cases h24:(s.size:Int)<=24
 case neg=>rw [jx h24]; simp
 rw [dqt h24]
 simp only [Bool.not_false,cond_true,Bool.and_true]
 rw [GJ]
 rw [Bool.eq_iff_iff]
 have ht:(vm s (ByteArray.mk (Array.mk [97,98,99,100,101,102,103,104,105,106,107,108,109,110,111,112,113,114,115,116,117,118,119,120,121,122,48,49,50,51,52,53,54,55,56,57,45]))).size=0 ↔ ∀ b ∈ s.data.toList,nmB b.toNat=true:=by
  rw [show (vm s (ByteArray.mk (Array.mk [97,98,99,100,101,102,103,104,105,106,107,108,109,110,111,112,113,114,115,116,117,118,119,120,121,122,48,49,50,51,52,53,54,55,56,57,45]))).size=(Lib.trimS s.data.toList [97,98,99,100,101,102,103,104,105,106,107,108,109,110,111,112,113,114,115,116,117,118,119,120,121,122,48,49,50,51,52,53,54,55,56,57,45]).length from by simp [vm,ByteArray.size]]
  rw [List.length_eq_zero_iff,Mk]
  constructor
  ·intro h b hb; rw [← wF]; exact h b hb
  ·intro h b hb; rw [wF]; exact h b hb
 have hb:cq s.size (fun i=>!Bh s i)=true ↔ (∀ b ∈ s.data.toList,nmB b.toNat=true)/\97<=(s.data.toList.getD 0 0).toNat/\(s.data.toList.getD 0 0).toNat<=122:=by
  rw [wi]
  constructor
  ·intro h
   refine ⟨fun b hb=>?_,?_⟩
   ·obtain ⟨i,hi,rfl⟩:=List.getElem_of_mem hb
    have:=h i (by omega)
    rw [xL,Bool.and_eq_true] at this
    rw [FY hi] at this
    exact this.1
   ·have:=h 0 (by omega)
    rw [xL] at this
    simp only [Bool.and_eq_true,Bool.or_eq_true,decide_eq_true_eq] at this
    rcases this.2 with h1 | h1
    ·omega
    ·exact h1
  ·rintro ⟨h1,h2,h3⟩ i hi
   rw [xL]
   have hi':i < s.data.toList.length:=by omega
   rw [h1 _ (by rw [FY hi']; exact List.getElem_mem hi')]
   by_cases hz:i=0
   ·subst hz; rw [dqt h2,dqt h3]; rfl
   ·simp; omega
 rw [hb,← ht]
 cases hd:decide ((vm s (ByteArray.mk (Array.mk [97,98,99,100,101,102,103,104,105,106,107,108,109,110,111,112,113,114,115,116,117,118,119,120,121,122,48,49,50,51,52,53,54,55,56,57,45]))).size=0) with
 | false =>
   have:=of_decide_eq_false hd
   simp [this]
 | true =>
   have:=of_decide_eq_true hd
   simp only [cond_true,this,true_and]
   rw [show s.data.1.getD 0 0=s.data.toList.getD 0 0 from rfl]
   generalize (s.data.toList.getD 0 0).toNat=b
   by_cases g:97<=b
   ·rw [dqt (show (97:Int)<=(b:Int) by omega)]
    simp only [cond_true,decide_eq_true_eq]; omega
   ·rw [jx (show ¬ (97:Int)<=(b:Int) by omega)]
    simp; omega
theorem VS (x y:Int):qJ x y=!oV x y:=by unfold qJ oV; exact jS _ _
section
variable (n:Nat) (f:Nat->List V)
include n f
theorem aa1 (s:ByteArray):rp n f s=jD n fun k=>(sv (hdV (f k))).toList == s.toList:=by
 unfold rp Hk; rw [yah]; rfl
theorem VK (s:ByteArray):qw n f s=jD n fun k=>(sv (hdV (f k))).toList == s.toList:=by
 unfold qw G2; rw [yah]; rfl
theorem aeb:jv n f=jD n fun i=>!oV (ay (f i)) (ba (f i)):=by
 unfold jv GM; rw [yah]; exact vT fun i _=>VS _ _
end
theorem GD (n0:Nat) (f0:ah) (i:Nat):c62 n0 (aa bF f0) i=cR n0 f0 i:=by
 unfold c62 cR XB W9 Mo
 rw [Gk,aa1,aeb]
 simp only [Int.toNat_natCast,Nat.sub_zero,Nat.zero_add,pB,Bool.not_not]
 rfl
theorem yaJ (n2:Nat) (f2:ah) (i:Nat):c64 n2 (aa ce f2) i=cT f2 i:=by
 show mq (ay (f2 i)) (ba (f2 i)) (cQ (f2 i)) (cM (f2 i)) (cv (f2 i))=_
 unfold cT mq yV
 rw [jS]
 show (bif !!oV _ _ then _ else _)=_
 generalize oV _ _=p
 generalize cQ (f2 i)=a
 generalize cM (f2 i)=z
 generalize cv (f2 i)=w
 cases p
 ·rfl
 ·simp only [Bool.not_true,Bool.not_false,cond_true]
  rw [pB]
  cases ha:bB a 1 20000
  ·simp only [Bool.not_false,Bool.not_true,cond_true,cond_false]
   by_cases hw:1<=w/\w<=1000
   ·have e:bB w 1 1000=false:=by unfold bB; rw [jx (by omega),cond_false]; exact jx (by omega)
    rw [e,wrapI (by omega) (by omega)]
    unfold bB
    by_cases hz:z < 0
    ·rw [dqt hz]; rfl
    ·rw [jx hz]
     by_cases hz2:w<=z
     ·rw [dqt (show w - 1 < z by omega),dqt hz2]; rfl
     ·rw [jx (show ¬ w - 1 < z by omega),jx hz2,jx (show ¬ 1000 < w by omega)]; rfl
   ·have e:bB w 1 1000=true:=by
     unfold bB
     by_cases h1:w < 1
     ·rw [dqt h1]; rfl
     ·rw [jx h1,cond_false]; exact dqt (by omega)
    rw [e]
    have:(bif bif decide (z < 0) then true else decide (w<=z) then true else decide (1000 < w))=true:=by
     by_cases hz:z < 0
     ·rw [dqt hz]; rfl
     ·rw [jx hz,cond_false]
      by_cases h2:w<=z
      ·rw [dqt h2]; rfl
      ·rw [jx h2,cond_false]; exact dqt (by omega)
    rw [this]
    cases !bB z 0 (i64.wrap (w - 1)) <;> rfl
  ·rfl
theorem Z3 (x0 x1 x2 x3:Int):kg x0 x1 x2 x3=bif bif bif bif bif decide (x0 < 0) then true else decide (x1<=x0) then true else decide (1000 < x1) then true else decide (x2 < 0) then true else decide (x3<=x2) then true else decide (1000 < x3):=by
 have key:∀ a b:Int,((bif !bB b 1 1000 then bB a 0 (i64.wrap (b - 1)) else true)=true) ↔ (a < 0 ∨ b<=a ∨ 1000 < b):=by
  intro a b
  unfold bB
  by_cases h1:b < 1
  ·rw [dqt h1]; simp; omega
  ·rw [jx h1]
   by_cases h2:1000 < b
   ·rw [dqt h2]; simp; omega
   ·rw [jx h2,wrapI (by omega) (by omega)]
    simp only [cond_false,Bool.not_false,cond_true,Bool.cond_eq_ite]
    split <;> simp_all <;> omega
 have e1:=key x0 x1
 have e2:=key x2 x3
 have:kg x0 x1 x2 x3=(bif !(bif !bB x1 1 1000 then bB x0 0 (i64.wrap (x1 - 1)) else true) then (bif !bB x3 1 1000 then bB x2 0 (i64.wrap (x3 - 1)) else true) else true):=by
  unfold kg
  cases bB x1 1 1000 <;> cases bB x0 0 (i64.wrap (x1 - 1)) <;> rfl
 rw [this]
 generalize (bif !bB x1 1 1000 then bB x0 0 (i64.wrap (x1 - 1)) else true)=p at e1 ⊢
 generalize (bif !bB x3 1 1000 then bB x2 0 (i64.wrap (x3 - 1)) else true)=q at e2 ⊢
 rw [Bool.eq_iff_iff]
 simp only [Bool.cond_eq_ite]
 cases p <;> cases q <;> simp_all <;> omega
theorem zE (n4:Nat) (f4:ah) (i:Nat):c66 n4 (aa ci f4) i=cF f4 i:=by
 show yai (ay (f4 i)) (ba (f4 i)) (cQ (f4 i)) (cM (f4 i)) (au (hdV (ab (ab (ab (ab (f4 i))))))) (fun j=>ao iu (bj (hdV (ab (ab (ab (ab (f4 i)))))) j))=_
 unfold cF yai WP
 rw [jS]
 have:∀ n (f:Nat->List V),qu n f=jD n fun j=>Ji (f j):=by
  intro n f
  unfold qu Hv; rw [yah]
  exact vT fun j _=>by rw [Z3]; rfl
 rw [this]
 rfl
theorem amy (p q r t:Bool) (B:Int):(bif p then bif !q then bif !r then bif t then 7 else B else 7 else 7 else 7)=(bif bif bif bif !p then true else q then true else r then true else t then 7 else B):=by
 cases p <;> cases q <;> cases r <;> cases t <;> rfl
theorem KZ (n6:Nat) (f6:ah) (i:Nat):c68 n6 (aa aT f6) i=cC n6 f6 i:=by
 unfold c68 cC ko Uv
 rw [Gk,VK,jS]
 simp only [Int.toNat_natCast,Nat.sub_zero,Nat.zero_add]
 unfold Ve
 simp only [pB,Bool.not_not]
 rw [amy]
 rfl
theorem en {n:Nat} {c d:Nat->Int} (h:∀ i,c i=d i):eW n c=eW n d/\de n c=de n d:=by
 have:c=d:=funext h
 rw [this]; exact ⟨rfl,rfl⟩
theorem PQ (n0:Nat) (f0:ah) (n2:Nat) (f2:ah) (n4:Nat) (f4:ah) (n6:Nat) (f6:ah) :
 (pO n0 f0 n2 f2 n4 f4 n6 f6,pA n0 f0 n2 f2 n4 f4 n6 f6,kp n0 f0 n2 f2 n4 f4 n6 f6)=XU n0 f0 n2 f2 n4 f4 n6 f6:=by
 unfold pO pA kp XU HA z1 z2 z3 vU wA nU vq nP wd nA wE nE
 rw [(en (GD n0 f0)).1,(en (GD n0 f0)).2,(en (yaJ n2 f2)).1,(en (yaJ n2 f2)).2,(en (zE n4 f4)).1,(en (zE n4 f4)).2,(en (KZ n6 f6)).1,(en (KZ n6 f6)).2]
 cases (bif bif bif decide (8 < (n0:Int)) then true else decide (12 < (n2:Int)) then true else decide (8 < (n4:Int)) then true else decide (24 < (n6:Int)))
 ·simp only [cond_false]
  cases h1:de n0 (cR n0 f0) != 0
  ·simp only [cond_false]
   cases h2:de n2 (cT f2) != 0
   ·simp only [cond_false]
    cases h3:de n4 (cF f4) != 0
    ·simp only [cond_false]
     cases h4:de n6 (cC n6 f6) != 0
     ·rfl
     ·rfl
    ·rfl
   ·rfl
  ·rfl
 ·rfl
theorem Ak {n:Nat} {c:Nat->Int} (h:de n c=0):∀ i,i < n->c i=0:=by
 unfold de at h
 rcases MQ (n:=n) (p:=fun i=>c i != 0) with ⟨_,h2⟩ | ⟨j,h1,h2,h3,_⟩
 ·intro i hi
  have:=h2 i hi
  simpa using this
 ·rw [h2] at h
  have:((j:Int) == -1)=false:=by rw [beq_eq_false_iff_ne]; omega
  rw [this,cond_false,Int.toNat_natCast] at h
  rw [h] at h3; cases h3
section
variable {n0:Nat} {f0:Nat->List V} {n2:Nat} {f2:Nat->List V} {n4:Nat} {f4:Nat->List V} {n6:Nat} {f6:Nat->List V} {i j m l:Int}
structure Y7 (n0:Nat) (f0:ah) (n2:Nat) (f2:ah) (n4:Nat) (f4:ah) (n6:Nat) (f6:ah):Prop where
 l0:n0<=8
 l2:n2<=12
 l4:n4<=8
 l6:n6<=24
 rd:∀ i,i < n0->cR n0 f0 i=0
 tr:∀ i,i < n2->cT f2 i=0
 fr:∀ i,i < n4->cF f4 i=0
 cl:∀ i,i < n6->cC n6 f6 i=0
theorem je {n:Nat} {c:Nat->Int} {k:Int} {z:Int × Int × Int} (h:(vU n c k z).2.2=0):(∀ i,i < n->c i=0)/\z.2.2=0:=by
 unfold vU at h
 cases hb:de n c != 0 with
 | true=>rw [hb] at h; simp only [cond_true] at h; rw [h] at hb; cases hb
 | false =>
   rw [hb] at h
   exact ⟨Ak (by simpa using hb),h⟩
theorem P7 (h:mg n0 f0 n2 f2 n4 f4 n6 f6=0):Y7 n0 f0 n2 f2 n4 f4 n6 f6:=by
 unfold mg XU at h
 cases hl:HA n0 f0 n2 f2 n4 f4 n6 f6 with
 | true=>rw [hl] at h; cases h
 | false =>
   rw [hl,cond_false] at h
   obtain ⟨h1,h⟩:=je h
   unfold z1 at h
   obtain ⟨h2,h⟩:=je h
   unfold z2 at h
   obtain ⟨h3,h⟩:=je h
   unfold z3 at h
   obtain ⟨h4,_⟩:=je h
   unfold HA at hl
   simp only [Bool.cond_eq_ite,Bool.ite_eq_false_distrib] at hl
   have:n0<=8/\n2<=12/\n4<=8/\n6<=24:=by
    refine ⟨?_,?_,?_,?_⟩ <;> (apply Classical.byContradiction; intro hn) <;> simp_all <;> omega
   exact ⟨this.1,this.2.1,this.2.2.1,this.2.2.2,h1,h2,h3,h4⟩
theorem Nv:kp n0 f0 n2 f2 n4 f4 n6 f6=mg n0 f0 n2 f2 n4 f4 n6 f6:=congrArg (fun t=>t.2.2) (PQ n0 f0 n2 f2 n4 f4 n6 f6)
end
end
end Go.Dx
namespace Go.Dx
open Go.IntKind (i64 u64 u8)
open Go.Sx Go.Proofs
noncomputable section
structure yj (n0:Nat) (f0:ah) (n2:Nat) (f2:ah):Prop where
 l0:n0<=10
 l2:n2<=20
 tb:∀ i,i < n0->ga (aa al f0) i=0
 lm:∀ i,i < n2->jI n0 (aa am f2) i=0
theorem tT {n0:Nat} {f0:Nat->List V} {n2:Nat} {f2:Nat->List V} (h:b8 n0 f0 n2 f2=0):yj n0 f0 n2 f2:=by
 unfold b8 uV at h
 cases hl:(bif decide (10 < (n0:Int)) then true else decide (20 < (n2:Int))) with
 | true=>rw [hl] at h; cases h
 | false =>
   rw [hl] at h
   obtain ⟨h1,h2⟩:=je h
   obtain ⟨h3,_⟩:=je h2
   have a:(decide (10 < (n0:Int)))=false:=by cases hh:decide (10 < (n0:Int)) with | false=>rfl | true=>rw [hh] at hl; cases hl
   rw [a] at hl
   have b:=of_decide_eq_false hl
   have a:=of_decide_eq_false a
   exact ⟨by omega,by omega,h1,h3⟩
theorem u7 {x a b:Int} (h:aA x a b=true):a<=x/\x<=b:=by
 unfold aA at h
 cases h1:decide (a<=x) with
 | false=>rw [h1] at h; cases h
 | true=>rw [h1] at h; exact ⟨of_decide_eq_true h1,of_decide_eq_true h⟩
theorem I9 {a b:Bool} (h:HP a b=false):a=true/\b=true:=by
 unfold HP at h
 cases a <;> cases b <;> first | exact ⟨rfl,rfl⟩ | cases h
def HG (x:List V):Nat:=au (hdV (ab (ab (ab x))))
def va (x:List V):Nat->List V:=bj (hdV (ab (ab (ab x))))
structure nr (x:List V):Prop where
 u:2<=au (hdV (ab x))/\au (hdV (ab x))<=12
 v:2<=au (hdV (ab (ab x)))/\au (hdV (ab (ab x)))<=12
 n:HG x=au (hdV (ab x))
 row:∀ i,i < HG x->au (hdV (va x i))=au (hdV (ab (ab x)))
 side:0<=cv x/\cv x<=10000000
 sky:0<=be x/\be x<=10000000
 val:∀ i,i < HG x->∀ j,j < au (hdV (va x i))->0<=ay (bj (hdV (va x i)) j)/\ay (bj (hdV (va x i)) j)<=10000000
theorem jp {b:Bool} {k z:Int} (h:(bif b then k else z)=0) (hk:k ≠ 0):b=false/\z=0:=by
 cases b with
 | true=>exact absurd h hk
 | false=>exact ⟨rfl,h⟩
theorem notf {b:Bool} (h:(!b)=false):b=true:=by cases b <;> first | rfl | cases h
theorem QZ {a b:Bool} (h:(a && b)=true):a=true/\b=true:=by cases a <;> cases b <;> first | exact ⟨rfl,rfl⟩ | cases h
theorem amB {n:Nat} {p:Nat->Bool} (h:jD n p=false):∀ i,i < n->p i=false:=fun i hi=>by
 cases hp:p i with
 | false=>rfl
 | true=>rw [cP i hi hp] at h; cases h
theorem Bn {f0:Nat->List V} {a:Nat} (h:ga (aa al f0) a=0):nr (f0 a):=by
 unfold ga at h
 obtain ⟨_,h⟩:=jp h (by decide)
 obtain ⟨_,h⟩:=jp h (by decide)
 unfold Bz at h
 obtain ⟨h1,h⟩:=jp h (by decide)
 obtain ⟨_,h⟩:=jp h (by decide)
 obtain ⟨_,h⟩:=jp h (by decide)
 obtain ⟨h2,h⟩:=jp h (by decide)
 obtain ⟨h3,h⟩:=jp h (by decide)
 obtain ⟨h4,_⟩:=jp h (by decide)
 obtain ⟨u,v⟩:=I9 h1
 have u:=u7 u
 have v:=u7 v
 have g:kl (cv (f0 a)) (be (f0 a))=true:=(QZ (notf h4)).1
 have w:cq (HG (f0 a)) (gG (au (hdV (ab (ab (f0 a))))) (aa [.sl ae] (va (f0 a))))=true:=(QZ (notf h4)).2
 have row:∀ i,i < HG (f0 a)->au (hdV (va (f0 a) i))=au (hdV (ab (ab (f0 a)))):=fun i hi=>by
  have:=amB h3 i hi
  have:((au (hdV (va (f0 a) i)):Int) != (au (hdV (ab (ab (f0 a)))):Int))=false:=this
  have:=eq_of_beq (by simpa using this:((au (hdV (va (f0 a) i)):Int) == (au (hdV (ab (ab (f0 a)))):Int))=true)
  omega
 unfold kl at g
 have g1:aA (cv (f0 a)) 0 10000000=true:=by
  cases hh:aA (cv (f0 a)) 0 10000000 with
  | true=>rfl
  | false=>rw [hh] at g; cases g
 rw [g1] at g
 exact ⟨⟨by have:=u.1; exact Int.ofNat_le.1 this,by have:=u.2; exact Int.ofNat_le.1 this⟩,⟨by have:=v.1; exact Int.ofNat_le.1 this,by have:=v.2; exact Int.ofNat_le.1 this⟩,
  by have:((HG (f0 a):Int) != (au (hdV (ab (f0 a))):Int))=false:=h2
     have:=eq_of_beq (by simpa using this:((HG (f0 a):Int) == (au (hdV (ab (f0 a))):Int))=true)
     omega,
  row,u7 g1,u7 g,fun i hi j hj=>by
   rw [row i hi] at hj
   exact u7 (dQ (dQ w i hi) j hj)⟩
structure ai5 (n0:Nat) (x:List V):Prop where
 t:0<=ba x/\ba x < n0
 kind:1<=cQ x/\cQ x<=3
 lum:1<=cM x/\cM x<=1000000
theorem OJ {n0:Nat} {f2:Nat->List V} {a:Nat} (hn:n0<=10) (h:jI n0 (aa am f2) a=0):ai5 n0 (f2 a):=by
 unfold jI at h
 obtain ⟨_,h⟩:=jp h (by decide)
 obtain ⟨_,h⟩:=jp h (by decide)
 unfold Ns Hf at h
 obtain ⟨h1,h⟩:=jp h (by decide)
 obtain ⟨h2,h⟩:=jp h (by decide)
 obtain ⟨h3,h⟩:=jp h (by decide)
 have h1:=u7 (notf h1:aA (ba (f2 a)) 0 (i64.wrap ((n0:Int) - 1))=true)
 have h2:=u7 (notf h2:aA (cQ (f2 a)) 1 3=true)
 have h3:=u7 ((QZ (notf h3)).1:aA (cM (f2 a)) 1 1000000=true)
 rw [wrapI (by omega) (by omega)] at h1
 exact ⟨⟨h1.1,by omega⟩,h2,h3⟩
def Hd (dx dy:Int):Prop:=(-1000<=dx/\dx<=1000)/\(-1000<=dy/\dy<=1000)/\(dx ≠ 0 ∨ dy ≠ 0)
def Bd (x:Int):Prop:=-1000000000<=x/\x<=1000000000
theorem Q8 {a b:Int} (ha:Bd a) (hb:-1000<=b/\b<=1000):-1000000000000<=a * b/\a * b<=1000000000000:=by
 unfold Bd at ha
 have h:=Nat.mul_le_mul (show a.natAbs<=1000000000 by omega) (show b.natAbs<=1000 by omega)
 rw [← Int.natAbs_mul] at h
 omega
theorem sqB {a:Int} (ha:-1000<=a/\a<=1000):0<=a * a/\a * a<=1000000/\(a ≠ 0->1<=a * a):=by
 have h:=Nat.mul_le_mul (show a.natAbs<=1000 by omega) (show a.natAbs<=1000 by omega)
 rw [← Int.natAbs_mul_self' a]
 refine ⟨by omega,by omega,fun h0=>?_⟩
 have:1<=a.natAbs * a.natAbs:=Nat.mul_le_mul (show 1<=a.natAbs by omega) (show 1<=a.natAbs by omega)
 omega
theorem hdS {dx dy:Int} (h:Hd dx dy):1<=bu dx dy/\bu dx dy<=2000000:=by
 obtain ⟨a,b,c⟩:=h
 have h1:=sqB a
 have h2:=sqB b
 unfold bu
 rw [wrapI (x:=dx * dx) (by omega) (by omega),wrapI (x:=dy * dy) (by omega) (by omega),wrapI (by omega) (by omega)]
 rcases c with c | c
 ·have:=h1.2.2 c; omega
 ·have:=h2.2.2 c; omega
theorem sJ (x:Int):bL x=ea x:=by unfold bL ea; omega
theorem SG {n:Nat}:ek n<=n:=by
 have h:=(kF n).1
 cases hr:ek n with
 | zero=>omega
 | succ k =>
   rw [hr] at h
   have:=Nat.mul_le_mul (show 1<=k+1 by omega) (Nat.le_refl (k+1))
   omega
theorem ON {n:Nat} (h:1<=n):1<=ek n:=by
 have h2:=(kF n).2
 cases hr:ek n with
 | zero=>rw [hr] at h2; omega
 | succ k=>omega
theorem pN {x:Int} (h:x<=3999999999999999999):yad x=cw x:=by
 unfold yad cw jG jR
 rw [show min x 4611686018427387903=x by omega,show min x 3999999999999999999=x by omega]
theorem C4 {x:Int} (h:x<=3999999999999999999):cJ x=b7 x:=by
 unfold cJ b7
 rw [pN h]
theorem zy {x:Int} (h1:1<=x):1<=cw x/\cw x<=3999999999999999999:=by
 unfold cw
 have a:=ON (n:=jR x) (by unfold jR; omega)
 have b:=SG (n:=jR x)
 have:jR x<=3999999999999999999:=by unfold jR; omega
 omega
theorem abw {x:Int} (h1:1<=x):1<=b7 x:=by
 have:=zy h1
 unfold b7
 cases decide (i64.wrap (cw x * cw x) < x) with
 | true=>show 1<=i64.wrap (cw x+1); rw [wrapI (by omega) (by omega)]; omega
 | false=>exact this.1
theorem rts {s:Int} (h:1<=s/\s<=2000000):Co s:=by
 unfold Co
 rw [wrapI (x:=1000000 * s) (by omega) (by omega)]
 exact ⟨fun h0=>by have:=abw (x:=1000000 * s) (by omega); omega,fun h0=>by have:=(zy (x:=1000000 * s) (by omega)).1; omega⟩
def Fy (x:Int):Prop:=-2000000000000<=x/\x<=2000000000000
theorem nX {a:Int} (h:Fy a):i64.wrap (1000 * a)=1000 * a:=by unfold Fy at h; exact wrapI (by omega) (by omega)
section
variable {a b c d s:Int} (ha:Fy a) (hb:Fy b) (hc:Fy c) (hd:Fy d) (hs:1<=s/\s<=2000000)
include a b c d s ha hb hc hd hs
theorem Kw :
 (bif decide (min (min (min (min (i64.wrap (1000 * a)) (i64.wrap (1000 * a))) (i64.wrap (1000 * b))) (i64.wrap (1000 * c))) (i64.wrap (1000 * d)) < 0)
   then bL (cj (min (min (min (min (i64.wrap (1000 * a)) (i64.wrap (1000 * a))) (i64.wrap (1000 * b))) (i64.wrap (1000 * c))) (i64.wrap (1000 * d))) (yad (i64.wrap (1000000 * s))))
   else bL (cj (min (min (min (min (i64.wrap (1000 * a)) (i64.wrap (1000 * a))) (i64.wrap (1000 * b))) (i64.wrap (1000 * c))) (i64.wrap (1000 * d))) (cJ (i64.wrap (1000000 * s)))))=Z5 (min (min (min (min a a) c) b) d) s:=by
 have hm:Fy (min (min (min (min a a) c) b) d):=by unfold Fy at *; omega
 rw [nX ha,nX hb,nX hc,nX hd]
 unfold Z5
 rw [nX hm,sJ,sJ,pN (by rw [wrapI (by omega) (by omega)]; omega),C4 (by rw [wrapI (by omega) (by omega)]; omega)]
 rw [show min (min (min (min (1000 * a) (1000 * a)) (1000 * b)) (1000 * c)) (1000 * d)=1000 * min (min (min (min a a) c) b) d by omega]
 rw [show decide (1000 * min (min (min (min a a) c) b) d < 0)=decide (min (min (min (min a a) c) b) d < 0) from decide_eq_decide.2 (by omega)]
 rfl
theorem Jz :
 (bif decide (max (max (max (max (i64.wrap (1000 * a)) (i64.wrap (1000 * a))) (i64.wrap (1000 * b))) (i64.wrap (1000 * c))) (i64.wrap (1000 * d)) < 0)
   then bL (cK (max (max (max (max (i64.wrap (1000 * a)) (i64.wrap (1000 * a))) (i64.wrap (1000 * b))) (i64.wrap (1000 * c))) (i64.wrap (1000 * d))) (cJ (i64.wrap (1000000 * s))))
   else bL (cK (max (max (max (max (i64.wrap (1000 * a)) (i64.wrap (1000 * a))) (i64.wrap (1000 * b))) (i64.wrap (1000 * c))) (i64.wrap (1000 * d))) (yad (i64.wrap (1000000 * s)))))=qhi (max (max (max (max a a) c) b) d) s:=by
 have hm:Fy (max (max (max (max a a) c) b) d):=by unfold Fy at *; omega
 rw [nX ha,nX hb,nX hc,nX hd]
 unfold qhi
 rw [nX hm,sJ,sJ,pN (by rw [wrapI (by omega) (by omega)]; omega),C4 (by rw [wrapI (by omega) (by omega)]; omega)]
 rw [show max (max (max (max (1000 * a) (1000 * a)) (1000 * b)) (1000 * c)) (1000 * d)=1000 * max (max (max (max a a) c) b) d by omega]
 rw [show decide (1000 * max (max (max (max a a) c) b) d < 0)=decide (max (max (max (max a a) c) b) d < 0) from decide_eq_decide.2 (by omega)]
 rfl
end
theorem W8 {dx dy x y:Int} (h:Hd dx dy) (hx:Bd x) (hy:Bd y):Fy (i64.wrap (i64.wrap (x * dy) - i64.wrap (y * dx))):=by
 have h1:=Q8 hx h.2.1
 have h2:=Q8 hy h.1
 unfold Fy
 rw [wrapI (x:=x * dy) (by omega) (by omega),wrapI (x:=y * dx) (by omega) (by omega),wrapI (by omega) (by omega)]
 omega
theorem WZ {dx dy x y:Int} (h:Hd dx dy) (hx:Bd x) (hy:Bd y):Fy (i64.wrap (i64.wrap (x * dx)+i64.wrap (y * dy))):=by
 have h1:=Q8 hx h.1
 have h2:=Q8 hy h.2.1
 unfold Fy
 rw [wrapI (x:=x * dx) (by omega) (by omega),wrapI (x:=y * dy) (by omega) (by omega),wrapI (by omega) (by omega)]
 omega
def EI:bd:=(191,.con O3)::EC
theorem BP:aR Tryz.prog eqs its EI:=.con H5 (yat)
theorem WW {ts:List Ty} {ds:List V} (h:ao ts ds=ds):jB ts ds []=jC ts ds []:=by
 have:=yaf ts ds []
 rw [h] at this
 exact this
theorem fl4 (a b c d:Int):aa ae (jm (bA 3 (bA 2 (bA 1 (fun _=>[.int .i64 a]) fun _=>[.int .i64 b]) fun _=>[.int .i64 c]) fun _=>[.int .i64 d]))=jm (bA 3 (bA 2 (bA 1 (fun _=>[.int .i64 a]) fun _=>[.int .i64 b]) fun _=>[.int .i64 c]) fun _=>[.int .i64 d]):=by
 funext i
 unfold aa jm bA
 cases Nat.blt i 3 <;> cases Nat.blt i 2 <;> cases Nat.blt i 1 <;> rfl
section
variable (x0 x1 x2 x3 x4 x5:Int)
include x0 x1 x2 x3 x4 x5
def XK:RT Empty:=.brt (.obt (.brf (.obt (.brf (.obt (.obt (.obt (.obt (.brt (.obt (.brt (.obt (.brf (.obt (.obt (.obt (.obt (.brt (.obt (.brf (.obt (.brt (.obt (.obt (.obt (.obt (.brt (.obt (.brt (.obt (.brt (.obt (.obt (.obt (.obt (.brf (.obe ([Ty.sl ae,tI]) ([V.sl 4 (jm (bA 3 (bA 2 (bA 1 (fun x=>[vi (i64.wrap (i64.wrap (x0 * x5) - i64.wrap (x2 * x4)))]) fun x=>[vi (i64.wrap (i64.wrap (x1 * x5) - i64.wrap (x2 * x4)))]) fun x=>[vi (i64.wrap (i64.wrap (x0 * x5) - i64.wrap (x3 * x4)))]) fun x=>[vi (i64.wrap (i64.wrap (x1 * x5) - i64.wrap (x3 * x4)))])),vi (i64.wrap (i64.wrap (x4 * x4)+i64.wrap (x5 * x5)))]) (.obp ((1:Nat)<=(4:Nat)/\(b7 (i64.wrap ((1000000:Int) * i64.wrap (i64.wrap (x4 * x4)+i64.wrap (x5 * x5))))=(0:Int)->False)/\(cw (i64.wrap ((1000000:Int) * i64.wrap (i64.wrap (x4 * x4)+i64.wrap (x5 * x5))))=(0:Int)->False)) (.obt (.obt (.obe ([Ty.sl ae,tI]) ([V.sl 4 (jm (bA 3 (bA 2 (bA 1 (fun x=>[vi (i64.wrap (i64.wrap (x0 * x4)+i64.wrap (x2 * x5)))]) fun x=>[vi (i64.wrap (i64.wrap (x1 * x4)+i64.wrap (x2 * x5)))]) fun x=>[vi (i64.wrap (i64.wrap (x0 * x4)+i64.wrap (x3 * x5)))]) fun x=>[vi (i64.wrap (i64.wrap (x1 * x4)+i64.wrap (x3 * x5)))])),vi (i64.wrap (i64.wrap (x4 * x4)+i64.wrap (x5 * x5)))]) (.obp ((1:Nat)<=(4:Nat)/\(b7 (i64.wrap ((1000000:Int) * i64.wrap (i64.wrap (x4 * x4)+i64.wrap (x5 * x5))))=(0:Int)->False)/\(cw (i64.wrap ((1000000:Int) * i64.wrap (i64.wrap (x4 * x4)+i64.wrap (x5 * x5))))=(0:Int)->False)) (.obt (.obt (.ret (V.agg [vi (fG 4 (jm (bA 3 (bA 2 (bA 1 (fun x=>[vi (i64.wrap (i64.wrap (x0 * x5) - i64.wrap (x2 * x4)))]) fun x=>[vi (i64.wrap (i64.wrap (x1 * x5) - i64.wrap (x2 * x4)))]) fun x=>[vi (i64.wrap (i64.wrap (x0 * x5) - i64.wrap (x3 * x4)))]) fun x=>[vi (i64.wrap (i64.wrap (x1 * x5) - i64.wrap (x3 * x4)))])) (i64.wrap (i64.wrap (x4 * x4)+i64.wrap (x5 * x5)))),vi (fH 4 (jm (bA 3 (bA 2 (bA 1 (fun x=>[vi (i64.wrap (i64.wrap (x0 * x5) - i64.wrap (x2 * x4)))]) fun x=>[vi (i64.wrap (i64.wrap (x1 * x5) - i64.wrap (x2 * x4)))]) fun x=>[vi (i64.wrap (i64.wrap (x0 * x5) - i64.wrap (x3 * x4)))]) fun x=>[vi (i64.wrap (i64.wrap (x1 * x5) - i64.wrap (x3 * x4)))])) (i64.wrap (i64.wrap (x4 * x4)+i64.wrap (x5 * x5)))),vi (fG 4 (jm (bA 3 (bA 2 (bA 1 (fun x=>[vi (i64.wrap (i64.wrap (x0 * x4)+i64.wrap (x2 * x5)))]) fun x=>[vi (i64.wrap (i64.wrap (x1 * x4)+i64.wrap (x2 * x5)))]) fun x=>[vi (i64.wrap (i64.wrap (x0 * x4)+i64.wrap (x3 * x5)))]) fun x=>[vi (i64.wrap (i64.wrap (x1 * x4)+i64.wrap (x3 * x5)))])) (i64.wrap (i64.wrap (x4 * x4)+i64.wrap (x5 * x5)))),vi (fH 4 (jm (bA 3 (bA 2 (bA 1 (fun x=>[vi (i64.wrap (i64.wrap (x0 * x4)+i64.wrap (x2 * x5)))]) fun x=>[vi (i64.wrap (i64.wrap (x1 * x4)+i64.wrap (x2 * x5)))]) fun x=>[vi (i64.wrap (i64.wrap (x0 * x4)+i64.wrap (x3 * x5)))]) fun x=>[vi (i64.wrap (i64.wrap (x1 * x4)+i64.wrap (x3 * x5)))])) (i64.wrap (i64.wrap (x4 * x4)+i64.wrap (x5 * x5))))]))))))))))))))))))))))))))))))))))))))))))))))
theorem VB:dh dm (aS JJ EI uu5 agR [vi x0,vi x1,vi x2,vi x3,vi x4,vi x5]) (XK x0 x1 x2 x3 x4 x5):=⟨by kernel_rfl,by kernel_rfl⟩
def gN:Int:=fG 4 (jm (bA 3 (bA 2 (bA 1 (fun x=>[vi (i64.wrap (i64.wrap (x0 * x5) - i64.wrap (x2 * x4)))]) fun x=>[vi (i64.wrap (i64.wrap (x1 * x5) - i64.wrap (x2 * x4)))]) fun x=>[vi (i64.wrap (i64.wrap (x0 * x5) - i64.wrap (x3 * x4)))]) fun x=>[vi (i64.wrap (i64.wrap (x1 * x5) - i64.wrap (x3 * x4)))])) (i64.wrap (i64.wrap (x4 * x4)+i64.wrap (x5 * x5)))
def gU:Int:=fH 4 (jm (bA 3 (bA 2 (bA 1 (fun x=>[vi (i64.wrap (i64.wrap (x0 * x5) - i64.wrap (x2 * x4)))]) fun x=>[vi (i64.wrap (i64.wrap (x1 * x5) - i64.wrap (x2 * x4)))]) fun x=>[vi (i64.wrap (i64.wrap (x0 * x5) - i64.wrap (x3 * x4)))]) fun x=>[vi (i64.wrap (i64.wrap (x1 * x5) - i64.wrap (x3 * x4)))])) (i64.wrap (i64.wrap (x4 * x4)+i64.wrap (x5 * x5)))
def gO:Int:=fG 4 (jm (bA 3 (bA 2 (bA 1 (fun x=>[vi (i64.wrap (i64.wrap (x0 * x4)+i64.wrap (x2 * x5)))]) fun x=>[vi (i64.wrap (i64.wrap (x1 * x4)+i64.wrap (x2 * x5)))]) fun x=>[vi (i64.wrap (i64.wrap (x0 * x4)+i64.wrap (x3 * x5)))]) fun x=>[vi (i64.wrap (i64.wrap (x1 * x4)+i64.wrap (x3 * x5)))])) (i64.wrap (i64.wrap (x4 * x4)+i64.wrap (x5 * x5)))
def gQ:Int:=fH 4 (jm (bA 3 (bA 2 (bA 1 (fun x=>[vi (i64.wrap (i64.wrap (x0 * x4)+i64.wrap (x2 * x5)))]) fun x=>[vi (i64.wrap (i64.wrap (x1 * x4)+i64.wrap (x2 * x5)))]) fun x=>[vi (i64.wrap (i64.wrap (x0 * x4)+i64.wrap (x3 * x5)))]) fun x=>[vi (i64.wrap (i64.wrap (x1 * x4)+i64.wrap (x3 * x5)))])) (i64.wrap (i64.wrap (x4 * x4)+i64.wrap (x5 * x5)))
def Qv:V:=.agg [.int i64 (gN x0 x1 x2 x3 x4 x5),.int i64 (gU x0 x1 x2 x3 x4 x5),.int i64 (gO x0 x1 x2 x3 x4 x5),.int i64 (gQ x0 x1 x2 x3 x4 x5)]
theorem ac4 (hp:Co (i64.wrap (i64.wrap (x4 * x4)+i64.wrap (x5 * x5)))):aN cr (XK x0 x1 x2 x3 x4 x5) (Qv x0 x1 x2 x3 x4 x5):=eg (af (jP (af (jP (af (af (af (af (eg (af (eg (af (jP (af (af (af (af (eg (af (jP (af (eg (af (af (af (af (eg (af (eg (af (eg (af (af (af (af (jP (Yu (by exact WW (congrArg (fun f=>[V.sl 4 f,_]) (fl4 ..))) (aC (by first | assumption | (exact ⟨by decide,hp⟩)) (af (af (Yu (by exact WW (congrArg (fun f=>[V.sl 4 f,_]) (fl4 ..))) (aC (by first | assumption | (exact ⟨by decide,hp⟩)) (af (af (evRet (by unfold Qv gN gU gO gQ; rfl))))))))))))))))))))))))))))))))))))))))))))))
end
def Kr:aB:=bI [tI,tI,tI,tI,tI,tI] (fun
 | [.int _ x0,.int _ x1,.int _ x2,.int _ x3,.int _ x4,.int _ x5]=>Co (i64.wrap (i64.wrap (x4 * x4)+i64.wrap (x5 * x5)))
 | _=>False) fun
 | [.int _ x0,.int _ x1,.int _ x2,.int _ x3,.int _ x4,.int _ x5]=>Qv x0 x1 x2 x3 x4 x5
 | _=>.any
theorem Lb:(vP Kr).Ok Tryz.prog 151:=bY BP Tryz.func151 (by kernel_rfl) fun ds hp=>dG (VB ..) (ac4 _ _ _ _ _ _ hp)
section
variable (x0 x1 x2 x3 x4 x5:Int)
include x0 x1 x2 x3 x4 x5
def Nn:RT Empty:=.obc (.obt (.obc (.obt (.obc (.obt (.obp ((cJ (i64.wrap ((1000000:Int) * bu x0 x1))=(0:Int)->False)/\(yad (i64.wrap ((1000000:Int) * bu x0 x1))=(0:Int)->False)) (.obt (.obp ((cJ (i64.wrap ((1000000:Int) * bu x0 x1))=(0:Int)->False)/\(yad (i64.wrap ((1000000:Int) * bu x0 x1))=(0:Int)->False)) (.obt (.ret (V.agg [vi (gY x0 x1 x2 x4 x2 x5 x3 x4 x3 x5 (cJ (i64.wrap (1000000 * bu x0 x1))) (yad (i64.wrap (1000000 * bu x0 x1)))),vi (hG x0 x1 x2 x4 x2 x5 x3 x4 x3 x5 (cJ (i64.wrap (1000000 * bu x0 x1))) (yad (i64.wrap (1000000 * bu x0 x1)))),vi (g9 x0 x1 x2 x4 x2 x5 x3 x4 x3 x5 (cJ (i64.wrap (1000000 * bu x0 x1))) (yad (i64.wrap (1000000 * bu x0 x1)))),vi (ia x0 x1 x2 x4 x2 x5 x3 x4 x3 x5 (cJ (i64.wrap (1000000 * bu x0 x1))) (yad (i64.wrap (1000000 * bu x0 x1))))])))))))))))
theorem UB:dh dm (aS JJ EI u0 F6 [V.agg [vi x0,vi x1],vi x2,vi x3,vi x4,vi x5]) (Nn x0 x1 x2 x3 x4 x5):=⟨by kernel_rfl,by kernel_rfl⟩
def akV:Int:=gY x0 x1 x2 x4 x2 x5 x3 x4 x3 x5 (cJ (i64.wrap (1000000 * bu x0 x1))) (yad (i64.wrap (1000000 * bu x0 x1)))
def ale:Int:=hG x0 x1 x2 x4 x2 x5 x3 x4 x3 x5 (cJ (i64.wrap (1000000 * bu x0 x1))) (yad (i64.wrap (1000000 * bu x0 x1)))
def akX:Int:=g9 x0 x1 x2 x4 x2 x5 x3 x4 x3 x5 (cJ (i64.wrap (1000000 * bu x0 x1))) (yad (i64.wrap (1000000 * bu x0 x1)))
def akP:Int:=ia x0 x1 x2 x4 x2 x5 x3 x4 x3 x5 (cJ (i64.wrap (1000000 * bu x0 x1))) (yad (i64.wrap (1000000 * bu x0 x1)))
end
section
variable {x0 x1 x2 x3 x4 x5:Int} (hd:Hd x0 x1) (h2:Bd x2) (h3:Bd x3) (h4:Bd x4) (h5:Bd x5)
include x0 x1 x2 x3 x4 x5 hd h2 h3 h4 h5
theorem ami:gY x0 x1 x2 x4 x2 x5 x3 x4 x3 x5 (cJ (i64.wrap (1000000 * bu x0 x1))) (yad (i64.wrap (1000000 * bu x0 x1)))=gN x2 x3 x4 x5 x0 x1:=Kw (W8 hd h2 h4) (W8 hd h2 h5) (W8 hd h3 h4) (W8 hd h3 h5) (hdS hd)
theorem amC:hG x0 x1 x2 x4 x2 x5 x3 x4 x3 x5 (cJ (i64.wrap (1000000 * bu x0 x1))) (yad (i64.wrap (1000000 * bu x0 x1)))=gU x2 x3 x4 x5 x0 x1:=Jz (W8 hd h2 h4) (W8 hd h2 h5) (W8 hd h3 h4) (W8 hd h3 h5) (hdS hd)
theorem amJ:g9 x0 x1 x2 x4 x2 x5 x3 x4 x3 x5 (cJ (i64.wrap (1000000 * bu x0 x1))) (yad (i64.wrap (1000000 * bu x0 x1)))=gO x2 x3 x4 x5 x0 x1:=Kw (WZ hd h2 h4) (WZ hd h2 h5) (WZ hd h3 h4) (WZ hd h3 h5) (hdS hd)
theorem amT:ia x0 x1 x2 x4 x2 x5 x3 x4 x3 x5 (cJ (i64.wrap (1000000 * bu x0 x1))) (yad (i64.wrap (1000000 * bu x0 x1)))=gQ x2 x3 x4 x5 x0 x1:=Jz (WZ hd h2 h4) (WZ hd h2 h5) (WZ hd h3 h4) (WZ hd h3 h5) (hdS hd)
end
section
variable (x0 x1 x2 x3 x4 x5:Int) (hp:Hd x0 x1/\Bd x2/\Bd x3/\Bd x4/\Bd x5)
include x0 x1 x2 x3 x4 x5 hp
theorem PY:aN cr (Nn x0 x1 x2 x3 x4 x5) (.agg [.int .i64 (gN x2 x3 x4 x5 x0 x1),.int .i64 (gU x2 x3 x4 x5 x0 x1),.int .i64 (gO x2 x3 x4 x5 x0 x1),.int .i64 (gQ x2 x3 x4 x5 x0 x1)]):=by
 obtain ⟨hd,h2,h3,h4,h5⟩:=hp
 have hs:=hdS hd
 have hr:=rts hs
 have hw:i64.wrap (1000000 * bu x0 x1)<=3999999999999999999:=by rw [wrapI (by omega) (by omega)]; omega
 unfold Co at hr
 rw [← C4 hw,← pN hw] at hr
 exact av (af (av (af (av (af (aC hr (af (aC hr (af (evRet (by rw [ami hd h2 h3 h4 h5,amC hd h2 h3 h4 h5,amJ hd h2 h3 h4 h5,amT hd h2 h3 h4 h5])))))))))))
theorem aam:aN cr (Nn x0 x1 x2 x3 x4 x5) (.agg [.int .i64 (gN x2 x3 x4 x5 x0 x1),.int .i64 (gU x2 x3 x4 x5 x0 x1),.int .i64 (gO x2 x3 x4 x5 x0 x1),.int .i64 (gQ x2 x3 x4 x5 x0 x1)]):=PY x0 x1 x2 x3 x4 x5 hp
end
def yaO:aB:=bI [.agg b4,tI,tI,tI,tI] (fun
 | [.agg [.int _ x0,.int _ x1],.int _ x2,.int _ x3,.int _ x4,.int _ x5]=>Hd x0 x1/\Bd x2/\Bd x3/\Bd x4/\Bd x5
 | _=>False) fun
 | [.agg [.int _ x0,.int _ x1],.int _ x2,.int _ x3,.int _ x4,.int _ x5]=>.agg [.int .i64 (gN x2 x3 x4 x5 x0 x1),.int .i64 (gU x2 x3 x4 x5 x0 x1),.int .i64 (gO x2 x3 x4 x5 x0 x1),.int .i64 (gQ x2 x3 x4 x5 x0 x1)]
 | _=>.any
theorem My:(vP yaO).Ok Tryz.prog 125:=bY BP Tryz.func125 (by kernel_rfl) fun ds hp=>dG (UB ..) (aam _ _ _ _ _ _ hp)
def IZ:bd:=(151,.con Kr)::(125,.con yaO)::EI
theorem Pk:aR Tryz.prog eqs its IZ:=.con Lb (.con My (BP))
theorem r3 {v:Int} {n:Nat} (h:(!bz v (-1) (i64.wrap ((n:Int) - 1)))=false) (h2:decide (0<=v)=true) (hn:true=true->n<=9223372036854775807):decide (0<=v/\v < (n:Int))=true:=by
 have:=u7 (x:=v) (notf h)
 have hn:=hn rfl
 rw [wrapI (by omega) (by omega)] at this
 have:=of_decide_eq_true h2
 exact dqt (by omega)
def aah (n0 n2:Nat) (f2:ah) (n13 n15:Nat) (x:Int):Prop:=(0<=x/\x < n13)/\(0<=x/\x < n15)/\∀ i:Nat,i < n2->0<=ba (f2 i)/\ba (f2 i) < n0
theorem vo {n0 n2:Nat} {f2:Nat->List V} {n13 n15:Nat} {x v:Int} (h:aah n0 n2 f2 n13 n15 x) (hv:decide (0<=v/\v < (n2:Int))=true):decide (0<=ba (f2 v.toNat)/\ba (f2 v.toNat) < (n0:Int))=true:=by
 have:=of_decide_eq_true hv
 exact dqt (h.2.2 v.toNat (by omega))
def Yv (n0:Nat) (f0:ah) (n2:Nat) (f2:ah) (x4:Int) (n5:Nat) (f5:ah) (n7:Nat) (f7:ah) (n9:Nat) (f9:ah) (n11:Nat) (f11:ah) (n13:Nat) (f13:ah) (n15:Nat) (f15:ah) (x17:Int):RT Empty:=.ob (decide (0<=x17/\x17 < (↑n13:Int))) (.ob (decide (0<=x17/\x17 < (↑n15:Int))) (.asm (true=true->n2<=9223372036854775807) (.obc (.obt (.br (!bz (ay (f13 x17.toNat)) (-1) (i64.wrap ((↑n2:Int) - 1))) (.ret (vi 4)) (.obc (.obt (.obi (.br (!!bz (ay (f15 x17.toNat)) 0 200000) (.ob (!!bz (ay (f15 x17.toNat)) 0 200000) (.obc (.obt (.obi (.br (!!bz (ba (f15 x17.toNat)) 0 600) (.ob (!!bz (ba (f15 x17.toNat)) 0 600) (.obc (.obt (.br (!bz (cQ (f15 x17.toNat)) 0 1000) (.ret (vi 7)) (.br (decide (0<=ay (f13 x17.toNat))) (.ob (decide (0<=ay (f13 x17.toNat)/\ay (f13 x17.toNat) < (↑n2:Int))) (.ob (decide (0<=ba (f2 (ay (f13 x17.toNat)).toNat)/\ba (f2 (ay (f13 x17.toNat)).toNat) < (↑n0:Int))) (.obc (.obt (.br (decide (100000000000 < i64.wrap (max (nN (au (hdV (ab (ab (ab (f0 (ba (f2 (ay (f13 x17.toNat)).toNat)).toNat)))))) (fun i=>ao [Ty.sl ae] (bj (hdV (ab (ab (ab (f0 (ba (f2 (ay (f13 x17.toNat)).toNat)).toNat))))) i)) (cv (f0 (ba (f2 (ay (f13 x17.toNat)).toNat)).toNat))) (be (f0 (ba (f2 (ay (f13 x17.toNat)).toNat)).toNat)) * cM (f2 (ay (f13 x17.toNat)).toNat)))) (.ret (vi 7)) (.ret (vi 0))))))) (.ret (vi 0))))))) (.ret (vi 7))))))) (.ret (vi 7)))))))))))
theorem Q7 (n0:Nat) (f0:ah) (n2:Nat) (f2:ah) (x4:Int) (n5:Nat) (f5:ah) (n7:Nat) (f7:ah) (n9:Nat) (f9:ah) (n11:Nat) (f11:ah) (n13:Nat) (f13:ah) (n15:Nat) (f15:ah) (x17:Int):dh dm (aS JJ IZ u0 aiO [V.agg [V.sl n0 (aa al f0),V.sl n2 (aa am f2),vi x4,V.sl n5 (aa bF f5),V.sl n7 (aa ce f7),V.sl n9 (aa ci f9),V.sl n11 (aa aT f11),V.sl n13 (aa ae f13),V.sl n15 (aa bG f15)],vi x17]) (Yv n0 f0 n2 f2 x4 n5 f5 n7 f7 n9 f9 n11 f11 n13 f13 n15 f15 x17):=⟨by kernel_rfl,by kernel_rfl⟩
def fh (f0:ah) (n2:Nat) (f2 f13 f15:ah) (x17:Int):Int:=bif !bz (ay (f13 x17.toNat)) (-1) (i64.wrap ((↑n2:Int) - 1)) then 4 else bif !!bz (ay (f15 x17.toNat)) 0 200000 then bif !!bz (ba (f15 x17.toNat)) 0 600 then bif !bz (cQ (f15 x17.toNat)) 0 1000 then 7 else bif decide (0<=ay (f13 x17.toNat)) then bif decide (100000000000 < i64.wrap (max (nN (au (hdV (ab (ab (ab (f0 (ba (f2 (ay (f13 x17.toNat)).toNat)).toNat)))))) (fun i=>ao [Ty.sl ae] (bj (hdV (ab (ab (ab (f0 (ba (f2 (ay (f13 x17.toNat)).toNat)).toNat))))) i)) (cv (f0 (ba (f2 (ay (f13 x17.toNat)).toNat)).toNat))) (be (f0 (ba (f2 (ay (f13 x17.toNat)).toNat)).toNat)) * cM (f2 (ay (f13 x17.toNat)).toNat))) then 7 else 0 else 0 else 7 else 7
def pU (n0:Nat) (f0:ah) (n2:Nat) (f2:ah) (x4:Int) (n5:Nat) (f5:ah) (n7:Nat) (f7:ah) (n9:Nat) (f9:ah) (n11:Nat) (f11:ah) (n13:Nat) (f13:ah) (n15:Nat) (f15:ah) (x17:Int):V:=.int i64 (fh f0 n2 f2 f13 f15 x17)
theorem aew (n0:Nat) (f0:ah) (n2:Nat) (f2:ah) (x4:Int) (n5:Nat) (f5:ah) (n7:Nat) (f7:ah) (n9:Nat) (f9:ah) (n11:Nat) (f11:ah) (n13:Nat) (f13:ah) (n15:Nat) (f15:ah) (x17:Int) (hp:aah n0 n2 f2 n13 n15 x17):aN cr (Yv n0 f0 n2 f2 x4 n5 f5 n7 f7 n9 f9 n11 f11 n13 f13 n15 f15 x17) (pU n0 f0 n2 f2 x4 n5 f5 n7 f7 n9 f9 n11 f11 n13 f13 n15 f15 x17):=aM (by first | assumption | (first | exact dqt hp.1 | exact dqt hp.2.1 | exact r3 h0 h4 a0 | exact vo hp (r3 h0 h4 a0))) (aM (by first | assumption | (first | exact dqt hp.1 | exact dqt hp.2.1 | exact r3 h0 h4 a0 | exact vo hp (r3 h0 h4 a0))) (evAsm (fun a0=>av (af (evBr (fun h0=>evRet (by unfold pU fh; try rw [h0]; rfl)) (fun h0=>av (af (evObi (evBr (fun h1=>aM (by first | assumption | (first | exact dqt hp.1 | exact dqt hp.2.1 | exact r3 h0 h4 a0 | exact vo hp (r3 h0 h4 a0))) (av (af (evObi (evBr (fun h2=>aM (by first | assumption | (first | exact dqt hp.1 | exact dqt hp.2.1 | exact r3 h0 h4 a0 | exact vo hp (r3 h0 h4 a0))) (av (af (evBr (fun h3=>evRet (by unfold pU fh; try rw [h0]; try rw [h1]; try rw [h2]; try rw [h3]; rfl)) (fun h3=>evBr (fun h4=>aM (by first | assumption | (first | exact dqt hp.1 | exact dqt hp.2.1 | exact r3 h0 h4 a0 | exact vo hp (r3 h0 h4 a0))) (aM (by first | assumption | (first | exact dqt hp.1 | exact dqt hp.2.1 | exact r3 h0 h4 a0 | exact vo hp (r3 h0 h4 a0))) (av (af (evBr (fun h5=>evRet (by unfold pU fh; try rw [h0]; try rw [h1]; try rw [h2]; try rw [h3]; try rw [h4]; try rw [h5]; rfl)) (fun h5=>evRet (by unfold pU fh; try rw [h0]; try rw [h1]; try rw [h2]; try rw [h3]; try rw [h4]; try rw [h5]; rfl))))))) (fun h4=>evRet (by unfold pU fh; try rw [h0]; try rw [h1]; try rw [h2]; try rw [h3]; try rw [h4]; rfl))))))) (fun h2=>evRet (by unfold pU fh; try rw [h0]; try rw [h1]; try rw [h2]; rfl))))))) (fun h1=>evRet (by unfold pU fh; try rw [h0]; try rw [h1]; rfl)))))))))))
def Qg:aB:=bI [.agg [.sl al,.sl am,tI,.sl bF,.sl ce,.sl ci,.sl aT,.sl ae,.sl bG],tI] (fun
 | [.agg [.sl n0 f0,.sl n2 f2,.int _ x4,.sl n5 f5,.sl n7 f7,.sl n9 f9,.sl n11 f11,.sl n13 f13,.sl n15 f15],.int _ x17]=>aah n0 n2 f2 n13 n15 x17
 | _=>False) fun
 | [.agg [.sl n0 f0,.sl n2 f2,.int _ x4,.sl n5 f5,.sl n7 f7,.sl n9 f9,.sl n11 f11,.sl n13 f13,.sl n15 f15],.int _ x17]=>pU n0 f0 n2 f2 x4 n5 f5 n7 f7 n9 f9 n11 f11 n13 f13 n15 f15 x17
 | _=>.any
theorem Kf:(vP Qg).Ok Tryz.prog 67:=bY Pk Tryz.func67 (by kernel_rfl) fun ds hp=>dG (Q7 ..) (aew _ _ _ _ _ _ _ _ _ _ _ _ _ _ _ _ _ _ hp)
theorem Gl {p:Nat->Int} {z:Int}:∀ k:Nat,1<=k->xb p z k=max z (xb p (p 0) k)
 | 0,h=>absurd h (by decide)
 | 1,_=>by show max z (p 0)=max z (max (p 0) (p 0)); rw [Int.max_self]
 | k+2,_=>by
   show max (xb p z (k+1)) (p (k+1))=max z (max (xb p (p 0) (k+1)) (p (k+1)))
   rw [Gl (k+1) (by omega),Int.max_assoc]
theorem xS {n5:Nat} {f5:Nat->List V} {z:Int} (h:∀ i,i < n5->1<=au (hdV (f5 i))):oU n5 f5 z=nN n5 f5 z:=by
 unfold oU nN
 have:∀ k,k<=n5->xb (fun i=>zj f5 i) z k=grR f5 z k:=fun k=>by
  induction k with
  | zero=>intro _; rfl
  | succ k ih =>
    intro hk
    show max (xb (fun i=>zj f5 i) z k) (zj f5 k)=xb (fun j=>ay (bj (hdV (f5 k)) j)) (grR f5 z k) (au (hdV (f5 k)))
    rw [ih (by omega),Gl _ (h k (by omega))]
    rfl
 exact this n5 (Nat.le_refl _)
def gr4 (x:List V):Int:=nN (HG x) (aa [.sl ae] (va x)) (cv x)
def wM (n0:Nat) (f0:ah) (x4:Int):Int:=bif !bz x4 (-1) (i64.wrap ((n0:Int) - 1)) then 4 else bif decide (0<=x4) then (bif decide (10000 < gr4 (f0 x4.toNat)) then 7 else 0) else 0
def aap (f0:ah) (x:List V):Bool:=decide (100000000000 < i64.wrap (max (gr4 (f0 (ba x).toNat)) (be ((f0 (ba x).toNat))) * cM x))
def wT (a b c d e g:Bool):Int:=bif !a then 4 else bif !!b then (bif !!c then (bif !d then 7 else bif e then (bif g then 7 else 0) else 0) else 7) else 7
def yak (f0:ah) (n2:Nat) (f2 f13 f15:Nat->List V) (i:Nat):Int:=wT (bz (ay ((f13 i))) (-1) (i64.wrap ((n2:Int) - 1))) (bz (ay ((f15 i))) 0 200000) (bz (ba ((f15 i))) 0 600) (bz (cQ ((f15 i))) 0 1000) (decide (0<=ay ((f13 i)))) (aap f0 (f2 (ay ((f13 i))).toNat))
theorem akt (f0:ah) (n2:Nat) (f2 f13 f15:Nat->List V) (i:Nat):fh (aa al f0) n2 (aa am f2) (aa ae f13) (aa bG f15) i=yak f0 n2 f2 f13 f15 i:=by
 unfold fh yak wT aap gr4
 rfl
section
variable {a b c d e g:Bool}
include a b c d e g
theorem agA (h:a=false):wT a b c d e g=4:=by subst h; rfl
theorem ajm (h:a=true) (h2:b=false):wT a b c d e g=7:=by subst h h2; rfl
theorem ajq (h:a=true) (h2:b=true) (h3:c=false):wT a b c d e g=7:=by subst h h2 h3; rfl
theorem afx (h:a=true) (h2:b=true) (h3:c=true) (h4:d=false):wT a b c d e g=7:=by subst h h2 h3 h4; rfl
theorem aiv (h:a=true) (h2:b=true) (h3:c=true) (h4:d=true) (h5:e=false):wT a b c d e g=0:=by subst h h2 h3 h4 h5; rfl
theorem ajH (h:a=true) (h2:b=true) (h3:c=true) (h4:d=true) (h5:e=true) (h6:g=true):wT a b c d e g=7:=by subst h h2 h3 h4 h5 h6; rfl
theorem ahg (h:a=true) (h2:b=true) (h3:c=true) (h4:d=true) (h5:e=true) (h6:g=false):wT a b c d e g=0:=by subst h h2 h3 h4 h5 h6; rfl
end
def Ar (n11 n13 n15:Nat):Bool:=bif (n13:Int) != (n11:Int) then true else (n15:Int) != (n11:Int)
section
variable (n0:Nat) (f0:ah) (n2:Nat) (f2:ah) (x4:Int) (n5:Nat) (f5:ah) (n7:Nat) (f7:ah) (n9:Nat) (f9:ah) (n11:Nat) (f11:ah) (n13:Nat) (f13:ah) (n15:Nat) (f15:ah)
include n0 f0 n2 f2 x4 n5 f5 n7 f7 n9 f9 n11 f11 n13 f13 n15 f15
def Sq:Int × Int × Int:=bif b8 n0 (aa al f0) n2 (aa am f2) != 0 then (1,0,b8 n0 (aa al f0) n2 (aa am f2)) else bif mg n5 (aa bF f5) n7 (aa ce f7) n9 (aa ci f9) n11 (aa aT f11) != 0 then (2,0,mg n5 (aa bF f5) n7 (aa ce f7) n9 (aa ci f9) n11 (aa aT f11)) else bif wM n0 f0 x4 != 0 then (3,0,wM n0 f0 x4) else bif Ar n11 n13 n15 then (4,0,2) else vU n11 (yak f0 n2 f2 f13 f15) 4 (0,0,0)
def mX:Int:=(Sq n0 f0 n2 f2 x4 n5 f5 n7 f7 n9 f9 n11 f11 n13 f13 n15 f15).1
def mY:Int:=(Sq n0 f0 n2 f2 x4 n5 f5 n7 f7 n9 f9 n11 f11 n13 f13 n15 f15).2.1
def gq:Int:=(Sq n0 f0 n2 f2 x4 n5 f5 n7 f7 n9 f9 n11 f11 n13 f13 n15 f15).2.2
end
theorem tk {n11 n13 n15:Nat} (h:Ar n11 n13 n15=false):n13=n11/\n15=n11:=by
 unfold Ar at h
 cases h1:((n13:Int) != (n11:Int)) with
 | true=>rw [h1] at h; cases h
 | false =>
   rw [h1] at h
   have h:((n15:Int) != (n11:Int))=false:=h
   have h1:=eq_of_beq (by simpa using h1:((n13:Int) == (n11:Int))=true)
   have h:=eq_of_beq (by simpa using h:((n15:Int) == (n11:Int))=true)
   omega
def wv:bd:=(67,.con Qg)::IZ
theorem A7:aR Tryz.prog eqs its wv:=.con Kf (Pk)
theorem uK {x:Int} (h:(x != 0)=false):x=0:=eq_of_beq (by simpa using h:(x == 0)=true)
theorem aj2 {x:Int} (h:x ≠ 0):(x != 0)=true:=by simpa using h
theorem Al {b:Bool} (h:(!b)=true):b=false:=by cases b <;> first | rfl | cases h
theorem xw {b:Bool} (h:(!!b)=true):b=true:=by cases b <;> first | rfl | cases h
theorem ai1 {b:Bool} (h:(!!b)=false):b=false:=by cases b <;> first | rfl | cases h
section
variable {S:Type} {Nx:S->V->Prop} {r:V} {b:Bool} {x y:RT S}
include S Nx r b x y
theorem xH (h:b=true) (hx:aN Nx x r):aN Nx (.br b x y) r:=evBr (fun _=>hx) (fun h'=>by rw [h] at h'; cases h')
theorem yu (h:b=false) (hx:aN Nx y r):aN Nx (.br b x y) r:=evBr (fun h'=>by rw [h] at h'; cases h') (fun _=>hx)
end
theorem nr.of_el {f0:Nat->List V} {i:Nat} (h:nr (aa al f0 i)):nr (f0 i):=⟨h.u,h.v,h.n,h.row,h.side,h.sky,h.val⟩
theorem wV {x:List V} (h:nr x):∀ i:Nat,i < au (hdV (ab (ab (ab x))))->1<=au (hdV (bj (hdV (ab (ab (ab x)))) i)):=fun i hi=>by
 have h1:=h.row i hi
 have h2:=h.v.1
 show 1<=au (hdV (va x i))
 omega
theorem wQ {x:List V} (h:nr x):∀ i:Nat,i < HG x->1<=au (hdV (aa [.sl ae] (va x) i)):=wV h
theorem srf {x4:Int} {n0:Nat} (h:bz x4 (-1) (i64.wrap ((n0:Int) - 1))=true) (h2:decide (0<=x4)=true) (hn:n0<=9223372036854775807):decide (0<=x4/\x4 < (n0:Int))=true:=by
 have:=u7 h
 rw [wrapI (by omega) (by omega)] at this
 have:=of_decide_eq_true h2
 exact dqt (by omega)
inductive pE where
 | L0 (ia0:Int)
def ybj (n0:Nat) (f0:ah) (n2:Nat) (f2:ah) (x4:Int) (n5:Nat) (f5:ah) (n7:Nat) (f7:ah) (n9:Nat) (f9:ah) (n11:Nat) (f11:ah) (n13:Nat) (f13:ah) (n15:Nat) (f15:ah):pE->bp × List O × Option Ex
 | .L0 ia0=>([(9,vi ia0),(8,vi (↑n11:Int)),(1,V.pl 0 0)],[O.cells [V.sl n0 (aa al f0),V.sl n2 (aa am f2),vi x4,V.sl n5 (aa bF f5),V.sl n7 (aa ce f7),V.sl n9 (aa ci f9),V.sl n11 (aa aT f11),V.sl n13 (aa ae f13),V.sl n15 (aa bG f15)] 35],none)
def abm:pE->JJ
 | .L0 ia0=>(0,[])
section
variable (n0:Nat) (f0:ah) (n2:Nat) (f2:ah) (x4:Int) (n5:Nat) (f5:ah) (n7:Nat) (f7:ah) (n9:Nat) (f9:ah) (n11:Nat) (f11:ah) (n13:Nat) (f13:ah) (n15:Nat) (f15:ah)
include n0 f0 n2 f2 x4 n5 f5 n7 f7 n9 f9 n11 f11 n13 f13 n15 f15
def I5:T (bN JJ):=aS JJ wv u0 ahW [V.agg [V.sl n0 (aa al f0),V.sl n2 (aa am f2),vi x4,V.sl n5 (aa bF f5),V.sl n7 (aa ce f7),V.sl n9 (aa ci f9),V.sl n11 (aa aT f11),V.sl n13 (aa ae f13),V.sl n15 (aa bG f15)]]
def zT (cx:List Cx):Lp JJ:=fb (eL (I5 n0 f0 n2 f2 x4 n5 f5 n7 f7 n9 f9 n11 f11 n13 f13 n15 f15) [false,false,false,true,false,false])
def ZS:JJ->Lp JJ
 | (0,cx)=>zT n0 f0 n2 f2 x4 n5 f5 n7 f7 n9 f9 n11 f11 n13 f13 n15 f15 cx
 | (_,cx)=>zT n0 f0 n2 f2 x4 n5 f5 n7 f7 n9 f9 n11 f11 n13 f13 n15 f15 cx
def akB:LD JJ pE:=⟨abm,ZS n0 f0 n2 f2 x4 n5 f5 n7 f7 n9 f9 n11 f11 n13 f13 n15 f15,ybj n0 f0 n2 f2 x4 n5 f5 n7 f7 n9 f9 n11 f11 n13 f13 n15 f15⟩
end
section
variable (n0:Nat) (f0:ah) (n2:Nat) (f2:ah)
include n0 f0 n2 f2
def tm (x4:Int) (n5:Nat) (f5:ah) (n7:Nat) (f7:ah) (n9:Nat) (f9:ah) (n11:Nat) (f11:ah) (n13:Nat) (f13:ah) (n15:Nat) (f15:ah):pE->RT pE
 | .L0 ia0=>.br (decide (ia0 < (↑n11:Int))) (.obp (((0:Int)<=ia0/\ia0 < (↑n13:Int))/\((0:Int)<=ia0/\ia0 < (↑n15:Int))/\∀ (i:Nat),i < n2->(0:Int)<=ba (f2 i)/\ba (f2 i) < (↑n0:Int)) (.obt (.br (fh (aa al f0) n2 (aa am f2) (aa ae f13) (aa bG f15) ia0 != 0) (.ret (V.tup [vi 4,vi ia0,vi (fh (aa al f0) n2 (aa am f2) (aa ae f13) (aa bG f15) ia0)])) (.next [some (some 0)] (pE.L0 (i64.wrap (ia0+1))) [])))) (.ret (V.tup [vi 0,vi 0,vi 0]))
def II (x4:Int) (n5:Nat) (f5:ah) (n7:Nat) (f7:ah) (n9:Nat) (f9:ah) (n11:Nat) (f11:ah) (n13:Nat) (f13:ah) (n15:Nat) (f15:ah):RT pE:=.obp ((∀ (i:Nat),i < n0->(sv (hdV (f0 i))).size<=(9223372036854775807:Nat))/\∀ (i:Nat),i < n2->(sv (hdV (f2 i))).size<=(9223372036854775807:Nat)) (.obt (.br (b8 n0 (aa al f0) n2 (aa am f2) != 0) (.ret (V.tup [vi 1,vi 0,vi (b8 n0 (aa al f0) n2 (aa am f2))])) (.obp ((∀ (i:Nat),i < n5->(sv (hdV (f5 i))).size<=(9223372036854775807:Nat))/\∀ (i:Nat),i < n11->(sv (hdV (f11 i))).size<=(9223372036854775807:Nat)) (.obt (.br (mg n5 (aa bF f5) n7 (aa ce f7) n9 (aa ci f9) n11 (aa aT f11) != 0) (.ret (V.tup [vi 2,vi 0,vi (mg n5 (aa bF f5) n7 (aa ce f7) n9 (aa ci f9) n11 (aa aT f11))])) (.asm (true=true->n0<=9223372036854775807) (.obc (.obt (.br (!bz x4 (-1) (i64.wrap ((↑n0:Int) - 1))) (.ret (V.tup [vi 3,vi 0,vi 4])) (.obi (.obi (.obi (.obi (.obi (.obj (decide (0<=x4)) (decide (0<=x4/\x4 < (↑n0:Int))) (.obi (.br (decide (0<=x4)) (.ob (decide (0<=x4)) (.obc (.obt (.br (decide (10000 < nN (au (hdV (ab (ab (ab (f0 x4.toNat)))))) (fun i=>ao [Ty.sl ae] (bj (hdV (ab (ab (ab (f0 x4.toNat))))) i)) (cv (f0 x4.toNat)))) (.ret (V.tup [vi 3,vi 0,vi 7])) (.asm (true=true->n11<=9223372036854775807) (.asm (true=true->n13<=9223372036854775807) (.obi (.obi (.asm ((!(↑n13:Int) != (↑n11:Int))=true->n15<=9223372036854775807) (.obi (.obi (.obi (.br (bif (↑n13:Int) != (↑n11:Int) then true else (↑n15:Int) != (↑n11:Int)) (.ret (V.tup [vi 4,vi 0,vi 2])) (.enter [some (some 0)] (pE.L0 (0)) [])))))))))))))) (.asm (true=true->n11<=9223372036854775807) (.asm (true=true->n13<=9223372036854775807) (.obi (.obi (.asm ((!(↑n13:Int) != (↑n11:Int))=true->n15<=9223372036854775807) (.obi (.obi (.obi (.br (bif (↑n13:Int) != (↑n11:Int) then true else (↑n15:Int) != (↑n11:Int)) (.ret (V.tup [vi 4,vi 0,vi 2])) (.enter [some (some 0)] (pE.L0 (0)) [])))))))))))))))))))))))))))
theorem RI (x4:Int) (n5:Nat) (f5:ah) (n7:Nat) (f7:ah) (n9:Nat) (f9:ah) (n11:Nat) (f11:ah) (n13:Nat) (f13:ah) (n15:Nat) (f15:ah):dR wv u0 (akB n0 f0 n2 f2 x4 n5 f5 n7 f7 n9 f9 n11 f11 n13 f13 n15 f15) (I5 n0 f0 n2 f2 x4 n5 f5 n7 f7 n9 f9 n11 f11 n13 f13 n15 f15) (II n0 f0 n2 f2 x4 n5 f5 n7 f7 n9 f9 n11 f11 n13 f13 n15 f15) (tm n0 f0 n2 f2 x4 n5 f5 n7 f7 n9 f9 n11 f11 n13 f13 n15 f15):=⟨⟨by kernel_rfl,by kernel_rfl⟩,fun s=>by cases s <;> exact ⟨by kernel_rfl,by kernel_rfl⟩⟩
theorem DD (x4:Int) (n5:Nat) (f5:ah) (n7:Nat) (f7:ah) (n9:Nat) (f9:ah) (n11:Nat) (f11 f13 f15:ah) (hn:n11<=9223372036854775807) (hT:∀ i,i < n0->nr (f0 i)) (hL:∀ i:Nat,i < n2->0<=ba (f2 i)/\ba (f2 i) < n0):Ev (tm n0 f0 n2 f2 x4 n5 f5 n7 f7 n9 f9 n11 f11 n11 f13 n11 f15) (.L0 0) (HE (vU n11 (yak f0 n2 f2 f13 f15) 4 (0,0,0))):=by
 refine iy (n:=n11) hn (fun i=>yak f0 n2 f2 f13 f15 i != 0) (P:=fun i=>Ev (tm n0 f0 n2 f2 x4 n5 f5 n7 f7 n9 f9 n11 f11 n11 f13 n11 f15) (.L0 i) _) (fun i hlt hj next=>Ev.of rfl (ck hlt (aC ⟨⟨by omega,by omega⟩,⟨by omega,by omega⟩,hL⟩ (af ?_)))) (fun hj=>Ev.of rfl (cd (evRet (by rw [jO 4 _ hj]; rfl))))
 rw [show fh (aa al f0) n2 (aa am f2) (aa ae f13) (aa bG f15) i=yak f0 n2 f2 f13 f15 i from akt ..]
 exact evBr (fun h=>evRet (by rw [iQ 4 _ hlt h hj]; rfl)) (fun h=>aQ (next h))
theorem NT (x4:Int) (n5:Nat) (f5:ah) (n7:Nat) (f7:ah) (n9:Nat) (f9:ah) (n11:Nat) (f11:ah) (n13:Nat) (f13:ah) (n15:Nat) (f15:ah) (hp:aE n0 f0/\aE n2 f2/\aE n5 f5/\aE n11 f11):aN (Ev (tm n0 f0 n2 f2 x4 n5 f5 n7 f7 n9 f9 n11 f11 n13 f13 n15 f15)) (II n0 f0 n2 f2 x4 n5 f5 n7 f7 n9 f9 n11 f11 n13 f13 n15 f15) (.tup [.int .i64 (mX n0 f0 n2 f2 x4 n5 f5 n7 f7 n9 f9 n11 f11 n13 f13 n15 f15),.int .i64 (mY n0 f0 n2 f2 x4 n5 f5 n7 f7 n9 f9 n11 f11 n13 f13 n15 f15),.int .i64 (gq n0 f0 n2 f2 x4 n5 f5 n7 f7 n9 f9 n11 f11 n13 f13 n15 f15)]):=by
 obtain ⟨p0,p2,p5,p11⟩:=hp
 show aN _ _ (HE (Sq n0 f0 n2 f2 x4 n5 f5 n7 f7 n9 f9 n11 f11 n13 f13 n15 f15))
 unfold Sq
 refine aC ⟨p0,p2⟩ (af (evBr (fun h=>evRet (by rw [h]; rfl)) (fun h=>?_)))
 rw [h]
 have V2:=tT (n0:=n0) (f0:=aa al f0) (n2:=n2) (f2:=aa am f2) (uK h)
 have hT:∀ i,i < n0->nr (f0 i):=fun i hi=>nr.of_el (Bn (V2.tb i hi))
 have hL:∀ i:Nat,i < n2->0<=ba (f2 i)/\ba (f2 i) < n0:=fun i hi=>(OJ V2.l0 (V2.lm i hi)).t
 refine aC ⟨p5,p11⟩ (af (evBr (fun h'=>evRet (by rw [h']; rfl)) (fun h'=>?_)))
 rw [h']
 have V3:=P7 (n0:=n5) (f0:=aa bF f5) (n2:=n7) (f2:=aa ce f7) (n4:=n9) (f4:=aa ci f9) (n6:=n11) (f6:=aa aT f11) (uK h')
 refine bk fun hn0=>av (af (evBr (fun h1=>?_) (fun h1=>?_)))
 ·have hk:wM n0 f0 x4=4:=by
   unfold wM
   rw [show bz x4 (-1) (i64.wrap ((n0:Int) - 1))=false from Al h1]; rfl
  exact evRet (by rw [hk]; rfl)
 ·have h1:bz x4 (-1) (i64.wrap ((n0:Int) - 1))=true:=notf h1
  refine evObi (evObi (evObi (evObi (evObi (evObj (fun h2=>?_) (evObi (evBr (fun h2=>?_) (fun h2=>?_))))))))
  ·exact srf h1 h2 hn0
  ·have hx:=of_decide_eq_true (srf h1 h2 hn0)
   refine aM h2 (av (af (evBr (fun h3=>?_) (fun h3=>?_))))
   ·have hk:wM n0 f0 x4=7:=by
     unfold wM gr4
     rw [h1,h2]; exact congrArg (fun b=>bif b then (7:Int) else 0) h3
    exact evRet (by rw [hk]; rfl)
   have hk:wM n0 f0 x4=0:=by
    unfold wM gr4
    rw [h1,h2]; exact congrArg (fun b=>bif b then (7:Int) else 0) h3
   rw [hk]
   cases hl:Ar n11 n13 n15 with
   | true=>exact evAsm fun _=>evAsm fun _=>evObi (evObi (evAsm fun _=>evObi (evObi (evObi (xH hl (evRet rfl))))))
   | false =>
     obtain ⟨e1,e2⟩:=tk hl
     refine evAsm fun _=>evAsm fun _=>evObi (evObi (evAsm fun _=>evObi (evObi (evObi (yu hl (aH ?_))))))
     subst e1 e2
     exact DD _ _ _ _ _ _ _ _ _ _ _ _ _ _ _ (by have:=V3.l6; omega) hT hL
  ·have hk:wM n0 f0 x4=0:=by
    unfold wM
    rw [h1,h2]; rfl
   rw [hk]
   cases hl:Ar n11 n13 n15 with
   | true=>exact evAsm fun _=>evAsm fun _=>evObi (evObi (evAsm fun _=>evObi (evObi (evObi (xH hl (evRet rfl))))))
   | false =>
     obtain ⟨e1,e2⟩:=tk hl
     refine evAsm fun _=>evAsm fun _=>evObi (evObi (evAsm fun _=>evObi (evObi (evObi (yu hl (aH ?_))))))
     subst e1 e2
     exact DD _ _ _ _ _ _ _ _ _ _ _ _ _ _ _ (by have:=V3.l6; omega) hT hL
theorem ab3 (x4:Int) (n5:Nat) (f5:ah) (n7:Nat) (f7:ah) (n9:Nat) (f9:ah) (n11:Nat) (f11:ah) (n13:Nat) (f13:ah) (n15:Nat) (f15:ah) (hp:aE n0 (aa al f0)/\aE n2 (aa am f2)/\aE n5 (aa bF f5)/\aE n11 (aa aT f11)):aN (Ev (tm n0 f0 n2 f2 x4 n5 f5 n7 f7 n9 f9 n11 f11 n13 f13 n15 f15)) (II n0 f0 n2 f2 x4 n5 f5 n7 f7 n9 f9 n11 f11 n13 f13 n15 f15) (.tup [.int .i64 (mX n0 (aa al f0) n2 (aa am f2) x4 n5 (aa bF f5) n7 (aa ce f7) n9 (aa ci f9) n11 (aa aT f11) n13 (aa ae f13) n15 (aa bG f15)),.int .i64 (mY n0 (aa al f0) n2 (aa am f2) x4 n5 (aa bF f5) n7 (aa ce f7) n9 (aa ci f9) n11 (aa aT f11) n13 (aa ae f13) n15 (aa bG f15)),.int .i64 (gq n0 (aa al f0) n2 (aa am f2) x4 n5 (aa bF f5) n7 (aa ce f7) n9 (aa ci f9) n11 (aa aT f11) n13 (aa ae f13) n15 (aa bG f15))]):=NT n0 f0 n2 f2 x4 n5 f5 n7 f7 n9 f9 n11 f11 n13 f13 n15 f15 hp
end
def MN:aB:=bI [.agg [.sl al,.sl am,tI,.sl bF,.sl ce,.sl ci,.sl aT,.sl ae,.sl bG]] (fun
 | [.agg [.sl n0 f0,.sl n2 f2,.int _ x4,.sl n5 f5,.sl n7 f7,.sl n9 f9,.sl n11 f11,.sl n13 f13,.sl n15 f15]]=>aE n0 f0/\aE n2 f2/\aE n5 f5/\aE n11 f11
 | _=>False) fun
 | [.agg [.sl n0 f0,.sl n2 f2,.int _ x4,.sl n5 f5,.sl n7 f7,.sl n9 f9,.sl n11 f11,.sl n13 f13,.sl n15 f15]]=>.tup [.int .i64 (mX n0 f0 n2 f2 x4 n5 f5 n7 f7 n9 f9 n11 f11 n13 f13 n15 f15),.int .i64 (mY n0 f0 n2 f2 x4 n5 f5 n7 f7 n9 f9 n11 f11 n13 f13 n15 f15),.int .i64 (gq n0 f0 n2 f2 x4 n5 f5 n7 f7 n9 f9 n11 f11 n13 f13 n15 f15)]
 | _=>.any
theorem NX:(vP MN).Ok Tryz.prog 23:=bY A7 Tryz.func23 (by kernel_rfl) fun ds hp=>jE (RI ..) (ab3 _ _ _ _ _ _ _ _ _ _ _ _ _ _ _ _ _ hp)
inductive nR where
 | L0 (ia0:Int)
def Tw (n0:Nat) (f0:ah) (n2:Nat) (f2:ah) (x4:Int) (n5:Nat) (f5:ah) (n7:Nat) (f7:ah) (n9:Nat) (f9:ah) (n11:Nat) (f11:ah) (n13:Nat) (f13:ah) (n15:Nat) (f15:ah):nR->bp × List O × Option Ex
 | .L0 ia0=>([(82,vi ia0),(81,vi (↑n13:Int)),(80,V.sl n13 (aa ae f13)),(1,V.pl 0 0)],[O.cells [V.sl n0 (aa al f0),V.sl n2 (aa am f2),vi x4,V.sl n5 (aa bF f5),V.sl n7 (aa ce f7),V.sl n9 (aa ci f9),V.sl n11 (aa aT f11),V.sl n13 (aa ae f13),V.sl n15 (aa bG f15)] 35],none)
def ae6:nR->JJ
 | .L0 ia0=>(0,[])
section
variable (n0:Nat) (f0:ah) (n2:Nat) (f2:ah) (x4:Int) (n5:Nat) (f5:ah) (n7:Nat) (f7:ah) (n9:Nat) (f9:ah) (n11:Nat) (f11:ah) (n13:Nat) (f13:ah) (n15:Nat) (f15:ah)
include n0 f0 n2 f2 x4 n5 f5 n7 f7 n9 f9 n11 f11 n13 f13 n15 f15
def KQ:T (bN JJ):=aS JJ wv u0 agq [V.agg [V.sl n0 (aa al f0),V.sl n2 (aa am f2),vi x4,V.sl n5 (aa bF f5),V.sl n7 (aa ce f7),V.sl n9 (aa ci f9),V.sl n11 (aa aT f11),V.sl n13 (aa ae f13),V.sl n15 (aa bG f15)]]
def zX (cx:List Cx):Lp JJ:=fb (eL (KQ n0 f0 n2 f2 x4 n5 f5 n7 f7 n9 f9 n11 f11 n13 f13 n15 f15) [false,false,false,true,false,false])
def ZO:JJ->Lp JJ
 | (0,cx)=>zX n0 f0 n2 f2 x4 n5 f5 n7 f7 n9 f9 n11 f11 n13 f13 n15 f15 cx
 | (_,cx)=>zX n0 f0 n2 f2 x4 n5 f5 n7 f7 n9 f9 n11 f11 n13 f13 n15 f15 cx
def ajN:LD JJ nR:=⟨ae6,ZO n0 f0 n2 f2 x4 n5 f5 n7 f7 n9 f9 n11 f11 n13 f13 n15 f15,Tw n0 f0 n2 f2 x4 n5 f5 n7 f7 n9 f9 n11 f11 n13 f13 n15 f15⟩
end
section
variable (n0:Nat) (f0:ah) (n2:Nat) (f2:ah)
include n0 f0 n2 f2
def tU (x4:Int) (n5:Nat) (f5:ah) (n7:Nat) (f7:ah) (n9:Nat) (f9:ah) (n11:Nat) (f11:ah) (n13:Nat) (f13:ah) (n15:Nat) (f15:ah):nR->RT nR
 | .L0 ia0=>.br (decide (ia0 < (↑n13:Int))) (.ob (decide (0<=ia0/\ia0 < (↑n13:Int))) (.ob (decide (0<=ia0/\ia0 < (↑n15:Int))) (.asm (true=true->n2<=9223372036854775807) (.obc (.obt (.br (!d9 (ay (f13 ia0.toNat)) (-1) (i64.wrap ((↑n2:Int) - 1))) (.ret (V.tup [vi 4,vi ia0,vi 4])) (.obc (.obt (.obi (.br (!!d9 (ay (f15 ia0.toNat)) 0 200000) (.ob (!!d9 (ay (f15 ia0.toNat)) 0 200000) (.obc (.obt (.obi (.br (!!d9 (ba (f15 ia0.toNat)) 0 600) (.ob (!!d9 (ba (f15 ia0.toNat)) 0 600) (.obc (.obt (.br (!d9 (cQ (f15 ia0.toNat)) 0 1000) (.ret (V.tup [vi 4,vi ia0,vi 7])) (.br (decide (ay (f13 ia0.toNat) < 0)) (.next [some (some 0)] (nR.L0 (i64.wrap (ia0+1))) []) (.ob (decide (0<=ay (f13 ia0.toNat)/\ay (f13 ia0.toNat) < (↑n2:Int))) (.ob (decide (0<=ba (f2 (ay (f13 ia0.toNat)).toNat)/\ba (f2 (ay (f13 ia0.toNat)).toNat) < (↑n0:Int))) (.obp (∀ (i:Nat),i < au (hdV (ab (ab (ab (f0 (ba (f2 (ay (f13 ia0.toNat)).toNat)).toNat)))))->(1:Nat)<=au (hdV (bj (hdV (ab (ab (ab (f0 (ba (f2 (ay (f13 ia0.toNat)).toNat)).toNat))))) i))) (.obt (.br (decide (100000000000 < i64.wrap (max (oU (au (hdV (ab (ab (ab (f0 (ba (f2 (ay (f13 ia0.toNat)).toNat)).toNat)))))) (fun i=>ao [Ty.sl ae] (bj (hdV (ab (ab (ab (f0 (ba (f2 (ay (f13 ia0.toNat)).toNat)).toNat))))) i)) (cv (f0 (ba (f2 (ay (f13 ia0.toNat)).toNat)).toNat))) (be (f0 (ba (f2 (ay (f13 ia0.toNat)).toNat)).toNat)) * cM (f2 (ay (f13 ia0.toNat)).toNat)))) (.ret (V.tup [vi 4,vi ia0,vi 7])) (.next [some (some 0)] (nR.L0 (i64.wrap (ia0+1))) []))))))))))) (.ret (V.tup [vi 4,vi ia0,vi 7]))))))) (.ret (V.tup [vi 4,vi ia0,vi 7])))))))))))) (.ret (V.tup [vi 0,vi 0,vi 0]))
def Iv (x4:Int) (n5:Nat) (f5:ah) (n7:Nat) (f7:ah) (n9:Nat) (f9:ah) (n11:Nat) (f11:ah) (n13:Nat) (f13:ah) (n15:Nat) (f15:ah):RT nR:=.obp ((∀ (i:Nat),i < n0->(sv (hdV (f0 i))).size<=(9223372036854775807:Nat))/\∀ (i:Nat),i < n2->(sv (hdV (f2 i))).size<=(9223372036854775807:Nat)) (.obt (.br (bC n0 (aa al f0) n2 (aa am f2) != 0) (.ret (V.tup [vi 1,vi 0,vi (bC n0 (aa al f0) n2 (aa am f2))])) (.obp ((∀ (i:Nat),i < n5->(sv (hdV (f5 i))).size<=(9223372036854775807:Nat))/\∀ (i:Nat),i < n11->(sv (hdV (f11 i))).size<=(9223372036854775807:Nat)) (.obt (.br (kp n5 (aa bF f5) n7 (aa ce f7) n9 (aa ci f9) n11 (aa aT f11) != 0) (.ret (V.tup [vi 2,vi 0,vi (kp n5 (aa bF f5) n7 (aa ce f7) n9 (aa ci f9) n11 (aa aT f11))])) (.asm (true=true->n11<=9223372036854775807) (.asm (true=true->n0<=9223372036854775807) (.obc (.obt (.br (!d9 x4 (-1) (i64.wrap ((↑n0:Int) - 1))) (.ret (V.tup [vi 3,vi 0,vi 4])) (.obi (.obi (.obi (.obi (.obi (.obj (decide (0<=x4)) (decide (0<=x4/\x4 < (↑n0:Int))) (.obi (.br (decide (0<=x4)) (.ob (decide (0<=x4)) (.obp (∀ (i:Nat),i < au (hdV (ab (ab (ab (f0 x4.toNat)))))->(1:Nat)<=au (hdV (bj (hdV (ab (ab (ab (f0 x4.toNat))))) i))) (.obt (.br (decide (10000 < oU (au (hdV (ab (ab (ab (f0 x4.toNat)))))) (fun i=>ao [Ty.sl ae] (bj (hdV (ab (ab (ab (f0 x4.toNat))))) i)) (cv (f0 x4.toNat)))) (.ret (V.tup [vi 3,vi 0,vi 7])) (.asm (true=true->n13<=9223372036854775807) (.obi (.obi (.asm ((!(↑n13:Int) != (↑n11:Int))=true->n15<=9223372036854775807) (.obi (.obi (.obi (.br (bif (↑n13:Int) != (↑n11:Int) then true else (↑n15:Int) != (↑n11:Int)) (.ret (V.tup [vi 4,vi 0,vi 2])) (.asm (true=true->n13<=9223372036854775807) (.enter [some (some 0)] (nR.L0 (0)) [])))))))))))))) (.asm (true=true->n13<=9223372036854775807) (.obi (.obi (.asm ((!(↑n13:Int) != (↑n11:Int))=true->n15<=9223372036854775807) (.obi (.obi (.obi (.br (bif (↑n13:Int) != (↑n11:Int) then true else (↑n15:Int) != (↑n11:Int)) (.ret (V.tup [vi 4,vi 0,vi 2])) (.asm (true=true->n13<=9223372036854775807) (.enter [some (some 0)] (nR.L0 (0)) []))))))))))))))))))))))))))))
theorem SN (x4:Int) (n5:Nat) (f5:ah) (n7:Nat) (f7:ah) (n9:Nat) (f9:ah) (n11:Nat) (f11:ah) (n13:Nat) (f13:ah) (n15:Nat) (f15:ah):dR wv u0 (ajN n0 f0 n2 f2 x4 n5 f5 n7 f7 n9 f9 n11 f11 n13 f13 n15 f15) (KQ n0 f0 n2 f2 x4 n5 f5 n7 f7 n9 f9 n11 f11 n13 f13 n15 f15) (Iv n0 f0 n2 f2 x4 n5 f5 n7 f7 n9 f9 n11 f11 n13 f13 n15 f15) (tU n0 f0 n2 f2 x4 n5 f5 n7 f7 n9 f9 n11 f11 n13 f13 n15 f15):=⟨⟨by kernel_rfl,by kernel_rfl⟩,fun s=>by cases s <;> exact ⟨by kernel_rfl,by kernel_rfl⟩⟩
theorem Fu (x4:Int) (n5:Nat) (f5:ah) (n7:Nat) (f7:ah) (n9:Nat) (f9:ah) (n11:Nat) (f11 f13 f15:ah) (hn:n11<=9223372036854775807) (hT:∀ i,i < n0->nr (f0 i)) (hL:∀ i:Nat,i < n2->0<=ba (f2 i)/\ba (f2 i) < n0):Ev (tU n0 f0 n2 f2 x4 n5 f5 n7 f7 n9 f9 n11 f11 n11 f13 n11 f15) (.L0 0) (HE (vU n11 (yak f0 n2 f2 f13 f15) 4 (0,0,0))):=by
 refine iy (n:=n11) hn (fun i=>yak f0 n2 f2 f13 f15 i != 0) (P:=fun i=>Ev (tU n0 f0 n2 f2 x4 n5 f5 n7 f7 n9 f9 n11 f11 n11 f13 n11 f15) (.L0 i) _) (fun i hlt hj next=>Ev.of rfl (ck hlt (bZ hlt (bZ hlt (bk fun hn2=>av (af ?_)))))) (fun hj=>Ev.of rfl (cd (evRet (by rw [jO 4 _ hj]; rfl))))
 have L:∀ e,e ≠ 0->yak f0 n2 f2 f13 f15 i=e->cn (V.tup [V.int .i64 4,V.int .i64 i,V.int .i64 e])=cn (HE (vU n11 (yak f0 n2 f2 f13 f15) 4 (0,0,0))):=fun e he hc=>by
  rw [iQ 4 _ hlt (by rw [hc]; exact aj2 he) hj,hc]; rfl
 have N:yak f0 n2 f2 f13 f15 i=0->(yak f0 n2 f2 f13 f15 i != 0)=false:=fun h=>by rw [h]; rfl
 refine evBr (fun h0=>evRet (L 4 (by decide) (agA (Al h0)))) (fun h0=>av (af (evObi (evBr (fun h1=>aM h1 (av (af (evObi ?_)))) (fun h1=>evRet (L 7 (by decide) (ajm (notf h0) (ai1 h1))))))))
 refine evBr (fun h2=>aM h2 (av (af ?_))) (fun h2=>evRet (L 7 (by decide) (ajq (notf h0) (xw h1) (ai1 h2))))
 refine evBr (fun h3=>evRet (L 7 (by decide) (afx (notf h0) (xw h1) (xw h2) (Al h3)))) (fun h3=>?_)
 refine evBr (fun h4=>aQ (next (N (aiv (notf h0) (xw h1) (xw h2) (notf h3) (jx (fun hh:0<=ay (f13 (i:Int).toNat)=>by have:=of_decide_eq_true h4; omega)))))) (fun h4=>?_)
 have h5:decide (0<=ay (f13 (i:Int).toNat))=true:=dqt (by have:=of_decide_eq_false h4; omega)
 have hv:=srf (notf h0) h5 hn2
 have hv':=of_decide_eq_true hv
 have ht:=hL (ay (f13 (i:Int).toNat)).toNat (by omega)
 have hr:=hT (ba (f2 (ay (f13 (i:Int).toNat)).toNat)).toNat (by omega)
 refine aM hv (aM (dqt ht) (aC (wV hr) (af ?_)))
 have hb:∀ b,decide (100000000000 < i64.wrap (max (oU (HG (f0 (ba (f2 (ay (f13 (i:Int).toNat)).toNat)).toNat)) (aa [.sl ae] (va (f0 (ba (f2 (ay (f13 (i:Int).toNat)).toNat)).toNat))) (cv (f0 (ba (f2 (ay (f13 (i:Int).toNat)).toNat)).toNat))) (be (f0 (ba (f2 (ay (f13 (i:Int).toNat)).toNat)).toNat)) * cM (f2 (ay (f13 (i:Int).toNat)).toNat)))=b->aap f0 (f2 (ay (f13 i)).toNat)=b:=fun b h=>by
  rw [xS (wQ hr)] at h; exact h
 exact evBr (fun h6=>evRet (L 7 (by decide) (ajH (notf h0) (xw h1) (xw h2) (notf h3) h5 (hb true h6)))) (fun h6=>aQ (next (N (ahg (notf h0) (xw h1) (xw h2) (notf h3) h5 (hb false h6)))))
theorem N6 (x4:Int) (n5:Nat) (f5:ah) (n7:Nat) (f7:ah) (n9:Nat) (f9:ah) (n11:Nat) (f11:ah) (n13:Nat) (f13:ah) (n15:Nat) (f15:ah) (hp:aE n0 f0/\aE n2 f2/\aE n5 f5/\aE n11 f11):aN (Ev (tU n0 f0 n2 f2 x4 n5 f5 n7 f7 n9 f9 n11 f11 n13 f13 n15 f15)) (Iv n0 f0 n2 f2 x4 n5 f5 n7 f7 n9 f9 n11 f11 n13 f13 n15 f15) (.tup [.int .i64 (mX n0 f0 n2 f2 x4 n5 f5 n7 f7 n9 f9 n11 f11 n13 f13 n15 f15),.int .i64 (mY n0 f0 n2 f2 x4 n5 f5 n7 f7 n9 f9 n11 f11 n13 f13 n15 f15),.int .i64 (gq n0 f0 n2 f2 x4 n5 f5 n7 f7 n9 f9 n11 f11 n13 f13 n15 f15)]):=by
 obtain ⟨p0,p2,p5,p11⟩:=hp
 show aN _ _ (HE (Sq n0 f0 n2 f2 x4 n5 f5 n7 f7 n9 f9 n11 f11 n13 f13 n15 f15))
 unfold Sq
 rw [← show bC n0 (aa al f0) n2 (aa am f2)=b8 n0 (aa al f0) n2 (aa am f2) from congrArg (fun t=>t.2.2) (m4 ..),← Nv]
 refine aC ⟨p0,p2⟩ (af (evBr (fun h=>evRet (by rw [h]; rfl)) (fun h=>?_)))
 rw [h]
 have V2:=tT (n0:=n0) (f0:=aa al f0) (n2:=n2) (f2:=aa am f2) ((congrArg (fun t=>t.2.2) (m4 ..)).symm.trans (uK h))
 have hT:∀ i,i < n0->nr (f0 i):=fun i hi=>nr.of_el (Bn (V2.tb i hi))
 have hL:∀ i:Nat,i < n2->0<=ba (f2 i)/\ba (f2 i) < n0:=fun i hi=>(OJ V2.l0 (V2.lm i hi)).t
 refine aC ⟨p5,p11⟩ (af (evBr (fun h'=>evRet (by rw [h']; rfl)) (fun h'=>?_)))
 rw [h']
 have V3:=P7 (n0:=n5) (f0:=aa bF f5) (n2:=n7) (f2:=aa ce f7) (n4:=n9) (f4:=aa ci f9) (n6:=n11) (f6:=aa aT f11) (Nv.symm.trans (uK h'))
 refine evAsm fun _=>?_
 refine bk fun hn0=>av (af (evBr (fun h1=>?_) (fun h1=>?_)))
 ·have hk:wM n0 f0 x4=4:=by
   unfold wM
   rw [show bz x4 (-1) (i64.wrap ((n0:Int) - 1))=false from Al h1]; rfl
  exact evRet (by rw [hk]; rfl)
 ·have h1:bz x4 (-1) (i64.wrap ((n0:Int) - 1))=true:=notf h1
  refine evObi (evObi (evObi (evObi (evObi (evObj (fun h2=>?_) (evObi (evBr (fun h2=>?_) (fun h2=>?_))))))))
  ·exact srf h1 h2 hn0
  ·have hx:=of_decide_eq_true (srf h1 h2 hn0)
   refine aM h2 (aC (wV (hT _ (by omega))) (af (evBr (fun h3=>?_) (fun h3=>?_))))
   ·have hk:wM n0 f0 x4=7:=by
     unfold wM gr4
     rw [h1,h2,← xS (wQ (hT x4.toNat (by omega)))]; exact congrArg (fun b=>bif b then (7:Int) else 0) h3
    exact evRet (by rw [hk]; rfl)
   have hk:wM n0 f0 x4=0:=by
    unfold wM gr4
    rw [h1,h2,← xS (wQ (hT x4.toNat (by omega)))]; exact congrArg (fun b=>bif b then (7:Int) else 0) h3
   rw [hk]
   cases hl:Ar n11 n13 n15 with
   | true=>exact evAsm fun _=>evObi (evObi (evAsm fun _=>evObi (evObi (evObi (xH hl (evRet rfl))))))
   | false =>
     obtain ⟨e1,e2⟩:=tk hl
     refine evAsm fun _=>evObi (evObi (evAsm fun _=>evObi (evObi (evObi (yu hl (evAsm fun _=>aH ?_))))))
     subst e1 e2
     exact Fu _ _ _ _ _ _ _ _ _ _ _ _ _ _ _ (by have:=V3.l6; omega) hT hL
  ·have hk:wM n0 f0 x4=0:=by
    unfold wM
    rw [h1,h2]; rfl
   rw [hk]
   cases hl:Ar n11 n13 n15 with
   | true=>exact evAsm fun _=>evObi (evObi (evAsm fun _=>evObi (evObi (evObi (xH hl (evRet rfl))))))
   | false =>
     obtain ⟨e1,e2⟩:=tk hl
     refine evAsm fun _=>evObi (evObi (evAsm fun _=>evObi (evObi (evObi (yu hl (evAsm fun _=>aH ?_))))))
     subst e1 e2
     exact Fu _ _ _ _ _ _ _ _ _ _ _ _ _ _ _ (by have:=V3.l6; omega) hT hL
theorem aeD (x4:Int) (n5:Nat) (f5:ah) (n7:Nat) (f7:ah) (n9:Nat) (f9:ah) (n11:Nat) (f11:ah) (n13:Nat) (f13:ah) (n15:Nat) (f15:ah) (hp:aE n0 (aa al f0)/\aE n2 (aa am f2)/\aE n5 (aa bF f5)/\aE n11 (aa aT f11)):aN (Ev (tU n0 f0 n2 f2 x4 n5 f5 n7 f7 n9 f9 n11 f11 n13 f13 n15 f15)) (Iv n0 f0 n2 f2 x4 n5 f5 n7 f7 n9 f9 n11 f11 n13 f13 n15 f15) (.tup [.int .i64 (mX n0 (aa al f0) n2 (aa am f2) x4 n5 (aa bF f5) n7 (aa ce f7) n9 (aa ci f9) n11 (aa aT f11) n13 (aa ae f13) n15 (aa bG f15)),.int .i64 (mY n0 (aa al f0) n2 (aa am f2) x4 n5 (aa bF f5) n7 (aa ce f7) n9 (aa ci f9) n11 (aa aT f11) n13 (aa ae f13) n15 (aa bG f15)),.int .i64 (gq n0 (aa al f0) n2 (aa am f2) x4 n5 (aa bF f5) n7 (aa ce f7) n9 (aa ci f9) n11 (aa aT f11) n13 (aa ae f13) n15 (aa bG f15))]):=N6 n0 f0 n2 f2 x4 n5 f5 n7 f7 n9 f9 n11 f11 n13 f13 n15 f15 hp
end
def NN:aB:=bI [.agg [.sl al,.sl am,tI,.sl bF,.sl ce,.sl ci,.sl aT,.sl ae,.sl bG]] (fun
 | [.agg [.sl n0 f0,.sl n2 f2,.int _ x4,.sl n5 f5,.sl n7 f7,.sl n9 f9,.sl n11 f11,.sl n13 f13,.sl n15 f15]]=>aE n0 f0/\aE n2 f2/\aE n5 f5/\aE n11 f11
 | _=>False) fun
 | [.agg [.sl n0 f0,.sl n2 f2,.int _ x4,.sl n5 f5,.sl n7 f7,.sl n9 f9,.sl n11 f11,.sl n13 f13,.sl n15 f15]]=>.tup [.int .i64 (mX n0 f0 n2 f2 x4 n5 f5 n7 f7 n9 f9 n11 f11 n13 f13 n15 f15),.int .i64 (mY n0 f0 n2 f2 x4 n5 f5 n7 f7 n9 f9 n11 f11 n13 f13 n15 f15),.int .i64 (gq n0 f0 n2 f2 x4 n5 f5 n7 f7 n9 f9 n11 f11 n13 f13 n15 f15)]
 | _=>.any
theorem yas:(vP NN).Ok Tryz.prog 22:=bY A7 Tryz.func22 (by kernel_rfl) fun ds hp=>jE (SN ..) (aeD _ _ _ _ _ _ _ _ _ _ _ _ _ _ _ _ _ hp)
def Fp:bd:=(23,.con MN)::(22,.con NN)::wv
theorem B2:aR Tryz.prog eqs its Fp:=.con NX (.con yas (A7))
section
variable (n0:Nat) (f0:ah) (n2:Nat) (f2:ah) (x4:Int) (n5:Nat) (f5:ah) (n7:Nat) (f7:ah) (n9:Nat) (f9:ah) (n11:Nat) (f11:ah) (n13:Nat) (f13:ah) (n15:Nat) (f15:ah)
include n0 f0 n2 f2 x4 n5 f5 n7 f7 n9 f9 n11 f11 n13 f13 n15 f15
def kE:Int:=gq n0 (aa al f0) n2 (aa am f2) x4 n5 (aa bF f5) n7 (aa ce f7) n9 (aa ci f9) n11 (aa aT f11) n13 (aa ae f13) n15 (aa bG f15)
def Qh:RT Empty:=.obp ((∀ (i:Nat),i < n0->(sv (hdV (f0 i))).size<=(9223372036854775807:Nat))/\(∀ (i:Nat),i < n2->(sv (hdV (f2 i))).size<=(9223372036854775807:Nat))/\(∀ (i:Nat),i < n5->(sv (hdV (f5 i))).size<=(9223372036854775807:Nat))/\∀ (i:Nat),i < n11->(sv (hdV (f11 i))).size<=(9223372036854775807:Nat)) (.obt (.ret (vi (gq n0 (aa al f0) n2 (aa am f2) x4 n5 (aa bF f5) n7 (aa ce f7) n9 (aa ci f9) n11 (aa aT f11) n13 (aa ae f13) n15 (aa bG f15)))))
theorem RE:dh dm (aS JJ Fp u0 YO [V.agg [V.sl n0 (aa al f0),V.sl n2 (aa am f2),vi x4,V.sl n5 (aa bF f5),V.sl n7 (aa ce f7),V.sl n9 (aa ci f9),V.sl n11 (aa aT f11),V.sl n13 (aa ae f13),V.sl n15 (aa bG f15)]]) (Qh n0 f0 n2 f2 x4 n5 f5 n7 f7 n9 f9 n11 f11 n13 f13 n15 f15):=⟨by kernel_rfl,by kernel_rfl⟩
def ald:Int:=gq n0 (aa al f0) n2 (aa am f2) x4 n5 (aa bF f5) n7 (aa ce f7) n9 (aa ci f9) n11 (aa aT f11) n13 (aa ae f13) n15 (aa bG f15)
theorem M6 (hp:aE n0 f0/\aE n2 f2/\aE n5 f5/\aE n11 f11):aN cr (Qh n0 f0 n2 f2 x4 n5 f5 n7 f7 n9 f9 n11 f11 n13 f13 n15 f15) (.int .i64 (kE n0 f0 n2 f2 x4 n5 f5 n7 f7 n9 f9 n11 f11 n13 f13 n15 f15)):=aC hp (af (evRet rfl))
theorem acT (hp:aE n0 (aa al f0)/\aE n2 (aa am f2)/\aE n5 (aa bF f5)/\aE n11 (aa aT f11)):aN cr (Qh n0 f0 n2 f2 x4 n5 f5 n7 f7 n9 f9 n11 f11 n13 f13 n15 f15) (.int .i64 (kE n0 (aa al f0) n2 (aa am f2) x4 n5 (aa bF f5) n7 (aa ce f7) n9 (aa ci f9) n11 (aa aT f11) n13 (aa ae f13) n15 (aa bG f15))):=M6 n0 f0 n2 f2 x4 n5 f5 n7 f7 n9 f9 n11 f11 n13 f13 n15 f15 hp
end
def KN:aB:=bI [.agg [.sl al,.sl am,tI,.sl bF,.sl ce,.sl ci,.sl aT,.sl ae,.sl bG]] (fun
 | [.agg [.sl n0 f0,.sl n2 f2,.int _ x4,.sl n5 f5,.sl n7 f7,.sl n9 f9,.sl n11 f11,.sl n13 f13,.sl n15 f15]]=>aE n0 f0/\aE n2 f2/\aE n5 f5/\aE n11 f11
 | _=>False) fun
 | [.agg [.sl n0 f0,.sl n2 f2,.int _ x4,.sl n5 f5,.sl n7 f7,.sl n9 f9,.sl n11 f11,.sl n13 f13,.sl n15 f15]]=>.int .i64 (kE n0 f0 n2 f2 x4 n5 f5 n7 f7 n9 f9 n11 f11 n13 f13 n15 f15)
 | _=>.any
theorem Qz:(vP KN).Ok Tryz.prog 46:=bY B2 Tryz.func46 (by kernel_rfl) fun ds hp=>dG (RE ..) (acT _ _ _ _ _ _ _ _ _ _ _ _ _ _ _ _ _ hp)
section
variable (n0:Nat) (f0:ah) (n2:Nat) (f2:ah) (x4:Int) (n5:Nat) (f5:ah) (n7:Nat) (f7:ah) (n9:Nat) (f9:ah) (n11:Nat) (f11:ah) (n13:Nat) (f13:ah) (n15:Nat) (f15:ah)
include n0 f0 n2 f2 x4 n5 f5 n7 f7 n9 f9 n11 f11 n13 f13 n15 f15
def Lh:RT Empty:=.obp ((∀ (i:Nat),i < n0->(sv (hdV (f0 i))).size<=(9223372036854775807:Nat))/\(∀ (i:Nat),i < n2->(sv (hdV (f2 i))).size<=(9223372036854775807:Nat))/\(∀ (i:Nat),i < n5->(sv (hdV (f5 i))).size<=(9223372036854775807:Nat))/\∀ (i:Nat),i < n11->(sv (hdV (f11 i))).size<=(9223372036854775807:Nat)) (.obt (.ret (vi (gq n0 (aa al f0) n2 (aa am f2) x4 n5 (aa bF f5) n7 (aa ce f7) n9 (aa ci f9) n11 (aa aT f11) n13 (aa ae f13) n15 (aa bG f15)))))
theorem Sj:dh dm (aS JJ Fp u0 aj1 [V.agg [V.sl n0 (aa al f0),V.sl n2 (aa am f2),vi x4,V.sl n5 (aa bF f5),V.sl n7 (aa ce f7),V.sl n9 (aa ci f9),V.sl n11 (aa aT f11),V.sl n13 (aa ae f13),V.sl n15 (aa bG f15)]]) (Lh n0 f0 n2 f2 x4 n5 f5 n7 f7 n9 f9 n11 f11 n13 f13 n15 f15):=⟨by kernel_rfl,by kernel_rfl⟩
def ak3:Int:=gq n0 (aa al f0) n2 (aa am f2) x4 n5 (aa bF f5) n7 (aa ce f7) n9 (aa ci f9) n11 (aa aT f11) n13 (aa ae f13) n15 (aa bG f15)
theorem MD (hp:aE n0 f0/\aE n2 f2/\aE n5 f5/\aE n11 f11):aN cr (Lh n0 f0 n2 f2 x4 n5 f5 n7 f7 n9 f9 n11 f11 n13 f13 n15 f15) (.int .i64 (kE n0 f0 n2 f2 x4 n5 f5 n7 f7 n9 f9 n11 f11 n13 f13 n15 f15)):=aC hp (af (evRet rfl))
theorem afg (hp:aE n0 (aa al f0)/\aE n2 (aa am f2)/\aE n5 (aa bF f5)/\aE n11 (aa aT f11)):aN cr (Lh n0 f0 n2 f2 x4 n5 f5 n7 f7 n9 f9 n11 f11 n13 f13 n15 f15) (.int .i64 (kE n0 (aa al f0) n2 (aa am f2) x4 n5 (aa bF f5) n7 (aa ce f7) n9 (aa ci f9) n11 (aa aT f11) n13 (aa ae f13) n15 (aa bG f15))):=MD n0 f0 n2 f2 x4 n5 f5 n7 f7 n9 f9 n11 f11 n13 f13 n15 f15 hp
end
def M8:aB:=bI [.agg [.sl al,.sl am,tI,.sl bF,.sl ce,.sl ci,.sl aT,.sl ae,.sl bG]] (fun
 | [.agg [.sl n0 f0,.sl n2 f2,.int _ x4,.sl n5 f5,.sl n7 f7,.sl n9 f9,.sl n11 f11,.sl n13 f13,.sl n15 f15]]=>aE n0 f0/\aE n2 f2/\aE n5 f5/\aE n11 f11
 | _=>False) fun
 | [.agg [.sl n0 f0,.sl n2 f2,.int _ x4,.sl n5 f5,.sl n7 f7,.sl n9 f9,.sl n11 f11,.sl n13 f13,.sl n15 f15]]=>.int .i64 (kE n0 f0 n2 f2 x4 n5 f5 n7 f7 n9 f9 n11 f11 n13 f13 n15 f15)
 | _=>.any
theorem IB:(vP M8).Ok Tryz.prog 69:=bY B2 Tryz.func69 (by kernel_rfl) fun ds hp=>dG (Sj ..) (afg _ _ _ _ _ _ _ _ _ _ _ _ _ _ _ _ _ hp)
def De:bd:=(46,.con KN)::(69,.con M8)::Fp
theorem Bv:aR Tryz.prog eqs its De:=.con Qz (.con IB (B2))
def Zc (s0:ByteArray) (x1 x2 x3 x4 x5 x6 x7 x8 x9:Int):RT Empty:=.obp ((b7 (i64.wrap ((1000000:Int) * i64.wrap (i64.wrap (x4 * x4)+i64.wrap (x5 * x5))))=(0:Int)->False)/\(cw (i64.wrap ((1000000:Int) * i64.wrap (i64.wrap (x4 * x4)+i64.wrap (x5 * x5))))=(0:Int)->False)) (.obt (.ret (V.agg [vi (gN (i64.wrap (x6 - x1)) (i64.wrap (x8 - x1)) (i64.wrap (x7 - x2)) (i64.wrap (x9 - x2)) x4 x5),vi (gU (i64.wrap (x6 - x1)) (i64.wrap (x8 - x1)) (i64.wrap (x7 - x2)) (i64.wrap (x9 - x2)) x4 x5),vi (gO (i64.wrap (x6 - x1)) (i64.wrap (x8 - x1)) (i64.wrap (x7 - x2)) (i64.wrap (x9 - x2)) x4 x5),vi (gQ (i64.wrap (x6 - x1)) (i64.wrap (x8 - x1)) (i64.wrap (x7 - x2)) (i64.wrap (x9 - x2)) x4 x5)])))
theorem Wg (s0:ByteArray) (x1 x2 x3 x4 x5 x6 x7 x8 x9:Int):dh dm (aS JJ De u0 agd [V.agg [V.str s0,vi x1,vi x2,vi x3,vi x4,vi x5],V.agg [vi x6,vi x7,vi x8,vi x9]]) (Zc s0 x1 x2 x3 x4 x5 x6 x7 x8 x9):=⟨by kernel_rfl,by kernel_rfl⟩
section
variable (x1 x2 x4 x5 x6 x7 x8 x9:Int)
include x1 x2 x4 x5 x6 x7 x8 x9
def fX:Int:=gN (i64.wrap (x6 - x1)) (i64.wrap (x8 - x1)) (i64.wrap (x7 - x2)) (i64.wrap (x9 - x2)) x4 x5
def gg:Int:=gU (i64.wrap (x6 - x1)) (i64.wrap (x8 - x1)) (i64.wrap (x7 - x2)) (i64.wrap (x9 - x2)) x4 x5
def gj:Int:=gO (i64.wrap (x6 - x1)) (i64.wrap (x8 - x1)) (i64.wrap (x7 - x2)) (i64.wrap (x9 - x2)) x4 x5
def gm:Int:=gQ (i64.wrap (x6 - x1)) (i64.wrap (x8 - x1)) (i64.wrap (x7 - x2)) (i64.wrap (x9 - x2)) x4 x5
end
def NW (s0:ByteArray) (x1 x2 x3 x4 x5 x6 x7 x8 x9:Int):V:=.agg [.int i64 (fX x1 x2 x4 x5 x6 x7 x8 x9),.int i64 (gg x1 x2 x4 x5 x6 x7 x8 x9),.int i64 (gj x1 x2 x4 x5 x6 x7 x8 x9),.int i64 (gm x1 x2 x4 x5 x6 x7 x8 x9)]
theorem aaO (s0:ByteArray) (x1 x2 x3 x4 x5 x6 x7 x8 x9:Int) (hp:Co (i64.wrap (i64.wrap (x4 * x4)+i64.wrap (x5 * x5)))):aN cr (Zc s0 x1 x2 x3 x4 x5 x6 x7 x8 x9) (NW s0 x1 x2 x3 x4 x5 x6 x7 x8 x9):=aC (by first | assumption | (exact hp)) (af (evRet (by unfold NW fX gg gj gm; rfl)))
def Nh:aB:=bI [.agg aT,.agg iu] (fun
 | [.agg [.str s0,.int _ x1,.int _ x2,.int _ x3,.int _ x4,.int _ x5],.agg [.int _ x6,.int _ x7,.int _ x8,.int _ x9]]=>Co (i64.wrap (i64.wrap (x4 * x4)+i64.wrap (x5 * x5)))
 | _=>False) fun
 | [.agg [.str s0,.int _ x1,.int _ x2,.int _ x3,.int _ x4,.int _ x5],.agg [.int _ x6,.int _ x7,.int _ x8,.int _ x9]]=>NW s0 x1 x2 x3 x4 x5 x6 x7 x8 x9
 | _=>.any
theorem MF:(vP Nh).Ok Tryz.prog 70:=bY Bv Tryz.func70 (by kernel_rfl) fun ds hp=>dG (Wg ..) (aaO _ _ _ _ _ _ _ _ _ _ hp)
def IJ (s0:ByteArray) (x1 x2 x3 x4 x5 x6 x7 x8 x9:Int):RT Empty:=.obp ((((-1000:Int)<=x4/\x4<=(1000:Int))/\((-1000:Int)<=x5/\x5<=(1000:Int))/\(x4 ≠ (0:Int) ∨ x5 ≠ (0:Int)))/\((-1000000000:Int)<=i64.wrap (x6 - x1)/\i64.wrap (x6 - x1)<=(1000000000:Int))/\((-1000000000:Int)<=i64.wrap (x8 - x1)/\i64.wrap (x8 - x1)<=(1000000000:Int))/\((-1000000000:Int)<=i64.wrap (x7 - x2)/\i64.wrap (x7 - x2)<=(1000000000:Int))/\(-1000000000:Int)<=i64.wrap (x9 - x2)/\i64.wrap (x9 - x2)<=(1000000000:Int)) (.obt (.ret (V.agg [vi (gN (i64.wrap (x6 - x1)) (i64.wrap (x8 - x1)) (i64.wrap (x7 - x2)) (i64.wrap (x9 - x2)) x4 x5),vi (gU (i64.wrap (x6 - x1)) (i64.wrap (x8 - x1)) (i64.wrap (x7 - x2)) (i64.wrap (x9 - x2)) x4 x5),vi (gO (i64.wrap (x6 - x1)) (i64.wrap (x8 - x1)) (i64.wrap (x7 - x2)) (i64.wrap (x9 - x2)) x4 x5),vi (gQ (i64.wrap (x6 - x1)) (i64.wrap (x8 - x1)) (i64.wrap (x7 - x2)) (i64.wrap (x9 - x2)) x4 x5)])))
theorem QX (s0:ByteArray) (x1 x2 x3 x4 x5 x6 x7 x8 x9:Int):dh dm (aS JJ De u0 E3 [V.agg [V.str s0,vi x1,vi x2,vi x3,vi x4,vi x5],V.agg [vi x6,vi x7,vi x8,vi x9]]) (IJ s0 x1 x2 x3 x4 x5 x6 x7 x8 x9):=⟨by kernel_rfl,by kernel_rfl⟩
section
variable (x1 x2 x4 x5 x6 x7 x8 x9:Int)
include x1 x2 x4 x5 x6 x7 x8 x9
def alg:Int:=gN (i64.wrap (x6 - x1)) (i64.wrap (x8 - x1)) (i64.wrap (x7 - x2)) (i64.wrap (x9 - x2)) x4 x5
def ak4:Int:=gU (i64.wrap (x6 - x1)) (i64.wrap (x8 - x1)) (i64.wrap (x7 - x2)) (i64.wrap (x9 - x2)) x4 x5
def akJ:Int:=gO (i64.wrap (x6 - x1)) (i64.wrap (x8 - x1)) (i64.wrap (x7 - x2)) (i64.wrap (x9 - x2)) x4 x5
def ak1:Int:=gQ (i64.wrap (x6 - x1)) (i64.wrap (x8 - x1)) (i64.wrap (x7 - x2)) (i64.wrap (x9 - x2)) x4 x5
end
def jA (x:Int):Prop:=-400000000<=x/\x<=400000000
theorem U2 {a b:Int} (h:jA a) (h':jA b):Bd (i64.wrap (a - b)):=by
 unfold jA at *
 unfold Bd
 rw [wrapI (by omega) (by omega)]; omega
section
variable (s0:ByteArray) (x1 x2 x3 x4 x5 x6 x7 x8 x9:Int) (hp:Hd x4 x5/\jA x1/\jA x2/\jA x6/\jA x7/\jA x8/\jA x9)
include s0 x1 x2 x3 x4 x5 x6 x7 x8 x9 hp
theorem PE:aN cr (IJ s0 x1 x2 x3 x4 x5 x6 x7 x8 x9) (.agg [.int .i64 (fX x1 x2 x4 x5 x6 x7 x8 x9),.int .i64 (gg x1 x2 x4 x5 x6 x7 x8 x9),.int .i64 (gj x1 x2 x4 x5 x6 x7 x8 x9),.int .i64 (gm x1 x2 x4 x5 x6 x7 x8 x9)]):=by
 obtain ⟨hd,h1,h2,h6,h7,h8,h9⟩:=hp
 exact aC ⟨hd,U2 h6 h1,U2 h8 h1,U2 h7 h2,U2 h9 h2⟩ (af (evRet rfl))
theorem aaq:aN cr (IJ s0 x1 x2 x3 x4 x5 x6 x7 x8 x9) (.agg [.int .i64 (fX x1 x2 x4 x5 x6 x7 x8 x9),.int .i64 (gg x1 x2 x4 x5 x6 x7 x8 x9),.int .i64 (gj x1 x2 x4 x5 x6 x7 x8 x9),.int .i64 (gm x1 x2 x4 x5 x6 x7 x8 x9)]):=PE s0 x1 x2 x3 x4 x5 x6 x7 x8 x9 hp
end
def L9:aB:=bI [.agg aT,.agg iu] (fun
 | [.agg [.str s0,.int _ x1,.int _ x2,.int _ x3,.int _ x4,.int _ x5],.agg [.int _ x6,.int _ x7,.int _ x8,.int _ x9]]=>Hd x4 x5/\jA x1/\jA x2/\jA x6/\jA x7/\jA x8/\jA x9
 | _=>False) fun
 | [.agg [.str s0,.int _ x1,.int _ x2,.int _ x3,.int _ x4,.int _ x5],.agg [.int _ x6,.int _ x7,.int _ x8,.int _ x9]]=>.agg [.int .i64 (fX x1 x2 x4 x5 x6 x7 x8 x9),.int .i64 (gg x1 x2 x4 x5 x6 x7 x8 x9),.int .i64 (gj x1 x2 x4 x5 x6 x7 x8 x9),.int .i64 (gm x1 x2 x4 x5 x6 x7 x8 x9)]
 | _=>.any
theorem Jq:(vP L9).Ok Tryz.prog 68:=bY Bv Tryz.func68 (by kernel_rfl) fun ds hp=>dG (QX ..) (aaq _ _ _ _ _ _ _ _ _ _ hp)
theorem aau {x k:Int} {z:Int × Int × Int} (h:(bif x != 0 then (k,(0:Int),x) else z).2.2=0):x=0/\z.2.2=0:=by
 cases hb:x != 0 with
 | true=>rw [hb] at h; rw [show x=0 from h] at hb; cases hb
 | false=>rw [hb] at h; exact ⟨uK hb,h⟩
structure abQ (x:List V):Prop where
 px:-100000<=ba x/\ba x<=100000
 py:-100000<=cQ x/\cQ x<=100000
 ph:1<=cM x/\cM x<=200
 hd:Hd (cv x) (be x)
theorem JN {v a b:Int} (h:dn v a b=true):a<=v/\v<=b:=by
 unfold dn at h
 cases h1:decide (a<=v) with
 | false=>rw [h1] at h; cases h
 | true=>rw [h1] at h; exact ⟨of_decide_eq_true h1,of_decide_eq_true h⟩
theorem bor {a b:Bool} (h:(bif a then true else b)=false):a=false/\b=false:=by cases a <;> cases b <;> first | exact ⟨rfl,rfl⟩ | cases h
theorem am4 {n:Nat} {f:Nat->List V} {i:Nat} (h:cC n (aa aT f) i=0):abQ (f i):=by
 unfold cC Uv at h
 obtain ⟨_,h⟩:=jp h (by decide)
 obtain ⟨_,h⟩:=jp h (by decide)
 unfold Ve at h
 obtain ⟨h1,h⟩:=jp h (by decide)
 obtain ⟨h2,_⟩:=jp h (by decide)
 obtain ⟨h1,hdy⟩:=bor h1
 obtain ⟨h1,hdx⟩:=bor h1
 obtain ⟨h1,hh⟩:=bor h1
 have h1:=notf h1
 unfold xX at h1
 have hx:dn (ba (f i)) (-100000) 100000=true:=dQ h1 0 (by decide)
 have hy:dn (cQ (f i)) (-100000) 100000=true:=dQ h1 1 (by decide)
 refine ⟨JN hx,JN hy,JN (notf hh),JN (notf hdx),JN (notf hdy),?_⟩
 have h2:(bif cv ((f i)) == 0 then be ((f i)) == 0 else false)=false:=h2
 cases hb:(cv ((f i)) == 0) with
 | false=>exact .inl fun h=>by rw [h] at hb; cases hb
 | true =>
   rw [hb] at h2
   exact .inr fun h=>by have h2:(be ((f i)) == 0)=false:=h2; rw [h] at h2; cases h2
structure agc (n0:Nat) (f0:ah) (n2:Nat) (f2:ah) (x4:Int) (n5:Nat) (f5:ah) (n7:Nat) (f7:ah) (n9:Nat) (f9:ah) (n11:Nat) (f11:ah) (n13:Nat) (f13:ah) (n15:Nat) (f15:ah):Prop where
 v2:yj n0 f0 n2 f2
 v3:Y7 n5 (aa bF f5) n7 (aa ce f7) n9 (aa ci f9) n11 (aa aT f11)
 sf:wM n0 f0 x4=0
 ll:n13=n11
 lu:n15=n11
 tb:∀ i,i < n0->nr (f0 i)
 lm:∀ i,i < n2->ai5 n0 (f2 i)
 cl:∀ i,i < n11->abQ (f11 i)
 co:∀ i,i < n11->yak f0 n2 f2 f13 f15 i=0
theorem Xb {n0:Nat} {f0:Nat->List V} {n2:Nat} {f2:Nat->List V} {x4:Int} {n5:Nat} {f5:Nat->List V} {n7:Nat} {f7:Nat->List V} {n9:Nat} {f9:Nat->List V} {n11:Nat} {f11:Nat->List V} {n13:Nat} {f13:Nat->List V} {n15:Nat} {f15:Nat->List V} (h:kE n0 f0 n2 f2 x4 n5 f5 n7 f7 n9 f9 n11 f11 n13 f13 n15 f15=0):agc n0 f0 n2 f2 x4 n5 f5 n7 f7 n9 f9 n11 f11 n13 f13 n15 f15:=by
 have h:(Sq n0 f0 n2 f2 x4 n5 f5 n7 f7 n9 f9 n11 f11 n13 f13 n15 f15).2.2=0:=h
 unfold Sq at h
 obtain ⟨h1,h⟩:=aau h
 obtain ⟨h2,h⟩:=aau h
 obtain ⟨h3,h⟩:=aau h
 have h1:b8 n0 f0 n2 f2=0:=h1
 have V2:=tT h1
 have V3:=P7 h2
 cases hl:Ar n11 n13 n15 with
 | true=>rw [hl] at h; cases h
 | false =>
   rw [hl] at h
   obtain ⟨e1,e2⟩:=tk hl
   exact ⟨V2,V3,h3,e1,e2,fun i hi=>Bn (V2.tb i hi),fun i hi=>OJ V2.l0 (V2.lm i hi),fun i hi=>am4 (n:=n11) (V3.cl i hi),(je h).1⟩
def rX (e z:Int):Int:=bif e == 0 then z else 0
theorem abH {dx dy:Int} (h:Hd dx dy):Co (i64.wrap (i64.wrap (dx * dx)+i64.wrap (dy * dy))):=rts (hdS h)
end
end Go.Dx
namespace Go.Dx
open Go.Sx
section
variable {J:Type}
def Jd:V->bN J->bN J
 | .bool b,.res (.kb _)=>.res (.kb b)
 | r,_=>.res r
theorem Qp (r:V) (a:bN J):oX r (Jd r a):=by
 unfold Jd; split <;> rfl
def ou (r:V):T (bN J)->T (bN J)
 | .ret a=>.ret (Jd r a)
 | .br b x y=>match b with
   | true=>.br true (ou r x) y
   | false=>.br false x (ou r y)
 | .ob _ x=>.ob true (ou r x)
 | .obi c d x=>match c with
   | true=>.obi true true (ou r x)
   | false=>.obi false d (ou r x)
 | .obp _ x=>.obp True (ou r x)
 | .obq a _ x=>.obq a a (ou r x)
 | .fail _=>.ret (.res r)
 | .loop ..=>.ret (.res r)
 | .all f=>.all fun l=>ou r (f l)
 | .und x y=>.und (ou r x) (ou r y)
 | .asm p x=>.asm p (ou r x)
theorem PZ {LP:d7} (r:V):∀ t:T (bN J),bn LP (ou r t) (oX r):=by
 intro t
 induction t with
 | ret a=>exact Qp r a
 | br b x y hx hy =>
   cases b with
   | true=>exact ⟨fun _=>hx,(fun e=>by cases e)⟩
   | false=>exact ⟨(fun e=>by cases e),fun _=>hy⟩
 | ob b x hx=>exact ⟨rfl,hx⟩
 | obi c d x hx =>
   cases c with
   | true=>exact ⟨fun _=>rfl,hx⟩
   | false=>exact ⟨(fun e=>by cases e),hx⟩
 | obp p x hx=>exact ⟨trivial,hx⟩
 | obq a b x hx=>exact ⟨rfl,hx⟩
 | fail n=>exact (rfl:cn r=cn r)
 | loop fr b e h g k hk=>exact (rfl:cn r=cn r)
 | all f hf=>exact fun l=>hf l
 | und x y hx hy=>exact ⟨hx,hy⟩
 | asm p x hx=>exact fun _=>hx
theorem AW {ct:bd} {un:kn} {w0:World} {sf:aI} {ds:List V} {r:V} (h:ou r (aS J ct un sf ds)=aS J ct un sf ds):bn (cO w0 (SV ct)) (aS J ct un sf ds) (oX r):=by
 rw [← h]; exact PZ r _
end
def yaj (ts:List Ty) (pre:List V->Bool) (r:List V->V):aB:=fun ds=>cond (pre (jq ts ds)) (some ((jB ts ds [],jC ts ds []),True,r (jq ts ds))) none
theorem lA {P:Program} {f:FuncId} {ts:List Ty} {pre:List V->Prop} {preB:List V->Bool} {r:List V->V} (h:∀ ds,preB ds=true->pre ds) (hO:(vP (bI ts pre r)).Ok P f):(vP (yaj ts preB r)).Ok P f:=by
 refine ⟨fun B m lh w args vs K hrel hargs hsp=>?_,fun _ _ _ _ _ hk ⟨ds,d,p,r,h1,h2,h3,h4,h5⟩=>⟨ds,d,p,r,h1,h2,h3,h4,hk _ _ h5⟩,fun _ _ _ _ ⟨_,_,_,_,_,_,_,_,h⟩=>h⟩
 refine hO.sound B m lh w args vs K hrel hargs ?_
 obtain ⟨ds,d,p,r',h1,h2,⟨h30,h3⟩,h4,h5⟩:=hsp
 unfold yaj at h2
 cases hb:preB (jq ts ds) with
 | false=>rw [hb] at h2; cases h2
 | true =>
   rw [hb] at h2
   simp only [cond_true,Option.some.injEq,Prod.mk.injEq] at h2
   obtain ⟨rfl,rfl,rfl⟩:=h2
   exact ⟨ds,_,_,_,h1,rfl,⟨h30,h _ hb⟩,h4,h5⟩
def G9 (p:V->V->Bool):List V->List V->Bool
 | [],[]=>true
 | v::vs,x::xs=>p v x && G9 p vs xs
 | _,_=>false
def NY:Nat->V->V->Bool
 | 0,_,_=>false
 | fu+1,v,x=>match v,x with
   | .int k a,.int k' b=>decide (k=k') && decide (a=b)
   | .bool a,.bool b=>a == b
   | .kb a,.bool b=>a == b
   | .str a,.str b=>decide (a.data.toList=b.data.toList)
   | .agg xs,.agg ys=>G9 (NY fu) xs ys
   | .sl n f,.sl m g=>Nat.beq n m && cq n fun i=>G9 (NY fu) (f i) (g i) && (g i).all V.fc
   | .sq n _ f,.sl m g=>Nat.beq n m && cq n fun i=>G9 (NY fu) (f i) (g i) && (g i).all V.fc
   | .pd xs,.pd ys=>Nat.beq (bD xs) (bD ys) && (G9 (NY fu) xs ys && ys.all V.fc)
   | .fn f xs ys,.fn g us ws=>Nat.beq f g && (G9 (NY fu) xs us && G9 (NY fu) ys ws)
   | _,_=>false
theorem mE {w0:World} {lh:List ap} {p:V->V->Bool} (hp:∀ v x a,p v x=true->vr w0 lh Nu.nil v a->vr w0 lh Nu.nil x a):∀ (vs xs:List V) (qs:List ak),G9 p vs xs=true->bf w0 lh Nu.nil vs qs->bf w0 lh Nu.nil xs qs
 | [],[],qs,_,h=>h
 | v::vs,x::xs,qs,h,h1=>by
   simp only [G9,Bool.and_eq_true] at h
   simp only [bf] at h1 ⊢
   obtain ⟨y,ys,rfl,h2,h3⟩:=h1
   exact ⟨y,ys,rfl,hp _ _ _ h.1 h2,mE hp vs xs ys h.2 h3⟩
 | [],_::_,_,h,_=>by simp [G9] at h
 | _::_,[],_,h,_=>by simp [G9] at h
theorem ol {w0:World} {lh:List ap}:∀ (fu:Nat) (v x:V) (a:ak),NY fu v x=true->vr w0 lh Nu.nil v a->vr w0 lh Nu.nil x a
 | 0,v,x,a,h,_=>by simp [NY] at h
 | fu+1,v,x,a,h,hv=>by
   simp only [NY] at h
   split at h
   ·simp only [Bool.and_eq_true,decide_eq_true_eq] at h; obtain ⟨rfl,rfl⟩:=h; exact hv
   ·have:=eq_of_beq h; subst this; exact hv
   ·have:=eq_of_beq h; subst this; simp only [vr] at hv ⊢; exact hv
   ·rename_i s t
    have h0:=of_decide_eq_true h
    have:s=t:=by
     cases s with | mk d =>
     cases t with | mk e =>
     have:d=e:=Array.toList_inj.1 h0
     rw [this]
    subst this; exact hv
   ·simp only [vr] at hv ⊢
    obtain ⟨qs,rfl,h2⟩:=hv
    exact ⟨qs,rfl,mE (fun v x a=>ol fu v x a) _ _ _ h h2⟩
   ·simp only [Bool.and_eq_true] at h
    have hn:=Nat.eq_of_beq_eq_true h.1
    subst hn
    simp only [vr] at hv ⊢
    obtain ⟨p,c,esz,h1,h2,h3,h4,h5⟩:=hv
    refine ⟨p,c,esz,h1,h2,h3,h4,fun i hi=>?_⟩
    obtain ⟨q,qs,g1,g2,g3,g4⟩:=h5 i hi
    have hh:=dQ h.2 i hi
    simp only [Bool.and_eq_true] at hh
    exact ⟨q,qs,g1,g2,mE (fun v x a=>ol fu v x a) _ _ _ hh.1 g3,hh.2⟩
   ·simp only [Bool.and_eq_true] at h
    have hn:=Nat.eq_of_beq_eq_true h.1
    subst hn
    simp only [vr] at hv ⊢
    obtain ⟨p,c,esz,h1,h2,h3,h4,h5⟩:=hv
    refine ⟨p,c,esz,h1,h2.1,h3,h4,fun i hi=>?_⟩
    obtain ⟨q,qs,g1,g2,g3,g4⟩:=h5 i hi
    have hh:=dQ h.2 i hi
    simp only [Bool.and_eq_true] at hh
    exact ⟨q,qs,g1,g2,mE (fun v x a=>ol fu v x a) _ _ _ hh.1 g3,hh.2⟩
   ·simp only [Bool.and_eq_true] at h
    have hn:=Nat.eq_of_beq_eq_true h.1
    rw [yac,yac] at hn
    simp only [vr] at hv ⊢
    obtain ⟨p,qs,h1,h2,h3,h4,h5⟩:=hv
    exact ⟨p,qs,h1,h2,by rw [← hn]; exact h3,mE (fun v x a=>ol fu v x a) _ _ _ h.2.1 h4,h.2.2⟩
   ·simp only [Bool.and_eq_true] at h
    have hn:=Nat.eq_of_beq_eq_true h.1
    subst hn
    simp only [vr] at hv ⊢
    obtain ⟨us,vs,h1,h2,h3⟩:=hv
    exact ⟨us,vs,h1,mE (fun v x a=>ol fu v x a) _ _ _ h.2.1 h2,mE (fun v x a=>ol fu v x a) _ _ _ h.2.2 h3⟩
   ·cases h
def fk:List (List V × V)->aB
 | [],_=>none
 | (ex,r)::l,ds=>cond (G9 (NY 8) ds ex) (some (([],[]),True,r)) (fk l ds)
theorem xu {P:Program} {f:FuncId} {C:aB} (hO:(vP C).Ok P f):∀ (l:List (List V × V)),(∀ e ∈ l,∃ d p,C e.1=some (d,p,e.2)/\d.1=d.2/\p)->(vP (fk l)).Ok P f:=by
 intro l hl
 refine ⟨fun B m lh w args vs K hrel hargs hsp=>?_,fun _ _ _ _ _ hk ⟨ds,d,p,r,h1,h2,h3,h4,h5⟩=>⟨ds,d,p,r,h1,h2,h3,h4,hk _ _ h5⟩,fun _ _ _ _ ⟨_,_,_,_,_,_,_,_,h⟩=>h⟩
 refine hO.sound B m lh w args vs K hrel hargs ?_
 obtain ⟨ds,d,p,r',h1,h2,_,h4,h5⟩:=hsp
 induction l with
 | nil=>simp [fk] at h2
 | cons e l ih =>
   simp only [fk] at h2
   cases hb:G9 (NY 8) ds e.1 with
   | true =>
     rw [hb] at h2
     simp only [cond_true,Option.some.injEq,Prod.mk.injEq] at h2
     obtain ⟨_,_,rfl⟩:=h2
     obtain ⟨d',p',e1,e2,e3⟩:=hl e (List.mem_cons_self ..)
     exact ⟨e.1,d',p',_,mE (fun v x a=>ol 8 v x a) _ _ _ hb h1,e1,⟨e2,e3⟩,h4,h5⟩
   | false =>
     rw [hb] at h2
     exact ih (fun e he=>hl e (List.mem_cons_of_mem _ he)) h2
end Go.Dx
namespace Go.Dx
open Go.Sx
theorem at1 {ts:List Ty} {pre:List V->Prop} {r:List V->V} {raw:List V} {res:V} (hp:pre (jq ts (ao ts raw))) (hr:r (jq ts (ao ts raw))=res):∃ d p,bI ts pre r (ao ts raw)=some (d,p,res)/\d.1=d.2/\p :=
 ⟨_,_,by rw [bI,hr],yaf ts raw [],hp⟩
theorem ybe {α:Type} {a:α} {l:List α} {Q:α->Prop} (h:Q a) (hl:∀ e ∈ l,Q e):∀ e ∈ a::l,Q e:=fun e he=>by
 rcases List.mem_cons.1 he with rfl | he
 ·exact h
 ·exact hl e he
theorem RQ {α:Type} {Q:α->Prop}:∀ e ∈ ([]:List α),Q e:=fun e he=>by cases he
end Go.Dx
namespace Go.Dx
open Go.IntKind (i64 u64 u8)
open Go.Sx Go.Proofs
noncomputable section
def uB:kn:=fun _=>1000
def szB (n:Nat) (f:Nat->List V):Bool:=cq n fun i=>Nat.ble (sv (hdV (f i))).size 9223372036854775807
theorem lY {n:Nat} {f:Nat->List V} (h:szB n f=true):aE n f:=fun i hi=>Nat.le_of_ble_eq_true (dQ h i hi)
def smT:Nat->List V
 | 0=>[.str ⟨#[119,105,100,101]⟩,.sl 3 (fun | 0=>[vi (-1000)] | 1=>[vi (0)] | _=>[vi (2000)]),.sl 2 (fun | 0=>[vi (-1000)] | _=>[vi (1000)]),.sl 3 (fun | 0=>[.sl 2 (fun | 0=>[vi (100)] | _=>[vi (300)])] | 1=>[.sl 2 (fun | 0=>[vi (200)] | _=>[vi (600)])] | _=>[.sl 2 (fun | 0=>[vi (0)] | _=>[vi (100)])]),vi (50),vi (5)]
 | _=>[.str ⟨#[97,115,112,104,97,108,116]⟩,.sl 2 (fun | 0=>[vi (-5000)] | _=>[vi (5000)]),.sl 2 (fun | 0=>[vi (-5000)] | _=>[vi (5000)]),.sl 2 (fun | 0=>[.sl 2 (fun | 0=>[vi (700)] | _=>[vi (700)])] | _=>[.sl 2 (fun | 0=>[vi (700)] | _=>[vi (700)])]),vi (0),vi (0)]
def smL:Nat->List V:=fun _=>[.str ⟨#[104,101,97,100]⟩,vi (0),vi (1),vi (8000),vi (60000),vi (500),vi (50),vi (2),vi (4),vi (3),vi (5),vi (100000),vi (200),vi (0)]
def Q4:Nat->List V:=fun _=>[.str ⟨#[104,105,103,104]⟩,vi (0),.sl 3 (fun | 0=>[vi 0,vi 0] | 1=>[vi 10000,vi 0] | _=>[vi 10000,vi 10000]),vi (4000)]
def smC:Nat->List V:=fun _=>[.str ⟨#[99]⟩,vi (0),vi (0),vi (80),vi (0),vi (1)]
def smS:V:=.agg [.sl 2 smT,.sl 1 smL,vi 1,.sl 1 Q4,.sl 0 Q4,.sl 0 Q4,.sl 1 smC,.sl 1 (fun _=>[vi 0]),.sl 1 fun _=>[vi 0,vi 0,vi 1000]]
def Jp:List Ty:=[.agg [.sl al,.sl am,tI,.sl bF,.sl ce,.sl ci,.sl aT,.sl ae,.sl bG]]
def I4:aB:=fk [(ao Jp [smS],.tup [vi 0,vi 0,vi 0])]
theorem Rn:(vP I4).Ok Tryz.prog 22:=xu yas _ (ybe (at1 (ts:=Jp) (raw:=[smS]) (⟨lY (by kernel_rfl),lY (by kernel_rfl),lY (by kernel_rfl),lY (by kernel_rfl)⟩) (by kernel_rfl)) (RQ))
def ME:List Ty:=[.agg [.sl al,.sl am]]
def M0:aB:=fk [(ao ME [.agg [.sl 2 smT,.sl 1 smL]],.tup [vi 0,vi 0,vi 0])]
theorem Wd:(vP M0).Ok Tryz.prog 59:=xu CQ _ (ybe (at1 (ts:=ME) (raw:=[.agg [.sl 2 smT,.sl 1 smL]]) (⟨lY (by kernel_rfl),lY (by kernel_rfl)⟩) (by kernel_rfl)) (RQ))
def ahn:List Ty:=[.agg [.sl bF,.sl ce,.sl ci,.sl aT]]
def ajd:aB:=fk [(ao ahn [.agg [.sl 1 Q4,.sl 0 Q4,.sl 0 Q4,.sl 1 smC]],.tup [vi 0,vi 0,vi 0])]
theorem ajT:(vP ajd).Ok Tryz.prog 60:=xu ae0 _ (ybe (at1 (ts:=ahn) (raw:=[.agg [.sl 1 Q4,.sl 0 Q4,.sl 0 Q4,.sl 1 smC]]) (⟨lY (by kernel_rfl),lY (by kernel_rfl)⟩) (by kernel_rfl)) (RQ))
def oF:bd:=(70,.con Nh)::(68,.con L9)::De
theorem mM:aR Tryz.prog eqs its oF:=.con MF (.con Jq (Bv))
def Yn (n0:Nat) (f0:ah) (n2:Nat) (f2:ah) (x4:Int) (n5:Nat) (f5:ah) (n7:Nat) (f7:ah) (n9:Nat) (f9:ah) (n11:Nat) (f11:ah) (n13:Nat) (f13:ah) (n15:Nat) (f15:ah) (x17:Int) (s18:ByteArray) (x19 x20 x21 x22 x23:Int):RT Empty:=.ret (vi (i64.wrap (100 * x21)))
theorem yaY (n0:Nat) (f0:ah) (n2:Nat) (f2:ah) (x4:Int) (n5:Nat) (f5:ah) (n7:Nat) (f7:ah) (n9:Nat) (f9:ah) (n11:Nat) (f11:ah) (n13:Nat) (f13:ah) (n15:Nat) (f15:ah) (x17:Int) (s18:ByteArray) (x19 x20 x21 x22 x23:Int):dh dm (aS JJ oF u0 Xh [V.agg [V.sl n0 (aa al f0),V.sl n2 (aa am f2),vi x4,V.sl n5 (aa bF f5),V.sl n7 (aa ce f7),V.sl n9 (aa ci f9),V.sl n11 (aa aT f11),V.sl n13 (aa ae f13),V.sl n15 (aa bG f15),vi x17,V.str s18,vi x19,vi x20,vi x21,vi x22,vi x23]]) (Yn n0 f0 n2 f2 x4 n5 f5 n7 f7 n9 f9 n11 f11 n13 f13 n15 f15 x17 s18 x19 x20 x21 x22 x23):=⟨by kernel_rfl,by kernel_rfl⟩
def so (x21:Int):Int:=i64.wrap (100 * x21)
def J9 (n0:Nat) (f0:ah) (n2:Nat) (f2:ah) (x4:Int) (n5:Nat) (f5:ah) (n7:Nat) (f7:ah) (n9:Nat) (f9:ah) (n11:Nat) (f11:ah) (n13:Nat) (f13:ah) (n15:Nat) (f15:ah) (x17:Int) (s18:ByteArray) (x19 x20 x21 x22 x23:Int):V:=.int i64 (so x21)
theorem ad1 (n0:Nat) (f0:ah) (n2:Nat) (f2:ah) (x4:Int) (n5:Nat) (f5:ah) (n7:Nat) (f7:ah) (n9:Nat) (f9:ah) (n11:Nat) (f11:ah) (n13:Nat) (f13:ah) (n15:Nat) (f15:ah) (x17:Int) (s18:ByteArray) (x19 x20 x21 x22 x23:Int):aN cr (Yn n0 f0 n2 f2 x4 n5 f5 n7 f7 n9 f9 n11 f11 n13 f13 n15 f15 x17 s18 x19 x20 x21 x22 x23) (J9 n0 f0 n2 f2 x4 n5 f5 n7 f7 n9 f9 n11 f11 n13 f13 n15 f15 x17 s18 x19 x20 x21 x22 x23):=evRet (by unfold J9 so; rfl)
def K7:aB:=bI [.agg [.sl al,.sl am,tI,.sl bF,.sl ce,.sl ci,.sl aT,.sl ae,.sl bG,tI,.str,tI,tI,tI,tI,tI]] (fun _=>True) fun
 | [.agg [.sl n0 f0,.sl n2 f2,.int _ x4,.sl n5 f5,.sl n7 f7,.sl n9 f9,.sl n11 f11,.sl n13 f13,.sl n15 f15,.int _ x17,.str s18,.int _ x19,.int _ x20,.int _ x21,.int _ x22,.int _ x23]]=>J9 n0 f0 n2 f2 x4 n5 f5 n7 f7 n9 f9 n11 f11 n13 f13 n15 f15 x17 s18 x19 x20 x21 x22 x23
 | _=>.any
theorem It:(vP K7).Ok Tryz.prog 111:=bY mM Tryz.func111 (by kernel_rfl) fun ds hp=>dG (yaY ..) (ad1 _ _ _ _ _ _ _ _ _ _ _ _ _ _ _ _ _ _ _ _ _ _ _ _)
def Xk (x0:Int):RT Empty:=.ret (V.agg [vi x0,vi x0])
theorem UR (x0:Int):dh dm (aS JJ oF u0 ajz [vi x0]) (Xk x0):=⟨by kernel_rfl,by kernel_rfl⟩
def yaM (x0:Int):V:=.agg [.int i64 (x0),.int i64 (x0)]
theorem abd (x0:Int):aN cr (Xk x0) (yaM x0):=evRet (by unfold yaM ; rfl)
def C3:aB:=bI ae (fun _=>True) fun
 | [.int _ x0]=>yaM x0
 | _=>.any
theorem BU:(vP C3).Ok Tryz.prog 226:=bY mM Tryz.func226 (by kernel_rfl) fun ds hp=>dG (UR ..) (abd _)
def Yd (x0 x1 x2 x3 x4 x5 x6:Int):RT Empty:=.obp (i64.wrap (x5 - x4)=(0:Int)->False) (.obt (.obp (i64.wrap (x5 - x4)=(0:Int)->False) (.obt (.ret (V.agg [vi (eA (i64.wrap (i64.wrap (x0 * i64.wrap (x5 - x6))+i64.wrap (x2 * i64.wrap (x6 - x4)))) (i64.wrap (x5 - x4))),vi (fI (i64.wrap (i64.wrap (x1 * i64.wrap (x5 - x6))+i64.wrap (x3 * i64.wrap (x6 - x4)))) (i64.wrap (x5 - x4)))])))))
theorem Ua (x0 x1 x2 x3 x4 x5 x6:Int):dh dm (aS JJ oF u0 aiH [V.agg [vi x0,vi x1],V.agg [vi x2,vi x3],vi x4,vi x5,vi x6]) (Yd x0 x1 x2 x3 x4 x5 x6):=⟨by kernel_rfl,by kernel_rfl⟩
def jM (x0 x2 x4 x5 x6:Int):Int:=eA (i64.wrap (i64.wrap (x0 * i64.wrap (x5 - x6))+i64.wrap (x2 * i64.wrap (x6 - x4)))) (i64.wrap (x5 - x4))
def jN (x1 x3 x4 x5 x6:Int):Int:=fI (i64.wrap (i64.wrap (x1 * i64.wrap (x5 - x6))+i64.wrap (x3 * i64.wrap (x6 - x4)))) (i64.wrap (x5 - x4))
def DC (x0 x1 x2 x3 x4 x5 x6:Int):V:=.agg [.int i64 (jM x0 x2 x4 x5 x6),.int i64 (jN x1 x3 x4 x5 x6)]
theorem aeY (x0 x1 x2 x3 x4 x5 x6:Int) (hp:i64.wrap (x5 - x4) ≠ 0):aN cr (Yd x0 x1 x2 x3 x4 x5 x6) (DC x0 x1 x2 x3 x4 x5 x6):=aC (by first | assumption | (exact hp)) (af (aC (by first | assumption | (exact hp)) (af (evRet (by unfold DC jM jN; rfl)))))
def Km:aB:=bI [.agg b4,.agg b4,tI,tI,tI] (fun
 | [.agg [.int _ x0,.int _ x1],.agg [.int _ x2,.int _ x3],.int _ x4,.int _ x5,.int _ x6]=>i64.wrap (x5 - x4) ≠ 0
 | _=>False) fun
 | [.agg [.int _ x0,.int _ x1],.agg [.int _ x2,.int _ x3],.int _ x4,.int _ x5,.int _ x6]=>DC x0 x1 x2 x3 x4 x5 x6
 | _=>.any
theorem CV:(vP Km).Ok Tryz.prog 225:=bY mM Tryz.func225 (by kernel_rfl) fun ds hp=>dG (Ua ..) (aeY _ _ _ _ _ _ _ hp)
section
variable (x0 x1 x2 x3 x4 x5:Int)
include x0 x1 x2 x3 x4 x5
def Kt:RT Empty:=.obp ((1000000:Int)=(0:Int)->False) (.obt (.obp ((1000:Int)=(0:Int)->False) (.obt (.obp ((1000:Int)=(0:Int)->False) (.obt (.ret (vi (eA (i64.wrap (eA (i64.wrap (eA (i64.wrap (x0 * max (i64.wrap (1000000 - i64.wrap (x1 * x3))) 0)) 1000000 * max (i64.wrap (1000 - i64.wrap (x2 * x4))) 0)) 1000 * x5)) 1000))))))))
theorem PH:dh dm (aS JJ oF u0 Zh [vi x0,vi x1,vi x2,V.agg [vi x3,vi x4,vi x5],V.fn 91 [] []]) (Kt x0 x1 x2 x3 x4 x5):=⟨by kernel_rfl,by kernel_rfl⟩
def mo:Int:=eA (i64.wrap (eA (i64.wrap (eA (i64.wrap (x0 * max (i64.wrap (1000000 - i64.wrap (x1 * x3))) 0)) 1000000 * max (i64.wrap (1000 - i64.wrap (x2 * x4))) 0)) 1000 * x5)) 1000
def BQ:V:=.int i64 (mo x0 x1 x2 x3 x4 x5)
theorem Sb:aN cr (Kt x0 x1 x2 x3 x4 x5) (BQ x0 x1 x2 x3 x4 x5):=aC (by first | assumption | (decide)) (af (aC (by first | assumption | (decide)) (af (aC (by first | assumption | (decide)) (af (evRet (by unfold BQ mo; rfl)))))))
end
def OA:aB:=bI [tI,tI,tI,.agg bG,.fn 91 [] []] (fun _=>True) fun
 | [.int _ x0,.int _ x1,.int _ x2,.agg [.int _ x3,.int _ x4,.int _ x5],.fn _ [] []]=>BQ x0 x1 x2 x3 x4 x5
 | _=>.any
theorem S6:(vP OA).Ok Tryz.prog 165:=bY mM Tryz.func165 (by kernel_rfl) fun ds hp=>dG (PH ..) (Sb _ _ _ _ _ _)
section
variable (x0 x1 x2 x3 x4 x5:Int)
include x0 x1 x2 x3 x4 x5
def PV:RT Empty:=.obp ((1000000:Int)=(0:Int)->False) (.obt (.obp ((1000:Int)=(0:Int)->False) (.obt (.obp ((1000:Int)=(0:Int)->False) (.obt (.ret (vi (fI (i64.wrap (fI (i64.wrap (fI (i64.wrap (x0 * max (i64.wrap (1000000 - i64.wrap (x1 * x3))) 0)) 1000000 * max (i64.wrap (1000 - i64.wrap (x2 * x4))) 0)) 1000 * x5)) 1000))))))))
theorem K4:dh dm (aS JJ oF u0 Zh [vi x0,vi x1,vi x2,V.agg [vi x3,vi x4,vi x5],V.fn 92 [] []]) (PV x0 x1 x2 x3 x4 x5):=⟨by kernel_rfl,by kernel_rfl⟩
def mr:Int:=fI (i64.wrap (fI (i64.wrap (fI (i64.wrap (x0 * max (i64.wrap (1000000 - i64.wrap (x1 * x3))) 0)) 1000000 * max (i64.wrap (1000 - i64.wrap (x2 * x4))) 0)) 1000 * x5)) 1000
def Bc:V:=.int i64 (mr x0 x1 x2 x3 x4 x5)
theorem Uk:aN cr (PV x0 x1 x2 x3 x4 x5) (Bc x0 x1 x2 x3 x4 x5):=aC (by first | assumption | (decide)) (af (aC (by first | assumption | (decide)) (af (aC (by first | assumption | (decide)) (af (evRet (by unfold Bc mr; rfl)))))))
end
def QE:aB:=bI [tI,tI,tI,.agg bG,.fn 92 [] []] (fun _=>True) fun
 | [.int _ x0,.int _ x1,.int _ x2,.agg [.int _ x3,.int _ x4,.int _ x5],.fn _ [] []]=>Bc x0 x1 x2 x3 x4 x5
 | _=>.any
theorem T6:(vP QE).Ok Tryz.prog 165:=bY mM Tryz.func165 (by kernel_rfl) fun ds hp=>dG (K4 ..) (Uk _ _ _ _ _ _)
def aeS:List V->Bool
 | [_,_,_,_,.fn n _ _]=>Nat.beq n (match (.fn 91 [] []:V) with | .fn k _ _=>k | _=>0)
 | _=>false
def FG:aB:=orC aeS OA QE
theorem Cr:(vP FG).Ok Tryz.prog 165:=CN _ _ _ S6 T6
theorem uv {b:Int} (h:(b != 0)=true):b ≠ 0:=by simpa using h
def NP:List V->Bool
 | [.int _ x0,.int _ x1]=>x1 != 0
 | _=>false
def Kq:aB:=yaj b4 NP fun
 | [.int _ x0,.int _ x1]=>AJ x0 x1
 | _=>.any
theorem Wh:(vP Kq).Ok Tryz.prog 91:=lA (fun ds h=>by
 unfold NP at h
 split at h
 ·exact uv h
 ·cases h) CI
def Kx:List V->Bool
 | [.agg [.int _ x0,.int _ x1]]=>x1 != 0
 | _=>false
def ML:aB:=yaj [.agg b4] Kx fun
 | [.agg [.int _ x0,.int _ x1]]=>zt x0 x1
 | _=>.any
theorem T9:(vP ML).Ok Tryz.prog 106:=lA (fun ds h=>by
 unfold Kx at h
 split at h
 ·exact uv h
 ·cases h) Bu
def Lq:List V->Bool
 | [.int _ x0,.int _ x1]=>x1 != 0
 | _=>false
def Qi:aB:=yaj b4 Lq fun
 | [.int _ x0,.int _ x1]=>yaH x0 x1
 | _=>.any
theorem R9:(vP Qi).Ok Tryz.prog 92:=lA (fun ds h=>by
 unfold Lq at h
 split at h
 ·exact uv h
 ·cases h) Cl
def Qf:List V->Bool
 | [.agg [.int _ x0,.int _ x1]]=>x1 != 0
 | _=>false
def Jt:aB:=yaj [.agg b4] Qf fun
 | [.agg [.int _ x0,.int _ x1]]=>EG x0 x1
 | _=>.any
theorem Tv:(vP Jt).Ok Tryz.prog 108:=lA (fun ds h=>by
 unfold Qf at h
 split at h
 ·exact uv h
 ·cases h) Bl
def MW:List V->Bool
 | [.sl n0 f0]=>Nat.ble 1 n0
 | _=>false
def Mx:aB:=yaj [.sl ae] MW fun
 | [.sl n0 f0]=>.int .i64 (eH n0 f0)
 | _=>.any
theorem Ta:(vP Mx).Ok Tryz.prog 143:=lA (fun ds h=>by
 unfold MW at h
 split at h
 ·exact Nat.le_of_ble_eq_true h
 ·cases h) BF
def I8:List V->Bool
 | [.sl n0 f0]=>Nat.ble 1 n0
 | _=>false
def Mw:aB:=yaj [.sl ae] I8 fun
 | [.sl n0 f0]=>.int .i64 (fw n0 f0)
 | _=>.any
theorem UF:(vP Mw).Ok Tryz.prog 192:=lA (fun ds h=>by
 unfold I8 at h
 split at h
 ·exact Nat.le_of_ble_eq_true h
 ·cases h) B6
def OB:List V->Bool
 | [.agg [.int _ x0,.int _ x1],.agg [.int _ x2,.int _ x3],.int _ x4,.int _ x5,.int _ x6]=>i64.wrap (x5 - x4) != 0
 | _=>false
def J0:aB:=yaj [.agg b4,.agg b4,tI,tI,tI] OB fun
 | [.agg [.int _ x0,.int _ x1],.agg [.int _ x2,.int _ x3],.int _ x4,.int _ x5,.int _ x6]=>DC x0 x1 x2 x3 x4 x5 x6
 | _=>.any
theorem Sv:(vP J0).Ok Tryz.prog 225:=lA (fun ds h=>by
 unfold OB at h
 split at h
 ·exact uv h
 ·cases h) CV
end
end Go.Dx
namespace Go.Dx
open Go.Sx Go.RowKit
noncomputable section
end
end Go.Dx
