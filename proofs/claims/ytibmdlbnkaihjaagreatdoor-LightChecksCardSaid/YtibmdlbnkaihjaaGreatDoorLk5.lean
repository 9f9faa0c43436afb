/- Part 5 of a proof. No conditions. -/
import Derived.Test.YtibmdlbnkaihjaaGreatDoorLk4
import Derived.Lib.ConvBytes
import Derived.Lib.Walk
import Derived.WalkKit
import Derived.IntWalk
set_option maxRecDepth 100000
set_option linter.unusedVariables false
set_option linter.unusedSimpArgs false
namespace Go.Dx
open Go.IntKind (i64 u64 u8)
open Go.Sx Go.Proofs
def Ar:aY:=[(253,.con R1),(137,.con C64),(139,.con C66),(205,.con KX),(138,.con C65),(140,.con C67),(219,.con JN),(149,.con C72),(206,.con C45),(208,.con C90),(213,.con J6),(215,.con Hc),(152,.con C99),(252,.con I5),(254,.con GY),(255,.con Kg),(204,.con IB),(212,.con IP),(214,.con HN),(147,.con C51),(221,.con Ke),(250,.con Iz),(161,.con C86),(148,.con C71),(251,.con IA)]
theorem Aj:aQ Tryz.prog eqs its Ar:=.con NH (.con TQ (.con Vb (.con CQ (.con Qh (.con R3 (.con Gj (.con R8 (.con Ol (.con Ra (.con FL (.con CI (.con Rq (.con yas (.con Eo (.con Cc (.con El (.con Dw (.con Fs (.con Qj (.con CG (.con BV (.con JW (.con Sw (.con MA (.nil)))))))))))))))))))))))))
def Tn (n0:Nat) (f0:FnV):RT Empty:=.obc (.obt (.ret (V.bool (decide (0<=Au n0 (elV tp2 f0))))))
theorem Q5 (n0:Nat) (f0:FnV):Fit noD (aN JJ Ar u0 Ze [V.sl n0 (elV tp2 f0),V.fn 205 [] []]) (Tn n0 f0):=⟨by kernel_rfl,by kernel_rfl⟩
def gN (n0:Nat) (f0:FnV):Bool:=decide (0<=Au n0 (elV tp2 f0))
def Qf (n0:Nat) (f0:FnV):V:=.bool (gN n0 f0)
theorem Wx (n0:Nat) (f0:FnV):evR noE (Tn n0 f0) (Qf n0 f0):=ao (ac (ah (by unfold Qf gN; rfl)))
def Po:ap:=mkC [.sl tp2,.fn 205 [] []] (fun _=>True) fun
 | [.sl n0 f0,.fn _ [] []]=>Qf n0 f0
 | _=>.any
theorem LW:(vP Po).Ok Tryz.prog 209:=mkE Aj Tryz.func209 (by kernel_rfl) fun ds hp=>rf0 (Q5 ..) (Wx _ _)
def TW (s0:ByteArray):RT Empty:=.obp (s0.size<=(9223372036854775807:Nat)/\ByteArray.mk (Array.mk [(97:UInt8),(98:UInt8),(99:UInt8),(100:UInt8),(101:UInt8),(102:UInt8),(103:UInt8),(104:UInt8),(105:UInt8),(106:UInt8),(107:UInt8),(108:UInt8),(109:UInt8),(110:UInt8),(111:UInt8),(112:UInt8),(113:UInt8),(114:UInt8),(115:UInt8),(116:UInt8),(117:UInt8),(118:UInt8),(119:UInt8),(120:UInt8),(121:UInt8),(122:UInt8),(48:UInt8),(49:UInt8),(50:UInt8),(51:UInt8),(52:UInt8),(53:UInt8),(54:UInt8),(55:UInt8),(56:UInt8),(57:UInt8),(45:UInt8)])=ByteArray.mk (Array.mk [(97:UInt8),(98:UInt8),(99:UInt8),(100:UInt8),(101:UInt8),(102:UInt8),(103:UInt8),(104:UInt8),(105:UInt8),(106:UInt8),(107:UInt8),(108:UInt8),(109:UInt8),(110:UInt8),(111:UInt8),(112:UInt8),(113:UInt8),(114:UInt8),(115:UInt8),(116:UInt8),(117:UInt8),(118:UInt8),(119:UInt8),(120:UInt8),(121:UInt8),(122:UInt8),(48:UInt8),(49:UInt8),(50:UInt8),(51:UInt8),(52:UInt8),(53:UInt8),(54:UInt8),(55:UInt8),(56:UInt8),(57:UInt8),(45:UInt8)])) (.obt (.obi (.obi (.obi (.obi (.obi (.obi (.obj (bif bif !s0.toList == (ByteArray.mk (Array.mk [])).toList then decide ((↑s0.size:Int)<=24) else false then (rf s0 (ByteArray.mk (Array.mk [97,98,99,100,101,102,103,104,105,106,107,108,109,110,111,112,113,114,115,116,117,118,119,120,121,122,48,49,50,51,52,53,54,55,56,57,45]))).toList == (ByteArray.mk (Array.mk [])).toList else false) (decide ((0:Int)<=0/\0 < (↑s0.size:Int))) (.obi (.obi (.obi (.obj (bif bif bif !s0.toList == (ByteArray.mk (Array.mk [])).toList then decide ((↑s0.size:Int)<=24) else false then (rf s0 (ByteArray.mk (Array.mk [97,98,99,100,101,102,103,104,105,106,107,108,109,110,111,112,113,114,115,116,117,118,119,120,121,122,48,49,50,51,52,53,54,55,56,57,45]))).toList == (ByteArray.mk (Array.mk [])).toList else false then decide (97<=(↑(s0.data.1.getD 0 0).toNat:Int)) else false) (decide ((0:Int)<=0/\0 < (↑s0.size:Int))) (.obi (.obi (.ret (V.bool (bif bif bif bif !s0.toList == (ByteArray.mk (Array.mk [])).toList then decide ((↑s0.size:Int)<=24) else false then (rf s0 (ByteArray.mk (Array.mk [97,98,99,100,101,102,103,104,105,106,107,108,109,110,111,112,113,114,115,116,117,118,119,120,121,122,48,49,50,51,52,53,54,55,56,57,45]))).toList == (ByteArray.mk (Array.mk [])).toList else false then decide (97<=(↑(s0.data.1.getD 0 0).toNat:Int)) else false then decide ((↑(s0.data.1.getD 0 0).toNat:Int)<=122) else false)))))))))))))))))
theorem R6 (s0:ByteArray):Fit noD (aN JJ Ar u0 YW [V.str s0]) (TW s0):=⟨by kernel_rfl,by kernel_rfl⟩
def jD (s0:ByteArray):Bool:=bif bif bif bif !s0.toList == (ByteArray.mk (Array.mk [])).toList then decide ((↑s0.size:Int)<=24) else false then (rf s0 (ByteArray.mk (Array.mk [97,98,99,100,101,102,103,104,105,106,107,108,109,110,111,112,113,114,115,116,117,118,119,120,121,122,48,49,50,51,52,53,54,55,56,57,45]))).toList == (ByteArray.mk (Array.mk [])).toList else false then decide (97<=(↑(s0.data.1.getD 0 0).toNat:Int)) else false then decide ((↑(s0.data.1.getD 0 0).toNat:Int)<=122) else false
def R2 (s0:ByteArray):V:=.bool (jD s0)
theorem VZ (s0:ByteArray) (hp:s0.size<=9223372036854775807):evR noE (TW s0) (R2 s0):=aO (by first | assumption | (exact ⟨hp,rfl⟩)) (ac (ak (ak (ak (ak (ak (ak (oH (by first | assumption | (intro h; refine dqt ⟨Int.le_refl 0,zq s0 ?_⟩; cases hb:(!s0.toList == (⟨#[]⟩:ByteArray).toList) with | true=>rfl | false=>(rw [hb] at h; simp at h))) (ak (ak (ak (oH (by first | assumption | (intro h; refine dqt ⟨Int.le_refl 0,zq s0 ?_⟩; cases hb:(!s0.toList == (⟨#[]⟩:ByteArray).toList) with | true=>rfl | false=>(rw [hb] at h; simp at h))) (ak (ak (ah (by unfold R2 jD; rfl))))))))))))))))
def Re:ap:=mkC [.str] (fun
 | [.str s0]=>s0.size<=9223372036854775807
 | _=>False) fun
 | [.str s0]=>R2 s0
 | _=>.any
theorem Nz:(vP Re).Ok Tryz.prog 207:=mkE Aj Tryz.func207 (by kernel_rfl) fun ds hp=>rf0 (R6 ..) (VZ _ hp)
inductive S73 where
 | L0 (ia0:Int)
def U0 (n0:Nat) (f0:FnV) (n2:Nat) (f2:FnV) (n4:Nat) (f4:FnV) (n6:Nat) (f6:FnV) (x8:Int):S73->Env × List O × Option Ex
 | .L0 ia0=>([(6,vi ia0),(15,V.kb false),(14,V.bool (iS (sv (hdV (f6 x8.toNat))))),(13,V.str (sv (hdV (f6 x8.toNat)))),(12,V.pl 0 0),(5,V.pl 0 0),(11,V.agg [V.str (sv (hdV (f6 x8.toNat))),vi (jv1 (f6 x8.toNat)),vi (jv2 (f6 x8.toNat)),vi (jv3 (f6 x8.toNat)),vi (jv4 (f6 x8.toNat)),vi (jv5 (f6 x8.toNat))]),(10,V.pd [V.str (sv (hdV (f6 x8.toNat))),vi (jv1 (f6 x8.toNat)),vi (jv2 (f6 x8.toNat)),vi (jv3 (f6 x8.toNat)),vi (jv4 (f6 x8.toNat)),vi (jv5 (f6 x8.toNat))]),(9,vi x8),(8,V.sl n6 (elV tyC f6)),(7,V.pl 1 3),(4,vi 0),(2,V.pl 1 0),(0,scV n0 f0 n2 f2 n4 f4 n6 f6),(1,vi x8)],[O.cells [V.str (sv (hdV (f6 x8.toNat))),vi (jv1 (f6 x8.toNat)),vi (jv2 (f6 x8.toNat)),vi (jv3 (f6 x8.toNat)),vi (jv4 (f6 x8.toNat)),vi (jv5 (f6 x8.toNat))] 82,O.cells [V.sl n0 (elV tyR f0),V.sl n2 (elV tyT f2),V.sl n4 (elV tyF f4),V.sl n6 (elV tyC f6)] 31],none)
def YZ:S73->JJ
 | .L0 ia0=>(0,[])
def T8 (n0:Nat) (f0:FnV) (n2:Nat) (f2:FnV) (n4:Nat) (f4:FnV) (n6:Nat) (f6:FnV) (x8:Int):T (ck JJ):=aN JJ Ar u0 s73 [scV n0 f0 n2 f2 n4 f4 n6 f6,vi x8]
def EL (n0:Nat) (f0:FnV) (n2:Nat) (f2:FnV) (n4:Nat) (f4:FnV) (n6:Nat) (f6:FnV) (x8:Int) (cx:List Cx):Lp JJ:=lpT (atT (T8 n0 f0 n2 f2 n4 f4 n6 f6 x8) [false])
def YR (n0:Nat) (f0:FnV) (n2:Nat) (f2:FnV) (n4:Nat) (f4:FnV) (n6:Nat) (f6:FnV) (x8:Int):JJ->Lp JJ
 | (0,cx)=>EL n0 f0 n2 f2 n4 f4 n6 f6 x8 cx
 | (_,cx)=>EL n0 f0 n2 f2 n4 f4 n6 f6 x8 cx
def D73 (n0:Nat) (f0:FnV) (n2:Nat) (f2:FnV) (n4:Nat) (f4:FnV) (n6:Nat) (f6:FnV) (x8:Int):LD JJ S73:=⟨YZ,YR n0 f0 n2 f2 n4 f4 n6 f6 x8,U0 n0 f0 n2 f2 n4 f4 n6 f6 x8⟩
def H3 (n0:Nat) (f0:FnV) (n2:Nat) (f2:FnV) (n4:Nat) (f4:FnV) (n6:Nat) (f6:FnV) (x8:Int):S73->RT S73
 | .L0 ia0=>.br (decide (ia0 < x8)) (.ob (decide (0<=ia0/\ia0 < (↑n6:Int))) (.br ((sv (hdV (f6 ia0.toNat))).toList == (sv (hdV (f6 x8.toNat))).toList) (.ret (vi 5)) (.next [some (some 0),some (some 1)] (S73.L0 (i64.wrap (ia0+1))) []))) (.obc (.obt (.obi (.br (!!F51 2 (elV tp1 (bA [vi (jv1 (f6 x8.toNat)),vi (jv2 (f6 x8.toNat))] 0 1))) (.ob (!!F51 2 (elV tp1 (bA [vi (jv1 (f6 x8.toNat)),vi (jv2 (f6 x8.toNat))] 0 1))) (.obc (.obt (.obi (.br (!!cq (jv3 (f6 x8.toNat)) 1 200) (.ob (!!cq (jv3 (f6 x8.toNat)) 1 200) (.obc (.obt (.obi (.br (!!cq (jv4 (f6 x8.toNat)) (-1000) 1000) (.ob (!!cq (jv4 (f6 x8.toNat)) (-1000) 1000) (.obc (.obt (.br (!cq (jv5 (f6 x8.toNat)) (-1000) 1000) (.ret (vi 7)) (.obi (.obi (.obi (.br (bif jv4 (f6 x8.toNat) == 0 then jv5 (f6 x8.toNat) == 0 else false) (.ret (vi 2)) (.ret (vi 0)))))))))) (.ret (vi 7))))))) (.ret (vi 7))))))) (.ret (vi 7))))))
def m73 (n0:Nat) (f0:FnV) (n2:Nat) (f2:FnV) (n4:Nat) (f4:FnV) (n6:Nat) (f6:FnV) (x8:Int):RT S73:=.ob (decide (0<=x8/\x8 < (↑n6:Int))) (.obp ((sv (hdV (f6 x8.toNat))).size<=(9223372036854775807:Nat)) (.obt (.br (!iS (sv (hdV (f6 x8.toNat)))) (.ret (vi 6)) (.enter [some (some 1),some (some 0)] (S73.L0 (0)) []))))
theorem TL (n0:Nat) (f0:FnV) (n2:Nat) (f2:FnV) (n4:Nat) (f4:FnV) (n6:Nat) (f6:FnV) (x8:Int):dw Ar u0 (D73 n0 f0 n2 f2 n4 f4 n6 f6 x8) (T8 n0 f0 n2 f2 n4 f4 n6 f6 x8) (m73 n0 f0 n2 f2 n4 f4 n6 f6 x8) (H3 n0 f0 n2 f2 n4 f4 n6 f6 x8):=⟨⟨by kernel_rfl,by kernel_rfl⟩,fun s=>by cases s <;> exact ⟨by kernel_rfl,by kernel_rfl⟩⟩
def JZ (x y h dx dy:Int):Int:=bif bif bif bif !F51 2 (elV tp1 (bA [V.int .i64 x,V.int .i64 y] 0 ((1+1 - 0) / 2))) then true else !cq h 1 200 then true else !cq dx (-1000) 1000 then true else !cq dy (-1000) 1000 then 7 else bif bif dx == 0 then dy == 0 else false then 2 else 0
def F73 (n6:Nat) (f6:FnV) (x8:Int):Int:=bif !iS (sv (hdV (f6 x8.toNat))) then 6 else bif exB x8.toNat (fun k=>(sv (hdV (f6 k))).toList == (sv (hdV (f6 x8.toNat))).toList) then 5 else JZ (jv1 (f6 x8.toNat)) (jv2 (f6 x8.toNat)) (jv3 (f6 x8.toNat)) (jv4 (f6 x8.toNat)) (jv5 (f6 x8.toNat))
theorem RB (n0:Nat) (f0:FnV) (n2:Nat) (f2:FnV) (n4:Nat) (f4:FnV) (n6:Nat) (f6:FnV) (x8:Int) (hp:0<=x8/\x8 < n6/\n6<=9223372036854775807/\aI n6 f6):evR (Ev (H3 n0 f0 n2 f2 n4 f4 n6 f6 x8)) (m73 n0 f0 n2 f2 n4 f4 n6 f6 x8) (.int .i64 (F73 n6 f6 x8)):=by
 obtain ⟨h0,h1,h2,h3⟩:=hp
 obtain ⟨k,rfl⟩:∃ k:Nat,x8=(k:Int):=⟨x8.toNat,by omega⟩
 have hk:k < n6:=by omega
 refine yac hk (aO (h3 k hk) (ac ?_))
 unfold F73
 simp only [Int.toNat_natCast]
 refine aw (fun h=>ah (by rw [show (!iS (sv (hdV (f6 k))))=true from h]; rfl)) (fun h=>?_)
 rw [show (!iS (sv (hdV (f6 k))))=false from h,cond_false]
 refine aD (fL (n:=k) (by omega) (fun i=>(sv (hdV (f6 i))).toList == (sv (hdV (f6 k))).toList) (P:=fun i=>Ev (H3 n0 f0 n2 f2 n4 f4 n6 f6 (k:Int)) (.L0 i) _) (fun i hlt hj next=>Ev.of rfl (bK hlt (yac (by omega) (aw (fun hb=>ah ?_) (fun hb=>aR (next hb))))))
  (fun hj=>Ev.of rfl (bu ?_)))
 ·rw [bC i hlt hb]; rfl
 ·rw [bm hj,cond_false]
  unfold JZ
  refine ao (ac (ak (aw (fun h=>aH h (ao (ac (ak (aw (fun h'=>aH h' (ao (ac (ak (aw (fun h''=>aH h'' (ao (ac (aw (fun h3=>ah ?_) (fun h3=>?_))))) (fun h''=>ah ?_)))))) (fun h'=>ah ?_)))))) (fun h=>ah ?_))))
  all_goals try simp only [Int.toNat_natCast] at *
  ·rw [ng h,ng h',ng h'',h3]; rfl
  ·rw [ng h,ng h',ng h'',h3]
   repeat refine ak ?_
   refine aw (fun h4=>ah ?_) (fun h4=>ah ?_) <;> (simp only [cond_false]; rw [h4]; rfl)
  ·rw [ng h,ng h',ng' h'']; rfl
  ·rw [ng h,ng' h']; rfl
  ·rw [ng' h]; rfl
theorem Zn (n0:Nat) (f0:FnV) (n2:Nat) (f2:FnV) (n4:Nat) (f4:FnV) (n6:Nat) (f6:FnV) (x8:Int) (hp:0<=x8/\x8 < n6/\n6<=9223372036854775807/\aI n6 (elV tyC f6)):evR (Ev (H3 n0 f0 n2 f2 n4 f4 n6 f6 x8)) (m73 n0 f0 n2 f2 n4 f4 n6 f6 x8) (.int .i64 (F73 n6 (elV tyC f6) x8)):=RB n0 f0 n2 f2 n4 f4 n6 f6 x8 hp
def C73:ap:=mkC [.agg [.sl tyR,.sl tyT,.sl tyF,.sl tyC],.int .i64] (fun
 | [.agg [.sl n0 f0,.sl n2 f2,.sl n4 f4,.sl n6 f6],.int _ x8]=>0<=x8/\x8 < n6/\n6<=9223372036854775807/\aI n6 f6
 | _=>False) fun
 | [.agg [.sl n0 f0,.sl n2 f2,.sl n4 f4,.sl n6 f6],.int _ x8]=>.int .i64 (F73 n6 f6 x8)
 | _=>.any
theorem UK:(vP C73).Ok Tryz.prog 150:=mkE Aj Tryz.func150 (by kernel_rfl) fun ds hp=>rfs (TL ..) (Zn _ _ _ _ _ _ _ _ _ hp)
def mH:aY:=(211,.inl WN u0)::(210,.inl S6 u0)::(209,.con Po)::(207,.con Re)::(150,.con C73)::Ar
theorem wJ:aQ Tryz.prog eqs its mH:=.inl Tryz.func211 (by kernel_rfl) (by kernel_rfl) (by kernel_rfl) (.inl Tryz.func210 (by kernel_rfl) (by kernel_rfl) (by kernel_rfl) (.con LW (.con Nz (.con UK (Aj)))))
inductive S63 where
 | L0 (ia0:Int) (fa1:Nat->List V)
 | L1 (ib0:Int) (fb1:Nat->List V)
 | L2 (ic0:Int) (fc1:Nat->List V)
 | L3 (id0:Int) (fd1:Nat->List V)
 | L4 (ie0:Int) (ne1 ne2:Nat) (ie3 ie4 ie5:Int) (ne6:Nat) (ie7 ie8 ie9 ie10:Int) (fe11:Nat->List V)
 | L5 (if0:Int) (nf1 nf2:Nat) (if3 if4 if5:Int) (nf6:Nat) (if7 if8 if9 if10:Int) (ff11:Nat->List V)
 | L6 (ig0:Int) (ng1 ng2:Nat) (ig3 ig4 ig5:Int) (ng6:Nat) (ig7 ig8 ig9 ig10:Int) (fg11:Nat->List V)
 | L7 (ih0:Int) (nh1 nh2:Nat) (ih3 ih4 ih5:Int) (nh6:Nat) (ih7 ih8 ih9 ih10:Int) (fh11:Nat->List V)
def u4 (n0:Nat) (f0:FnV) (s2:ByteArray) (x3:Int) (n4:Nat) (f4:FnV) (x6:Int):S63->Env × List O × Option Ex
 | .L0 ia0 fa1=>([(3,vi ia0),(8,V.kb false),(7,vi (↑n4:Int)),(6,V.gs 2 n4),(2,V.ns),(0,V.gs 2 n4)],[O.cells [V.str s2,vi x3,V.sl n4 (elV tp2 f4),vi x6] 189,O.hid,O.gl 2 n4 (elV tp2 fa1) 45],none)
 | .L1 ib0 fb1=>([(3,vi ib0),(8,V.kb false),(7,vi (↑n4:Int)),(6,V.gs 2 n4),(2,V.ns),(0,V.gs 2 n4)],[O.cells [V.str s2,vi x3,V.sl n4 (elV tp2 f4),vi x6] 189,O.hid,O.gl 2 n4 (elV tp2 fb1) 45],none)
 | .L2 ic0 fc1=>([(3,vi ic0),(8,V.kb false),(7,vi (↑n4:Int)),(6,V.gs 2 n4),(2,V.ns),(0,V.gs 2 n4)],[O.cells [V.str s2,vi x3,V.sl n4 (elV tp2 f4),vi x6] 189,O.hid,O.gl 2 n4 (elV tp2 fc1) 45],none)
 | .L3 id0 fd1=>([(3,vi id0),(8,V.kb false),(7,vi (↑n4:Int)),(6,V.gs 2 n4),(2,V.ns),(0,V.gs 2 n4)],[O.cells [V.str s2,vi x3,V.sl n4 (elV tp2 f4),vi x6] 189,O.hid,O.gl 2 n4 (elV tp2 fd1) 45],none)
 | .L4 ie0 ne1 ne2 ie3 ie4 ie5 ne6 ie7 ie8 ie9 ie10 fe11=>([(5,vi ie0),(4,V.go 2 ne1 ne2),(28,V.go 2 ne1 ne2),(27,vi ie3),(26,V.gs 2 n4),(25,V.kb true),(24,V.agg [vi ie4,vi ie5]),(23,V.pe 2 ne6 0),(22,vi ie7),(21,vi ie3),(20,V.gs 2 n4),(19,V.agg [vi ie8,vi ie9]),(18,V.pe 2 ne1 0),(17,vi ie3),(16,V.gs 2 n4),(13,V.kb true),(12,vi (↑n4:Int)),(11,V.gs 2 n4),(10,vi ie3),(3,vi ie10),(8,V.kb false),(7,vi (↑n4:Int)),(6,V.gs 2 n4),(2,V.ns),(0,V.gs 2 n4)],[O.cells [V.str s2,vi x3,V.sl n4 (elV tp2 f4),vi x6] 189,O.hid,O.gl 2 n4 (elV tp2 fe11) 45],none)
 | .L5 if0 nf1 nf2 if3 if4 if5 nf6 if7 if8 if9 if10 ff11=>([(5,vi if0),(4,V.go 2 nf1 nf2),(28,V.go 2 nf1 nf2),(27,vi if3),(26,V.gs 2 n4),(25,V.kb true),(24,V.agg [vi if4,vi if5]),(23,V.pe 2 nf6 0),(22,vi if7),(21,vi if3),(20,V.gs 2 n4),(19,V.agg [vi if8,vi if9]),(18,V.pe 2 nf1 0),(17,vi if3),(16,V.gs 2 n4),(13,V.kb true),(12,vi (↑n4:Int)),(11,V.gs 2 n4),(10,vi if3),(3,vi if10),(8,V.kb false),(7,vi (↑n4:Int)),(6,V.gs 2 n4),(2,V.ns),(0,V.gs 2 n4)],[O.cells [V.str s2,vi x3,V.sl n4 (elV tp2 f4),vi x6] 189,O.hid,O.gl 2 n4 (elV tp2 ff11) 45],none)
 | .L6 ig0 ng1 ng2 ig3 ig4 ig5 ng6 ig7 ig8 ig9 ig10 fg11=>([(5,vi ig0),(4,V.go 2 ng1 ng2),(28,V.go 2 ng1 ng2),(27,vi ig3),(26,V.gs 2 n4),(25,V.kb true),(24,V.agg [vi ig4,vi ig5]),(23,V.pe 2 ng6 0),(22,vi ig7),(21,vi ig3),(20,V.gs 2 n4),(19,V.agg [vi ig8,vi ig9]),(18,V.pe 2 ng1 0),(17,vi ig3),(16,V.gs 2 n4),(13,V.kb true),(12,vi (↑n4:Int)),(11,V.gs 2 n4),(10,vi ig3),(3,vi ig10),(8,V.kb false),(7,vi (↑n4:Int)),(6,V.gs 2 n4),(2,V.ns),(0,V.gs 2 n4)],[O.cells [V.str s2,vi x3,V.sl n4 (elV tp2 f4),vi x6] 189,O.hid,O.gl 2 n4 (elV tp2 fg11) 45],none)
 | .L7 ih0 nh1 nh2 ih3 ih4 ih5 nh6 ih7 ih8 ih9 ih10 fh11=>([(5,vi ih0),(4,V.go 2 nh1 nh2),(28,V.go 2 nh1 nh2),(27,vi ih3),(26,V.gs 2 n4),(25,V.kb true),(24,V.agg [vi ih4,vi ih5]),(23,V.pe 2 nh6 0),(22,vi ih7),(21,vi ih3),(20,V.gs 2 n4),(19,V.agg [vi ih8,vi ih9]),(18,V.pe 2 nh1 0),(17,vi ih3),(16,V.gs 2 n4),(13,V.kb true),(12,vi (↑n4:Int)),(11,V.gs 2 n4),(10,vi ih3),(3,vi ih10),(8,V.kb false),(7,vi (↑n4:Int)),(6,V.gs 2 n4),(2,V.ns),(0,V.gs 2 n4)],[O.cells [V.str s2,vi x3,V.sl n4 (elV tp2 f4),vi x6] 189,O.hid,O.gl 2 n4 (elV tp2 fh11) 45],none)
def XW:S63->JJ
 | .L0 ia0 fa1=>(0,[])
 | .L1 ib0 fb1=>(1,[])
 | .L2 ic0 fc1=>(2,[])
 | .L3 id0 fd1=>(3,[])
 | .L4 ie0 ne1 ne2 ie3 ie4 ie5 ne6 ie7 ie8 ie9 ie10 fe11=>(4,[])
 | .L5 if0 nf1 nf2 if3 if4 if5 nf6 if7 if8 if9 if10 ff11=>(5,[])
 | .L6 ig0 ng1 ng2 ig3 ig4 ig5 ng6 ig7 ig8 ig9 ig10 fg11=>(6,[])
 | .L7 ih0 nh1 nh2 ih3 ih4 ih5 nh6 ih7 ih8 ih9 ih10 fh11=>(7,[])
def CM (n0:Nat) (f0:FnV) (s2:ByteArray) (x3:Int) (n4:Nat) (f4:FnV) (x6:Int):T (ck JJ):=aN JJ mH u0 s63 [V.sl n0 (elV tyR f0),V.agg [V.str s2,vi x3,V.sl n4 (elV tp2 f4),vi x6]]
def xi (n0:Nat) (f0:FnV) (s2:ByteArray) (x3:Int) (n4:Nat) (f4:FnV) (x6:Int) (cx:List Cx):Lp JJ:=lpT (atT (CM n0 f0 s2 x3 n4 f4 x6) [false,false,false,false,false,true,false,true,true,false,true,false])
def Cn (n0:Nat) (f0:FnV) (s2:ByteArray) (x3:Int) (n4:Nat) (f4:FnV) (x6:Int) (cx:List Cx):Lp JJ:=lpT (atT (CM n0 f0 s2 x3 n4 f4 x6) [false,false,false,false,false,true,false,true,true,false,false,false])
def B1 (n0:Nat) (f0:FnV) (s2:ByteArray) (x3:Int) (n4:Nat) (f4:FnV) (x6:Int) (cx:List Cx):Lp JJ:=lpT (atT (CM n0 f0 s2 x3 n4 f4 x6) [false,false,false,false,false,true,false,true,false,false,false])
def CZ (n0:Nat) (f0:FnV) (s2:ByteArray) (x3:Int) (n4:Nat) (f4:FnV) (x6:Int) (cx:List Cx):Lp JJ:=lpT (atT (CM n0 f0 s2 x3 n4 f4 x6) [false,false,false,false,false,true,false,false,false,false])
def O9 (n0:Nat) (f0:FnV) (s2:ByteArray) (x3:Int) (n4:Nat) (f4:FnV) (x6:Int) (cx:List Cx):Lp JJ:=lpT (atT (rdP mH u0 (0,[]) (xi n0 f0 s2 x3 n4 f4 x6 []) (u4 n0 f0 s2 x3 n4 f4 x6 (.L0 (0:Int) (fun _=>[])))) [true,true])
def SO (n0:Nat) (f0:FnV) (s2:ByteArray) (x3:Int) (n4:Nat) (f4:FnV) (x6:Int) (cx:List Cx):Lp JJ:=lpT (atT (rdP mH u0 (1,[]) (Cn n0 f0 s2 x3 n4 f4 x6 []) (u4 n0 f0 s2 x3 n4 f4 x6 (.L1 (0:Int) (fun _=>[])))) [true,true])
def RX (n0:Nat) (f0:FnV) (s2:ByteArray) (x3:Int) (n4:Nat) (f4:FnV) (x6:Int) (cx:List Cx):Lp JJ:=lpT (atT (rdP mH u0 (2,[]) (B1 n0 f0 s2 x3 n4 f4 x6 []) (u4 n0 f0 s2 x3 n4 f4 x6 (.L2 (0:Int) (fun _=>[])))) [true,true])
def SN (n0:Nat) (f0:FnV) (s2:ByteArray) (x3:Int) (n4:Nat) (f4:FnV) (x6:Int) (cx:List Cx):Lp JJ:=lpT (atT (rdP mH u0 (3,[]) (CZ n0 f0 s2 x3 n4 f4 x6 []) (u4 n0 f0 s2 x3 n4 f4 x6 (.L3 (0:Int) (fun _=>[])))) [true,true])
def Zr (n0:Nat) (f0:FnV) (s2:ByteArray) (x3:Int) (n4:Nat) (f4:FnV) (x6:Int):JJ->Lp JJ
 | (0,cx)=>xi n0 f0 s2 x3 n4 f4 x6 cx
 | (1,cx)=>Cn n0 f0 s2 x3 n4 f4 x6 cx
 | (2,cx)=>B1 n0 f0 s2 x3 n4 f4 x6 cx
 | (3,cx)=>CZ n0 f0 s2 x3 n4 f4 x6 cx
 | (4,cx)=>O9 n0 f0 s2 x3 n4 f4 x6 cx
 | (5,cx)=>SO n0 f0 s2 x3 n4 f4 x6 cx
 | (6,cx)=>RX n0 f0 s2 x3 n4 f4 x6 cx
 | (7,cx)=>SN n0 f0 s2 x3 n4 f4 x6 cx
 | (_,cx)=>xi n0 f0 s2 x3 n4 f4 x6 cx
def D63 (n0:Nat) (f0:FnV) (s2:ByteArray) (x3:Int) (n4:Nat) (f4:FnV) (x6:Int):LD JJ S63:=⟨XW,Zr n0 f0 s2 x3 n4 f4 x6,u4 n0 f0 s2 x3 n4 f4 x6⟩
def lC (n0:Nat) (f0:FnV) (s2:ByteArray) (x3:Int) (n4:Nat) (f4:FnV) (x6:Int):S63->RT S63
 | .L0 ia0 fa1=>.br (decide (ia0 < (↑n4:Int))) (.ob (decide (0<=ia0/\ia0 < (↑n4:Int)/\n4<=n4)) (.ob (decide (ia0.toNat < n4)) (.ob (decide (0<=i64.wrap (ia0 - 1)/\i64.wrap (ia0 - 1) < (↑n4:Int)/\n4<=n4)) (.ob (decide ((i64.wrap (ia0 - 1)).toNat < n4)) (.br (jv0 (fa1 ia0.toNat) == jv0 (fa1 (i64.wrap (ia0 - 1)).toNat) && (jv1 (fa1 ia0.toNat) == jv1 (fa1 (i64.wrap (ia0 - 1)).toNat) && true)) (.ob (decide (0<=ia0/\ia0<=(↑n4:Int))) (.enter (iR 0 3 []) (S63.L4 (1) (ia0.toNat) (n4 - ia0.toNat) (ia0) (jv0 (fa1 (i64.wrap (ia0 - 1)).toNat)) (jv1 (fa1 (i64.wrap (ia0 - 1)).toNat)) ((i64.wrap (ia0 - 1)).toNat) (i64.wrap (ia0 - 1)) (jv0 (fa1 ia0.toNat)) (jv1 (fa1 ia0.toNat)) (ia0) (elV tp2 fa1)) [⟨2,tp2,n4,elV tp2 fa1,bZ rfl _ _⟩])) (.next (iR 0 3 []) (S63.L0 (i64.wrap (ia0+1)) (elV tp2 fa1)) [⟨2,tp2,n4,elV tp2 fa1,bZ rfl _ _⟩])))))) (.asm (true=true->n4<=9223372036854775807) (.br (decide ((↑n4:Int) < (↑n4:Int))) (.ret (vi 2)) (.obi (.obi (.asm ((x3 == 3)=true->n4<=9223372036854775807) (.obi (.obi (.br (bif x3 == 3 then decide (2 < (↑n4:Int)) else false) (.ret (vi 2)) (.ret (vi 0))))))))))
 | .L1 ib0 fb1=>.br (decide (ib0 < (↑n4:Int))) (.ob (decide (0<=ib0/\ib0 < (↑n4:Int)/\n4<=n4)) (.ob (decide (ib0.toNat < n4)) (.ob (decide (0<=i64.wrap (ib0 - 1)/\i64.wrap (ib0 - 1) < (↑n4:Int)/\n4<=n4)) (.ob (decide ((i64.wrap (ib0 - 1)).toNat < n4)) (.br (jv0 (fb1 ib0.toNat) == jv0 (fb1 (i64.wrap (ib0 - 1)).toNat) && (jv1 (fb1 ib0.toNat) == jv1 (fb1 (i64.wrap (ib0 - 1)).toNat) && true)) (.ob (decide (0<=ib0/\ib0<=(↑n4:Int))) (.enter (iR 0 3 []) (S63.L5 (1) (ib0.toNat) (n4 - ib0.toNat) (ib0) (jv0 (fb1 (i64.wrap (ib0 - 1)).toNat)) (jv1 (fb1 (i64.wrap (ib0 - 1)).toNat)) ((i64.wrap (ib0 - 1)).toNat) (i64.wrap (ib0 - 1)) (jv0 (fb1 ib0.toNat)) (jv1 (fb1 ib0.toNat)) (ib0) (elV tp2 fb1)) [⟨2,tp2,n4,elV tp2 fb1,bZ rfl _ _⟩])) (.next (iR 0 3 []) (S63.L1 (i64.wrap (ib0+1)) (elV tp2 fb1)) [⟨2,tp2,n4,elV tp2 fb1,bZ rfl _ _⟩])))))) (.br (decide ((↑n4:Int) < (↑n4:Int))) (.ret (vi 2)) (.obi (.obi (.asm ((x3 == 3)=true->n4<=9223372036854775807) (.obi (.obi (.br (bif x3 == 3 then decide (2 < (↑n4:Int)) else false) (.ret (vi 2)) (.ret (vi 0)))))))))
 | .L2 ic0 fc1=>.br (decide (ic0 < (↑n4:Int))) (.ob (decide (0<=ic0/\ic0 < (↑n4:Int)/\n4<=n4)) (.ob (decide (ic0.toNat < n4)) (.ob (decide (0<=i64.wrap (ic0 - 1)/\i64.wrap (ic0 - 1) < (↑n4:Int)/\n4<=n4)) (.ob (decide ((i64.wrap (ic0 - 1)).toNat < n4)) (.br (jv0 (fc1 ic0.toNat) == jv0 (fc1 (i64.wrap (ic0 - 1)).toNat) && (jv1 (fc1 ic0.toNat) == jv1 (fc1 (i64.wrap (ic0 - 1)).toNat) && true)) (.ob (decide (0<=ic0/\ic0<=(↑n4:Int))) (.enter (iR 0 3 []) (S63.L6 (1) (ic0.toNat) (n4 - ic0.toNat) (ic0) (jv0 (fc1 (i64.wrap (ic0 - 1)).toNat)) (jv1 (fc1 (i64.wrap (ic0 - 1)).toNat)) ((i64.wrap (ic0 - 1)).toNat) (i64.wrap (ic0 - 1)) (jv0 (fc1 ic0.toNat)) (jv1 (fc1 ic0.toNat)) (ic0) (elV tp2 fc1)) [⟨2,tp2,n4,elV tp2 fc1,bZ rfl _ _⟩])) (.next (iR 0 3 []) (S63.L2 (i64.wrap (ic0+1)) (elV tp2 fc1)) [⟨2,tp2,n4,elV tp2 fc1,bZ rfl _ _⟩])))))) (.br (decide ((↑n4:Int) < (↑n4:Int))) (.ret (vi 2)) (.obi (.obi (.asm ((x3 == 3)=true->n4<=9223372036854775807) (.obi (.obi (.br (bif x3 == 3 then decide (2 < (↑n4:Int)) else false) (.ret (vi 2)) (.ret (vi 0)))))))))
 | .L3 id0 fd1=>.br (decide (id0 < (↑n4:Int))) (.ob (decide (0<=id0/\id0 < (↑n4:Int)/\n4<=n4)) (.ob (decide (id0.toNat < n4)) (.ob (decide (0<=i64.wrap (id0 - 1)/\i64.wrap (id0 - 1) < (↑n4:Int)/\n4<=n4)) (.ob (decide ((i64.wrap (id0 - 1)).toNat < n4)) (.br (jv0 (fd1 id0.toNat) == jv0 (fd1 (i64.wrap (id0 - 1)).toNat) && (jv1 (fd1 id0.toNat) == jv1 (fd1 (i64.wrap (id0 - 1)).toNat) && true)) (.ob (decide (0<=id0/\id0<=(↑n4:Int))) (.enter (iR 0 3 []) (S63.L7 (1) (id0.toNat) (n4 - id0.toNat) (id0) (jv0 (fd1 (i64.wrap (id0 - 1)).toNat)) (jv1 (fd1 (i64.wrap (id0 - 1)).toNat)) ((i64.wrap (id0 - 1)).toNat) (i64.wrap (id0 - 1)) (jv0 (fd1 id0.toNat)) (jv1 (fd1 id0.toNat)) (id0) (elV tp2 fd1)) [⟨2,tp2,n4,elV tp2 fd1,bZ rfl _ _⟩])) (.next (iR 0 3 []) (S63.L3 (i64.wrap (id0+1)) (elV tp2 fd1)) [⟨2,tp2,n4,elV tp2 fd1,bZ rfl _ _⟩])))))) (.br (decide ((↑n4:Int) < (↑n4:Int))) (.ret (vi 2)) (.obi (.obi (.asm ((x3 == 3)=true->n4<=9223372036854775807) (.obi (.obi (.br (bif x3 == 3 then decide (2 < (↑n4:Int)) else false) (.ret (vi 2)) (.ret (vi 0)))))))))
 | .L4 ie0 ne1 ne2 ie3 ie4 ie5 ne6 ie7 ie8 ie9 ie10 fe11=>.br (decide (ie0 < (↑ne2:Int))) (.ob (decide (0<=ie0/\ie0 < (↑ne2:Int)/\ne1+ne2<=n4)) (.ob (decide (ne1+ie0.toNat < n4)) (.ob (decide (0<=i64.wrap (ie0 - 1)/\i64.wrap (ie0 - 1) < (↑ne2:Int)/\ne1+ne2<=n4)) (.ob (decide (ne1+(i64.wrap (ie0 - 1)).toNat < n4)) (.br (!(jv0 (fe11 (ne1+ie0.toNat)) == jv0 (fe11 (ne1+(i64.wrap (ie0 - 1)).toNat)) && (jv1 (fe11 (ne1+ie0.toNat)) == jv1 (fe11 (ne1+(i64.wrap (ie0 - 1)).toNat)) && true))) (.ob (decide (0<=ie0/\ie0 < (↑ne2:Int)/\ne1+ne2<=n4)) (.ob (decide (ne1+ie0.toNat < n4)) (.ob (decide (0<=ie10/\ie10 < (↑n4:Int)/\n4<=n4)) (.ob (decide (ie10.toNat < n4)) (.next (iR 0 3 []) (S63.L4 (i64.wrap (ie0+1)) (ne1) (ne2) (ie3) (ie4) (ie5) (ne6) (ie7) (ie8) (ie9) (i64.wrap (ie10+1)) (fun i'=>bif i'.beq ie10.toNat then [vi (jv0 (fe11 (ne1+ie0.toNat))),vi (jv1 (fe11 (ne1+ie0.toNat)))] else elV tp2 fe11 i')) [⟨2,tp2,n4,fun i'=>bif i'.beq ie10.toNat then [vi (jv0 (fe11 (ne1+ie0.toNat))),vi (jv1 (fe11 (ne1+ie0.toNat)))] else elV tp2 fe11 i',tp rfl (bZ rfl _ _) rfl⟩]))))) (.next (iR 0 3 []) (S63.L4 (i64.wrap (ie0+1)) (ne1) (ne2) (ie3) (ie4) (ie5) (ne6) (ie7) (ie8) (ie9) (ie10) (elV tp2 fe11)) [⟨2,tp2,n4,elV tp2 fe11,bZ rfl _ _⟩])))))) (.ob (decide (0<=ie10/\ie10<=(↑n4:Int))) (.ob (decide (0 < n4 - ie10.toNat/\ie10.toNat+(n4 - ie10.toNat)<=n4)) (.ob (decide (0<=ie10/\ie10<=(↑n4:Int))) (.asm (true=true->n4<=9223372036854775807) (.br (decide ((↑ie10.toNat:Int) < (↑n4:Int))) (.ret (vi 2)) (.obi (.obi (.asm ((x3 == 3)=true->n4<=9223372036854775807) (.obi (.obi (.br (bif x3 == 3 then decide (2 < (↑n4:Int)) else false) (.ret (vi 2)) (.ret (vi 0)))))))))))))
 | .L5 if0 nf1 nf2 if3 if4 if5 nf6 if7 if8 if9 if10 ff11=>.br (decide (if0 < (↑nf2:Int))) (.ob (decide (0<=if0/\if0 < (↑nf2:Int)/\nf1+nf2<=n4)) (.ob (decide (nf1+if0.toNat < n4)) (.ob (decide (0<=i64.wrap (if0 - 1)/\i64.wrap (if0 - 1) < (↑nf2:Int)/\nf1+nf2<=n4)) (.ob (decide (nf1+(i64.wrap (if0 - 1)).toNat < n4)) (.br (!(jv0 (ff11 (nf1+if0.toNat)) == jv0 (ff11 (nf1+(i64.wrap (if0 - 1)).toNat)) && (jv1 (ff11 (nf1+if0.toNat)) == jv1 (ff11 (nf1+(i64.wrap (if0 - 1)).toNat)) && true))) (.ob (decide (0<=if0/\if0 < (↑nf2:Int)/\nf1+nf2<=n4)) (.ob (decide (nf1+if0.toNat < n4)) (.ob (decide (0<=if10/\if10 < (↑n4:Int)/\n4<=n4)) (.ob (decide (if10.toNat < n4)) (.next (iR 0 3 []) (S63.L5 (i64.wrap (if0+1)) (nf1) (nf2) (if3) (if4) (if5) (nf6) (if7) (if8) (if9) (i64.wrap (if10+1)) (fun i'=>bif i'.beq if10.toNat then [vi (jv0 (ff11 (nf1+if0.toNat))),vi (jv1 (ff11 (nf1+if0.toNat)))] else elV tp2 ff11 i')) [⟨2,tp2,n4,fun i'=>bif i'.beq if10.toNat then [vi (jv0 (ff11 (nf1+if0.toNat))),vi (jv1 (ff11 (nf1+if0.toNat)))] else elV tp2 ff11 i',tp rfl (bZ rfl _ _) rfl⟩]))))) (.next (iR 0 3 []) (S63.L5 (i64.wrap (if0+1)) (nf1) (nf2) (if3) (if4) (if5) (nf6) (if7) (if8) (if9) (if10) (elV tp2 ff11)) [⟨2,tp2,n4,elV tp2 ff11,bZ rfl _ _⟩])))))) (.ob (decide (0<=if10/\if10<=(↑n4:Int))) (.ob (decide (0 < n4 - if10.toNat/\if10.toNat+(n4 - if10.toNat)<=n4)) (.ob (decide (0<=if10/\if10<=(↑n4:Int))) (.br (decide ((↑if10.toNat:Int) < (↑n4:Int))) (.ret (vi 2)) (.obi (.obi (.asm ((x3 == 3)=true->n4<=9223372036854775807) (.obi (.obi (.br (bif x3 == 3 then decide (2 < (↑n4:Int)) else false) (.ret (vi 2)) (.ret (vi 0))))))))))))
 | .L6 ig0 ng1 ng2 ig3 ig4 ig5 ng6 ig7 ig8 ig9 ig10 fg11=>.br (decide (ig0 < (↑ng2:Int))) (.ob (decide (0<=ig0/\ig0 < (↑ng2:Int)/\ng1+ng2<=n4)) (.ob (decide (ng1+ig0.toNat < n4)) (.ob (decide (0<=i64.wrap (ig0 - 1)/\i64.wrap (ig0 - 1) < (↑ng2:Int)/\ng1+ng2<=n4)) (.ob (decide (ng1+(i64.wrap (ig0 - 1)).toNat < n4)) (.br (!(jv0 (fg11 (ng1+ig0.toNat)) == jv0 (fg11 (ng1+(i64.wrap (ig0 - 1)).toNat)) && (jv1 (fg11 (ng1+ig0.toNat)) == jv1 (fg11 (ng1+(i64.wrap (ig0 - 1)).toNat)) && true))) (.ob (decide (0<=ig0/\ig0 < (↑ng2:Int)/\ng1+ng2<=n4)) (.ob (decide (ng1+ig0.toNat < n4)) (.ob (decide (0<=ig10/\ig10 < (↑n4:Int)/\n4<=n4)) (.ob (decide (ig10.toNat < n4)) (.next (iR 0 3 []) (S63.L6 (i64.wrap (ig0+1)) (ng1) (ng2) (ig3) (ig4) (ig5) (ng6) (ig7) (ig8) (ig9) (i64.wrap (ig10+1)) (fun i'=>bif i'.beq ig10.toNat then [vi (jv0 (fg11 (ng1+ig0.toNat))),vi (jv1 (fg11 (ng1+ig0.toNat)))] else elV tp2 fg11 i')) [⟨2,tp2,n4,fun i'=>bif i'.beq ig10.toNat then [vi (jv0 (fg11 (ng1+ig0.toNat))),vi (jv1 (fg11 (ng1+ig0.toNat)))] else elV tp2 fg11 i',tp rfl (bZ rfl _ _) rfl⟩]))))) (.next (iR 0 3 []) (S63.L6 (i64.wrap (ig0+1)) (ng1) (ng2) (ig3) (ig4) (ig5) (ng6) (ig7) (ig8) (ig9) (ig10) (elV tp2 fg11)) [⟨2,tp2,n4,elV tp2 fg11,bZ rfl _ _⟩])))))) (.ob (decide (0<=ig10/\ig10<=(↑n4:Int))) (.ob (decide (0 < n4 - ig10.toNat/\ig10.toNat+(n4 - ig10.toNat)<=n4)) (.ob (decide (0<=ig10/\ig10<=(↑n4:Int))) (.br (decide ((↑ig10.toNat:Int) < (↑n4:Int))) (.ret (vi 2)) (.obi (.obi (.asm ((x3 == 3)=true->n4<=9223372036854775807) (.obi (.obi (.br (bif x3 == 3 then decide (2 < (↑n4:Int)) else false) (.ret (vi 2)) (.ret (vi 0))))))))))))
 | .L7 ih0 nh1 nh2 ih3 ih4 ih5 nh6 ih7 ih8 ih9 ih10 fh11=>.br (decide (ih0 < (↑nh2:Int))) (.ob (decide (0<=ih0/\ih0 < (↑nh2:Int)/\nh1+nh2<=n4)) (.ob (decide (nh1+ih0.toNat < n4)) (.ob (decide (0<=i64.wrap (ih0 - 1)/\i64.wrap (ih0 - 1) < (↑nh2:Int)/\nh1+nh2<=n4)) (.ob (decide (nh1+(i64.wrap (ih0 - 1)).toNat < n4)) (.br (!(jv0 (fh11 (nh1+ih0.toNat)) == jv0 (fh11 (nh1+(i64.wrap (ih0 - 1)).toNat)) && (jv1 (fh11 (nh1+ih0.toNat)) == jv1 (fh11 (nh1+(i64.wrap (ih0 - 1)).toNat)) && true))) (.ob (decide (0<=ih0/\ih0 < (↑nh2:Int)/\nh1+nh2<=n4)) (.ob (decide (nh1+ih0.toNat < n4)) (.ob (decide (0<=ih10/\ih10 < (↑n4:Int)/\n4<=n4)) (.ob (decide (ih10.toNat < n4)) (.next (iR 0 3 []) (S63.L7 (i64.wrap (ih0+1)) (nh1) (nh2) (ih3) (ih4) (ih5) (nh6) (ih7) (ih8) (ih9) (i64.wrap (ih10+1)) (fun i'=>bif i'.beq ih10.toNat then [vi (jv0 (fh11 (nh1+ih0.toNat))),vi (jv1 (fh11 (nh1+ih0.toNat)))] else elV tp2 fh11 i')) [⟨2,tp2,n4,fun i'=>bif i'.beq ih10.toNat then [vi (jv0 (fh11 (nh1+ih0.toNat))),vi (jv1 (fh11 (nh1+ih0.toNat)))] else elV tp2 fh11 i',tp rfl (bZ rfl _ _) rfl⟩]))))) (.next (iR 0 3 []) (S63.L7 (i64.wrap (ih0+1)) (nh1) (nh2) (ih3) (ih4) (ih5) (nh6) (ih7) (ih8) (ih9) (ih10) (elV tp2 fh11)) [⟨2,tp2,n4,elV tp2 fh11,bZ rfl _ _⟩])))))) (.ob (decide (0<=ih10/\ih10<=(↑n4:Int))) (.ob (decide (0 < n4 - ih10.toNat/\ih10.toNat+(n4 - ih10.toNat)<=n4)) (.ob (decide (0<=ih10/\ih10<=(↑n4:Int))) (.br (decide ((↑ih10.toNat:Int) < (↑n4:Int))) (.ret (vi 2)) (.obi (.obi (.asm ((x3 == 3)=true->n4<=9223372036854775807) (.obi (.obi (.br (bif x3 == 3 then decide (2 < (↑n4:Int)) else false) (.ret (vi 2)) (.ret (vi 0))))))))))))
def m63 (n0:Nat) (f0:FnV) (s2:ByteArray) (x3:Int) (n4:Nat) (f4:FnV) (x6:Int):RT S63:=.obp (s2.size<=(9223372036854775807:Nat)) (.obt (.br (!jD s2) (.ret (vi 6)) (.obc (.obt (.br (nZ n0 (elV tyR f0) s2) (.ret (vi 5)) (.obc (.obt (.br (ba x3 0 3) (.ret (vi 2)) (.asm (true=true->n4<=9223372036854775807) (.br (decide ((↑n4:Int) < 2)) (.ret (vi 4)) (.asm (true=true->n4<=9223372036854775807) (.br (decide (8 < (↑n4:Int))) (.ret (vi 3)) (.obc (.obt (.obi (.br (!gN n4 (elV tp2 f4)) (.ob (!gN n4 (elV tp2 f4)) (.obc (.obt (.br (ba x6 100 30000) (.ret (vi 7)) (.und (.und (.und (.asm (n4=0) (.und (.brt (.asm (true=true->n4<=9223372036854775807) (.br (decide (0 < (↑n4:Int))) (.ret (vi 2)) (.obi (.obi (.asm ((x3 == 3)=true->n4<=9223372036854775807) (.obi (.obi (.br (bif x3 == 3 then decide (2 < (↑n4:Int)) else false) (.ret (vi 2)) (.ret (vi 0))))))))))) (.asm (true=true->n4<=9223372036854775807) (.brt (.br (decide (0 < (↑n4:Int))) (.ret (vi 2)) (.obi (.obi (.asm ((x3 == 3)=true->n4<=9223372036854775807) (.obi (.obi (.br (bif x3 == 3 then decide (2 < (↑n4:Int)) else false) (.ret (vi 2)) (.ret (vi 0))))))))))))) (.obv (bL n4 fun i=>okE 2 (elV tp2 f4 i)) (tO rfl _ _) (.ob (decide (n4 * 16<=140737488355328) && !Nat.beq 16 0) (.und (.br (decide ((↑n4:Int) < 2)) (.asm (true=true->n4<=9223372036854775807) (.br (decide ((↑n4:Int) < (↑n4:Int))) (.ret (vi 2)) (.obi (.obi (.asm ((x3 == 3)=true->n4<=9223372036854775807) (.obi (.obi (.br (bif x3 == 3 then decide (2 < (↑n4:Int)) else false) (.ret (vi 2)) (.ret (vi 0)))))))))) (.enter (iR 0 3 []) (S63.L0 (1) (elV tp2 f4)) [⟨2,tp2,n4,elV tp2 f4,bZ rfl _ _⟩])) (.asm (true=true->n4<=9223372036854775807) (.br (decide ((↑n4:Int) < 2)) (.br (decide ((↑n4:Int) < (↑n4:Int))) (.ret (vi 2)) (.obi (.obi (.asm ((x3 == 3)=true->n4<=9223372036854775807) (.obi (.obi (.br (bif x3 == 3 then decide (2 < (↑n4:Int)) else false) (.ret (vi 2)) (.ret (vi 0))))))))) (.enter (iR 0 3 []) (S63.L1 (1) (elV tp2 f4)) [⟨2,tp2,n4,elV tp2 f4,bZ rfl _ _⟩]))))))) (.asm (true=true->n4<=9223372036854775807) (.und (.asm (n4=0) (.brt (.br (decide (0 < (↑n4:Int))) (.ret (vi 2)) (.obi (.obi (.asm ((x3 == 3)=true->n4<=9223372036854775807) (.obi (.obi (.br (bif x3 == 3 then decide (2 < (↑n4:Int)) else false) (.ret (vi 2)) (.ret (vi 0))))))))))) (.obv (bL n4 fun i=>okE 2 (elV tp2 f4 i)) (tO rfl _ _) (.ob (decide (n4 * 16<=140737488355328) && !Nat.beq 16 0) (.br (decide ((↑n4:Int) < 2)) (.br (decide ((↑n4:Int) < (↑n4:Int))) (.ret (vi 2)) (.obi (.obi (.asm ((x3 == 3)=true->n4<=9223372036854775807) (.obi (.obi (.br (bif x3 == 3 then decide (2 < (↑n4:Int)) else false) (.ret (vi 2)) (.ret (vi 0))))))))) (.enter (iR 0 3 []) (S63.L2 (1) (elV tp2 f4)) [⟨2,tp2,n4,elV tp2 f4,bZ rfl _ _⟩]))))))) (.asm (true=true->n4<=9223372036854775807) (.und (.asm (n4=0) (.brt (.br (decide (0 < (↑n4:Int))) (.ret (vi 2)) (.obi (.obi (.asm ((x3 == 3)=true->n4<=9223372036854775807) (.obi (.obi (.br (bif x3 == 3 then decide (2 < (↑n4:Int)) else false) (.ret (vi 2)) (.ret (vi 0))))))))))) (.obv (bL n4 fun i=>okE 2 (elV tp2 f4 i)) (tO rfl _ _) (.ob (decide (n4 * 16<=140737488355328) && !Nat.beq 16 0) (.br (decide ((↑n4:Int) < 2)) (.br (decide ((↑n4:Int) < (↑n4:Int))) (.ret (vi 2)) (.obi (.obi (.asm ((x3 == 3)=true->n4<=9223372036854775807) (.obi (.obi (.br (bif x3 == 3 then decide (2 < (↑n4:Int)) else false) (.ret (vi 2)) (.ret (vi 0))))))))) (.enter (iR 0 3 []) (S63.L3 (1) (elV tp2 f4)) [⟨2,tp2,n4,elV tp2 f4,bZ rfl _ _⟩]))))))))))) (.ret (vi 7))))))))))))))))))
theorem Uj (n0:Nat) (f0:FnV) (s2:ByteArray) (x3:Int) (n4:Nat) (f4:FnV) (x6:Int):dw mH u0 (D63 n0 f0 s2 x3 n4 f4 x6) (CM n0 f0 s2 x3 n4 f4 x6) (m63 n0 f0 s2 x3 n4 f4 x6) (lC n0 f0 s2 x3 n4 f4 x6):=⟨⟨by kernel_rfl,by kernel_rfl⟩,fun s=>by cases s <;> exact ⟨by kernel_rfl,by kernel_rfl⟩⟩
def eqP (f:Nat->List V) (i j:Nat):Bool:=jv0 (f i) == jv0 (f j) && (jv1 (f i) == jv1 (f j) && true)
def gR (n:Nat) (f:Nat->List V):Bool:=exB n fun i=>decide (0 < i) && eqP f i (i - 1)
def eG (x3:Int) (n4:Nat):Int:=bif bif x3 == 3 then decide (2 < (n4:Int)) else false then 2 else 0
def F63 (n0:Nat) (f0:FnV) (s2:ByteArray) (x3:Int) (n4:Nat) (f4:FnV) (x6:Int):Int:=bif !jD s2 then 6 else bif nZ n0 f0 s2 then 5 else bif ba x3 0 3 then 2 else bif decide ((n4:Int) < 2) then 4 else bif decide (8 < (n4:Int)) then 3 else bif !!gN n4 f4 then 7 else bif ba x6 100 30000 then 7 else bif gR n4 f4 then 2 else eG x3 n4
theorem iy {S:Type} {Nx:S->V->Prop} {x3:Int} {n4:Nat} {q:Prop}:evR Nx (.obi (.obi (.asm q (.obi (.obi (.br (bif x3 == 3 then decide (2 < (n4:Int)) else false) (.ret (.int .i64 2)) (.ret (.int .i64 0)))))))) (.int .i64 (eG x3 n4)):=by
 refine ak (ak (aE fun _=>ak (ak (aw (fun h=>ah ?_) (fun h=>ah ?_))))) <;> (unfold eG; rw [h]; rfl)
theorem W9 (n0:Nat) (f0:FnV) (s2:ByteArray) (x3:Int) (n4:Nat) (f4:FnV) (x6:Int) (h8:n4<=8) (k0:Nat) (hk:1<=k0) (hk':k0 < n4) (t1 t2 t3:Int) (t4:Nat) (t5 t6 t7:Int):∀ k2:Nat,k2<=n4 - k0->1<=k2->∀ (k:Nat) (f:Nat->List V),k+1<=k0+k2->Ev (lC n0 f0 s2 x3 n4 f4 x6) (.L4 k2 k0 (n4 - k0) t1 t2 t3 t4 t5 t6 t7 k f) (.int .i64 2):=by
 refine dF fun k2 hk2 ih h1 k f hkk=>Ev.of rfl ?_
 have w1:i64.wrap ((k2:Int) - 1)=((k2 - 1:Nat):Int):=by rw [bb (by omega) (by omega)]; omega
 have w2:i64.wrap ((k2:Int)+1)=((k2+1:Nat):Int):=by rw [bb (by omega) (by omega)]; omega
 have w3:i64.wrap ((k:Int)+1)=((k+1:Nat):Int):=by rw [bb (by omega) (by omega)]; omega
 refine aw (fun h=>?_) (fun h=>?_)
 ·have hlt:k2 < n4 - k0:=by have:=of_decide_eq_true h; omega
  refine aH (dqt (by omega)) (aH (dqt (by omega)) (aH (dqt (by rw [w1]; omega)) (aH (dqt (by rw [w1]; omega)) (aw (fun _=>?_) (fun _=>?_)))))
  ·refine aH (dqt (by omega)) (aH (dqt (by omega)) (aH (dqt (by omega)) (aH (dqt (by omega)) (aR ?_))))
   rw [w2,w3]
   exact ih hlt (by omega) (k+1) _ (by omega)
  ·refine aR ?_
   rw [w2]
   exact ih hlt (by omega) k _ (by omega)
 ·have hge:¬ k2 < n4 - k0:=by have:=of_decide_eq_false h; omega
  refine aH (dqt (by omega)) (aH (dqt (by omega)) (aH (dqt (by omega)) ?_))
  try refine aE fun _=>?_
  exact j6 (dqt (by omega)) (ah rfl)
theorem Ub (n0:Nat) (f0:FnV) (s2:ByteArray) (x3:Int) (n4:Nat) (f4:FnV) (x6:Int) (h8:n4<=8) (h2:2<=n4):∀ i:Nat,i<=n4->1<=i->(∀ j,j < i->(decide (0 < j) && eqP f4 j (j - 1))=false)->∀ f:Nat->List V,(∀ i j,eqP f i j=eqP f4 i j)->Ev (lC n0 f0 s2 x3 n4 f4 x6) (.L0 i f) (.int .i64 (bif gR n4 f4 then 2 else eG x3 n4)):=by
 refine dF fun i hi ih h1 hj f hf=>Ev.of rfl ?_
 have w1:i64.wrap ((i:Int) - 1)=((i - 1:Nat):Int):=by rw [bb (by omega) (by omega)]; omega
 have w2:i64.wrap ((i:Int)+1)=((i+1:Nat):Int):=by rw [bb (by omega) (by omega)]; omega
 refine aw (fun h=>?_) (fun h=>?_)
 ·have hlt:i < n4:=by have:=of_decide_eq_true h; omega
  refine aH (dqt (by omega)) (aH (dqt (by omega)) (aH (dqt (by rw [w1]; omega)) (aH (dqt (by rw [w1]; omega)) (aw (fun hb=>?_) (fun hb=>?_)))))
  ·have hb':eqP f4 i (i - 1)=true:=by
    rw [← hf]; rw [w1] at hb; simpa only [Int.toNat_natCast,eqP] using hb
   rw [show gR n4 f4=true from bC i hlt (by rw [hb']; simp; omega),cond_true]
   refine aH (dqt (by omega)) (aD ?_)
   have:=W9 n0 f0 s2 x3 n4 f4 x6 h8 i h1 hlt
   simp only [Int.toNat_natCast]
   exact this _ _ _ _ _ _ _ 1 (by omega) (by omega) i _ (by omega)
  ·have hb':eqP f4 i (i - 1)=false:=by
    rw [← hf]; rw [w1] at hb; simpa only [Int.toNat_natCast,eqP] using hb
   refine aR ?_
   rw [w2]
   refine ih hlt (by omega) (fun j h3=>?_) _ (fun a b=>hf a b)
   by_cases e:j=i
   ·subst e; rw [hb',Bool.and_false]
   ·exact hj j (by omega)
 ·have:i=n4:=by have:=of_decide_eq_false h; omega
  subst this
  rw [show gR i f4=false from bm hj,cond_false]
  try refine aE fun _=>?_
  exact bu iy
theorem Ru (n0:Nat) (f0:FnV) (s2:ByteArray) (x3:Int) (n4:Nat) (f4:FnV) (x6:Int) (h8:n4<=8) (h2:2<=n4) (f:Nat->List V) (hf:∀ i j,eqP f i j=eqP f4 i j):Ev (lC n0 f0 s2 x3 n4 f4 x6) (.L0 1 f) (.int .i64 (bif gR n4 f4 then 2 else eG x3 n4)):=Ub n0 f0 s2 x3 n4 f4 x6 h8 h2 1 (by omega) (Nat.le_refl _) (fun j hj=>by
 have:j=0:=by omega
 subst this; rfl) f hf
theorem UY (n0:Nat) (f0:FnV) (s2:ByteArray) (x3:Int) (n4:Nat) (f4:FnV) (x6:Int) (h8:n4<=8) (k0:Nat) (hk:1<=k0) (hk':k0 < n4) (t1 t2 t3:Int) (t4:Nat) (t5 t6 t7:Int):∀ k2:Nat,k2<=n4 - k0->1<=k2->∀ (k:Nat) (f:Nat->List V),k+1<=k0+k2->Ev (lC n0 f0 s2 x3 n4 f4 x6) (.L5 k2 k0 (n4 - k0) t1 t2 t3 t4 t5 t6 t7 k f) (.int .i64 2):=by
 refine dF fun k2 hk2 ih h1 k f hkk=>Ev.of rfl ?_
 have w1:i64.wrap ((k2:Int) - 1)=((k2 - 1:Nat):Int):=by rw [bb (by omega) (by omega)]; omega
 have w2:i64.wrap ((k2:Int)+1)=((k2+1:Nat):Int):=by rw [bb (by omega) (by omega)]; omega
 have w3:i64.wrap ((k:Int)+1)=((k+1:Nat):Int):=by rw [bb (by omega) (by omega)]; omega
 refine aw (fun h=>?_) (fun h=>?_)
 ·have hlt:k2 < n4 - k0:=by have:=of_decide_eq_true h; omega
  refine aH (dqt (by omega)) (aH (dqt (by omega)) (aH (dqt (by rw [w1]; omega)) (aH (dqt (by rw [w1]; omega)) (aw (fun _=>?_) (fun _=>?_)))))
  ·refine aH (dqt (by omega)) (aH (dqt (by omega)) (aH (dqt (by omega)) (aH (dqt (by omega)) (aR ?_))))
   rw [w2,w3]
   exact ih hlt (by omega) (k+1) _ (by omega)
  ·refine aR ?_
   rw [w2]
   exact ih hlt (by omega) k _ (by omega)
 ·have hge:¬ k2 < n4 - k0:=by have:=of_decide_eq_false h; omega
  refine aH (dqt (by omega)) (aH (dqt (by omega)) (aH (dqt (by omega)) ?_))
  try refine aE fun _=>?_
  exact j6 (dqt (by omega)) (ah rfl)
theorem VJ (n0:Nat) (f0:FnV) (s2:ByteArray) (x3:Int) (n4:Nat) (f4:FnV) (x6:Int) (h8:n4<=8) (h2:2<=n4):∀ i:Nat,i<=n4->1<=i->(∀ j,j < i->(decide (0 < j) && eqP f4 j (j - 1))=false)->∀ f:Nat->List V,(∀ i j,eqP f i j=eqP f4 i j)->Ev (lC n0 f0 s2 x3 n4 f4 x6) (.L1 i f) (.int .i64 (bif gR n4 f4 then 2 else eG x3 n4)):=by
 refine dF fun i hi ih h1 hj f hf=>Ev.of rfl ?_
 have w1:i64.wrap ((i:Int) - 1)=((i - 1:Nat):Int):=by rw [bb (by omega) (by omega)]; omega
 have w2:i64.wrap ((i:Int)+1)=((i+1:Nat):Int):=by rw [bb (by omega) (by omega)]; omega
 refine aw (fun h=>?_) (fun h=>?_)
 ·have hlt:i < n4:=by have:=of_decide_eq_true h; omega
  refine aH (dqt (by omega)) (aH (dqt (by omega)) (aH (dqt (by rw [w1]; omega)) (aH (dqt (by rw [w1]; omega)) (aw (fun hb=>?_) (fun hb=>?_)))))
  ·have hb':eqP f4 i (i - 1)=true:=by
    rw [← hf]; rw [w1] at hb; simpa only [Int.toNat_natCast,eqP] using hb
   rw [show gR n4 f4=true from bC i hlt (by rw [hb']; simp; omega),cond_true]
   refine aH (dqt (by omega)) (aD ?_)
   have:=UY n0 f0 s2 x3 n4 f4 x6 h8 i h1 hlt
   simp only [Int.toNat_natCast]
   exact this _ _ _ _ _ _ _ 1 (by omega) (by omega) i _ (by omega)
  ·have hb':eqP f4 i (i - 1)=false:=by
    rw [← hf]; rw [w1] at hb; simpa only [Int.toNat_natCast,eqP] using hb
   refine aR ?_
   rw [w2]
   refine ih hlt (by omega) (fun j h3=>?_) _ (fun a b=>hf a b)
   by_cases e:j=i
   ·subst e; rw [hb',Bool.and_false]
   ·exact hj j (by omega)
 ·have:i=n4:=by have:=of_decide_eq_false h; omega
  subst this
  rw [show gR i f4=false from bm hj,cond_false]
  try refine aE fun _=>?_
  exact bu iy
theorem ybg (n0:Nat) (f0:FnV) (s2:ByteArray) (x3:Int) (n4:Nat) (f4:FnV) (x6:Int) (h8:n4<=8) (h2:2<=n4) (f:Nat->List V) (hf:∀ i j,eqP f i j=eqP f4 i j):Ev (lC n0 f0 s2 x3 n4 f4 x6) (.L1 1 f) (.int .i64 (bif gR n4 f4 then 2 else eG x3 n4)):=VJ n0 f0 s2 x3 n4 f4 x6 h8 h2 1 (by omega) (Nat.le_refl _) (fun j hj=>by
 have:j=0:=by omega
 subst this; rfl) f hf
theorem Vr (n0:Nat) (f0:FnV) (s2:ByteArray) (x3:Int) (n4:Nat) (f4:FnV) (x6:Int) (h8:n4<=8) (k0:Nat) (hk:1<=k0) (hk':k0 < n4) (t1 t2 t3:Int) (t4:Nat) (t5 t6 t7:Int):∀ k2:Nat,k2<=n4 - k0->1<=k2->∀ (k:Nat) (f:Nat->List V),k+1<=k0+k2->Ev (lC n0 f0 s2 x3 n4 f4 x6) (.L6 k2 k0 (n4 - k0) t1 t2 t3 t4 t5 t6 t7 k f) (.int .i64 2):=by
 refine dF fun k2 hk2 ih h1 k f hkk=>Ev.of rfl ?_
 have w1:i64.wrap ((k2:Int) - 1)=((k2 - 1:Nat):Int):=by rw [bb (by omega) (by omega)]; omega
 have w2:i64.wrap ((k2:Int)+1)=((k2+1:Nat):Int):=by rw [bb (by omega) (by omega)]; omega
 have w3:i64.wrap ((k:Int)+1)=((k+1:Nat):Int):=by rw [bb (by omega) (by omega)]; omega
 refine aw (fun h=>?_) (fun h=>?_)
 ·have hlt:k2 < n4 - k0:=by have:=of_decide_eq_true h; omega
  refine aH (dqt (by omega)) (aH (dqt (by omega)) (aH (dqt (by rw [w1]; omega)) (aH (dqt (by rw [w1]; omega)) (aw (fun _=>?_) (fun _=>?_)))))
  ·refine aH (dqt (by omega)) (aH (dqt (by omega)) (aH (dqt (by omega)) (aH (dqt (by omega)) (aR ?_))))
   rw [w2,w3]
   exact ih hlt (by omega) (k+1) _ (by omega)
  ·refine aR ?_
   rw [w2]
   exact ih hlt (by omega) k _ (by omega)
 ·have hge:¬ k2 < n4 - k0:=by have:=of_decide_eq_false h; omega
  refine aH (dqt (by omega)) (aH (dqt (by omega)) (aH (dqt (by omega)) ?_))
  try refine aE fun _=>?_
  exact j6 (dqt (by omega)) (ah rfl)
theorem WC (n0:Nat) (f0:FnV) (s2:ByteArray) (x3:Int) (n4:Nat) (f4:FnV) (x6:Int) (h8:n4<=8) (h2:2<=n4):∀ i:Nat,i<=n4->1<=i->(∀ j,j < i->(decide (0 < j) && eqP f4 j (j - 1))=false)->∀ f:Nat->List V,(∀ i j,eqP f i j=eqP f4 i j)->Ev (lC n0 f0 s2 x3 n4 f4 x6) (.L2 i f) (.int .i64 (bif gR n4 f4 then 2 else eG x3 n4)):=by
 refine dF fun i hi ih h1 hj f hf=>Ev.of rfl ?_
 have w1:i64.wrap ((i:Int) - 1)=((i - 1:Nat):Int):=by rw [bb (by omega) (by omega)]; omega
 have w2:i64.wrap ((i:Int)+1)=((i+1:Nat):Int):=by rw [bb (by omega) (by omega)]; omega
 refine aw (fun h=>?_) (fun h=>?_)
 ·have hlt:i < n4:=by have:=of_decide_eq_true h; omega
  refine aH (dqt (by omega)) (aH (dqt (by omega)) (aH (dqt (by rw [w1]; omega)) (aH (dqt (by rw [w1]; omega)) (aw (fun hb=>?_) (fun hb=>?_)))))
  ·have hb':eqP f4 i (i - 1)=true:=by
    rw [← hf]; rw [w1] at hb; simpa only [Int.toNat_natCast,eqP] using hb
   rw [show gR n4 f4=true from bC i hlt (by rw [hb']; simp; omega),cond_true]
   refine aH (dqt (by omega)) (aD ?_)
   have:=Vr n0 f0 s2 x3 n4 f4 x6 h8 i h1 hlt
   simp only [Int.toNat_natCast]
   exact this _ _ _ _ _ _ _ 1 (by omega) (by omega) i _ (by omega)
  ·have hb':eqP f4 i (i - 1)=false:=by
    rw [← hf]; rw [w1] at hb; simpa only [Int.toNat_natCast,eqP] using hb
   refine aR ?_
   rw [w2]
   refine ih hlt (by omega) (fun j h3=>?_) _ (fun a b=>hf a b)
   by_cases e:j=i
   ·subst e; rw [hb',Bool.and_false]
   ·exact hj j (by omega)
 ·have:i=n4:=by have:=of_decide_eq_false h; omega
  subst this
  rw [show gR i f4=false from bm hj,cond_false]
  try refine aE fun _=>?_
  exact bu iy
theorem QR (n0:Nat) (f0:FnV) (s2:ByteArray) (x3:Int) (n4:Nat) (f4:FnV) (x6:Int) (h8:n4<=8) (h2:2<=n4) (f:Nat->List V) (hf:∀ i j,eqP f i j=eqP f4 i j):Ev (lC n0 f0 s2 x3 n4 f4 x6) (.L2 1 f) (.int .i64 (bif gR n4 f4 then 2 else eG x3 n4)):=WC n0 f0 s2 x3 n4 f4 x6 h8 h2 1 (by omega) (Nat.le_refl _) (fun j hj=>by
 have:j=0:=by omega
 subst this; rfl) f hf
theorem TJ (n0:Nat) (f0:FnV) (s2:ByteArray) (x3:Int) (n4:Nat) (f4:FnV) (x6:Int) (h8:n4<=8) (k0:Nat) (hk:1<=k0) (hk':k0 < n4) (t1 t2 t3:Int) (t4:Nat) (t5 t6 t7:Int):∀ k2:Nat,k2<=n4 - k0->1<=k2->∀ (k:Nat) (f:Nat->List V),k+1<=k0+k2->Ev (lC n0 f0 s2 x3 n4 f4 x6) (.L7 k2 k0 (n4 - k0) t1 t2 t3 t4 t5 t6 t7 k f) (.int .i64 2):=by
 refine dF fun k2 hk2 ih h1 k f hkk=>Ev.of rfl ?_
 have w1:i64.wrap ((k2:Int) - 1)=((k2 - 1:Nat):Int):=by rw [bb (by omega) (by omega)]; omega
 have w2:i64.wrap ((k2:Int)+1)=((k2+1:Nat):Int):=by rw [bb (by omega) (by omega)]; omega
 have w3:i64.wrap ((k:Int)+1)=((k+1:Nat):Int):=by rw [bb (by omega) (by omega)]; omega
 refine aw (fun h=>?_) (fun h=>?_)
 ·have hlt:k2 < n4 - k0:=by have:=of_decide_eq_true h; omega
  refine aH (dqt (by omega)) (aH (dqt (by omega)) (aH (dqt (by rw [w1]; omega)) (aH (dqt (by rw [w1]; omega)) (aw (fun _=>?_) (fun _=>?_)))))
  ·refine aH (dqt (by omega)) (aH (dqt (by omega)) (aH (dqt (by omega)) (aH (dqt (by omega)) (aR ?_))))
   rw [w2,w3]
   exact ih hlt (by omega) (k+1) _ (by omega)
  ·refine aR ?_
   rw [w2]
   exact ih hlt (by omega) k _ (by omega)
 ·have hge:¬ k2 < n4 - k0:=by have:=of_decide_eq_false h; omega
  refine aH (dqt (by omega)) (aH (dqt (by omega)) (aH (dqt (by omega)) ?_))
  try refine aE fun _=>?_
  exact j6 (dqt (by omega)) (ah rfl)
theorem TX (n0:Nat) (f0:FnV) (s2:ByteArray) (x3:Int) (n4:Nat) (f4:FnV) (x6:Int) (h8:n4<=8) (h2:2<=n4):∀ i:Nat,i<=n4->1<=i->(∀ j,j < i->(decide (0 < j) && eqP f4 j (j - 1))=false)->∀ f:Nat->List V,(∀ i j,eqP f i j=eqP f4 i j)->Ev (lC n0 f0 s2 x3 n4 f4 x6) (.L3 i f) (.int .i64 (bif gR n4 f4 then 2 else eG x3 n4)):=by
 refine dF fun i hi ih h1 hj f hf=>Ev.of rfl ?_
 have w1:i64.wrap ((i:Int) - 1)=((i - 1:Nat):Int):=by rw [bb (by omega) (by omega)]; omega
 have w2:i64.wrap ((i:Int)+1)=((i+1:Nat):Int):=by rw [bb (by omega) (by omega)]; omega
 refine aw (fun h=>?_) (fun h=>?_)
 ·have hlt:i < n4:=by have:=of_decide_eq_true h; omega
  refine aH (dqt (by omega)) (aH (dqt (by omega)) (aH (dqt (by rw [w1]; omega)) (aH (dqt (by rw [w1]; omega)) (aw (fun hb=>?_) (fun hb=>?_)))))
  ·have hb':eqP f4 i (i - 1)=true:=by
    rw [← hf]; rw [w1] at hb; simpa only [Int.toNat_natCast,eqP] using hb
   rw [show gR n4 f4=true from bC i hlt (by rw [hb']; simp; omega),cond_true]
   refine aH (dqt (by omega)) (aD ?_)
   have:=TJ n0 f0 s2 x3 n4 f4 x6 h8 i h1 hlt
   simp only [Int.toNat_natCast]
   exact this _ _ _ _ _ _ _ 1 (by omega) (by omega) i _ (by omega)
  ·have hb':eqP f4 i (i - 1)=false:=by
    rw [← hf]; rw [w1] at hb; simpa only [Int.toNat_natCast,eqP] using hb
   refine aR ?_
   rw [w2]
   refine ih hlt (by omega) (fun j h3=>?_) _ (fun a b=>hf a b)
   by_cases e:j=i
   ·subst e; rw [hb',Bool.and_false]
   ·exact hj j (by omega)
 ·have:i=n4:=by have:=of_decide_eq_false h; omega
  subst this
  rw [show gR i f4=false from bm hj,cond_false]
  try refine aE fun _=>?_
  exact bu iy
theorem P4 (n0:Nat) (f0:FnV) (s2:ByteArray) (x3:Int) (n4:Nat) (f4:FnV) (x6:Int) (h8:n4<=8) (h2:2<=n4) (f:Nat->List V) (hf:∀ i j,eqP f i j=eqP f4 i j):Ev (lC n0 f0 s2 x3 n4 f4 x6) (.L3 1 f) (.int .i64 (bif gR n4 f4 then 2 else eG x3 n4)):=TX n0 f0 s2 x3 n4 f4 x6 h8 h2 1 (by omega) (Nat.le_refl _) (fun j hj=>by
 have:j=0:=by omega
 subst this; rfl) f hf
theorem Qn (n0:Nat) (f0:FnV) (s2:ByteArray) (x3:Int) (n4:Nat) (f4:FnV) (x6:Int) (hp:s2.size<=9223372036854775807):evR (Ev (lC n0 f0 s2 x3 n4 f4 x6)) (m63 n0 f0 s2 x3 n4 f4 x6) (.int .i64 (F63 n0 f0 s2 x3 n4 f4 x6)):=by
 unfold F63
 refine aO hp (ac ?_)
 refine aw (fun h=>ah (by rw [h]; rfl)) (fun h=>?_)
 rw [h,cond_false]
 refine ao (ac (aw (fun h=>ah (by rw [show nZ n0 f0 s2=true from h]; rfl)) (fun h=>?_)))
 rw [show nZ n0 f0 s2=false from h,cond_false]
 refine ao (ac (aw (fun h=>ah (by rw [h]; rfl)) (fun h=>?_)))
 rw [h,cond_false]
 refine yab fun hn=>aw (fun h=>ah (by rw [h]; rfl)) (fun h2=>?_)
 rw [h2,cond_false]
 refine yab fun hn=>aw (fun h=>ah (by rw [h]; rfl)) (fun h8=>?_)
 rw [h8,cond_false]
 have h2:2<=n4:=by have:=of_decide_eq_false h2; omega
 have h8:n4<=8:=by have:=of_decide_eq_false h8; omega
 have e2:decide ((n4:Int) < 2)=false:=dqf (by omega)
 refine ao (ac (ak (aw (fun h=>?_) (fun h=>ah (by rw [show (!!gN n4 f4)=true from by rw [show (!gN n4 f4)=false from h]; rfl]; rfl)))))
 rw [show (!!gN n4 f4)=false from by rw [show (!gN n4 f4)=true from h]; rfl,cond_false]
 refine aH h (ao (ac (aw (fun h=>ah (by rw [h]; rfl)) (fun h=>?_))))
 rw [h,cond_false]
 have h16:(decide (n4 * 16<=140737488355328) && !Nat.beq 16 0)=true:=by rw [dqt (show n4 * 16<=140737488355328 by omega)]; rfl
 have hne:n4=0->False:=by omega
 have hi:∀ i j,eqP (elV tp2 f4) i j=eqP f4 i j:=fun _ _=>rfl
 repeat' (first
  | exact aE (fun h0=>(hne h0).elim)
  | exact aD (Ru _ _ _ _ _ _ _ h8 h2 _ hi)
  | exact aD (ybg _ _ _ _ _ _ _ h8 h2 _ hi)
  | exact aD (QR _ _ _ _ _ _ _ h8 h2 _ hi)
  | exact aD (P4 _ _ _ _ _ _ _ h8 h2 _ hi)
  | refine Vl ?_ ?_
  | refine aE (fun _=>?_)
  | refine UH ?_
  | refine aH h16 ?_
  | refine oo e2 ?_
  | refine oo rfl ?_
  | refine j6 rfl ?_)
theorem Y1 (n0:Nat) (f0:FnV) (s2:ByteArray) (x3:Int) (n4:Nat) (f4:FnV) (x6:Int) (hp:s2.size<=9223372036854775807):evR (Ev (lC n0 f0 s2 x3 n4 f4 x6)) (m63 n0 f0 s2 x3 n4 f4 x6) (.int .i64 (F63 n0 (elV tyR f0) s2 x3 n4 (elV tp2 f4) x6)):=Qn n0 f0 s2 x3 n4 f4 x6 hp
def C63:ap:=mkC [.sl tyR,.agg tyR] (fun
 | [.sl n0 f0,.agg [.str s2,.int _ x3,.sl n4 f4,.int _ x6]]=>s2.size<=9223372036854775807
 | _=>False) fun
 | [.sl n0 f0,.agg [.str s2,.int _ x3,.sl n4 f4,.int _ x6]]=>.int .i64 (F63 n0 f0 s2 x3 n4 f4 x6)
 | _=>.any
theorem VH:(vP C63).Ok Tryz.prog 136:=mkE wJ Tryz.func136 (by kernel_rfl) fun ds hp=>rfs (Uj ..) (Y1 _ _ _ _ _ _ _ hp)
def m69 (n0:Nat) (f0:FnV) (s2:ByteArray) (x3 x4 x5 x6 x7:Int):RT Empty:=.obp (s2.size<=(9223372036854775807:Nat)) (.obt (.br (!jD s2) (.ret (vi 6)) (.obc (.obt (.br (na n0 (elV tyC f0) s2) (.ret (vi 5)) (.obc (.obt (.obi (.br (!gU 2 (elV tp1 (bA [vi x3,vi x4] 0 1))) (.ob (!gU 2 (elV tp1 (bA [vi x3,vi x4] 0 1))) (.obc (.obt (.obi (.br (!ba x5 1 200) (.ob (!ba x5 1 200) (.obc (.obt (.obi (.br (!ba x6 (-1000) 1000) (.ob (!ba x6 (-1000) 1000) (.obc (.obt (.br (ba x7 (-1000) 1000) (.ret (vi 7)) (.obi (.obi (.obi (.br (bif x6 == 0 then x7 == 0 else false) (.ret (vi 2)) (.ret (vi 0)))))))))) (.ret (vi 7))))))) (.ret (vi 7))))))) (.ret (vi 7)))))))))))
theorem UA (n0:Nat) (f0:FnV) (s2:ByteArray) (x3 x4 x5 x6 x7:Int):Fit noD (aN JJ mH u0 s69 [V.sl n0 (elV tyC f0),V.agg [V.str s2,vi x3,vi x4,vi x5,vi x6,vi x7]]) (m69 n0 f0 s2 x3 x4 x5 x6 x7):=⟨by kernel_rfl,by kernel_rfl⟩
def iz (n0:Nat) (f0:FnV) (s2:ByteArray) (x3 x4 x5 x6 x7:Int):Int:=bif !jD s2 then 6 else bif na n0 (elV tyC f0) s2 then 5 else bif !gU 2 (elV tp1 (bA [vi x3,vi x4] 0 1)) then bif !ba x5 1 200 then bif !ba x6 (-1000) 1000 then bif ba x7 (-1000) 1000 then 7 else bif bif x6 == 0 then x7 == 0 else false then 2 else 0 else 7 else 7 else 7
def R69 (n0:Nat) (f0:FnV) (s2:ByteArray) (x3 x4 x5 x6 x7:Int):V:=.int i64 (iz n0 f0 s2 x3 x4 x5 x6 x7)
theorem X9 (n0:Nat) (f0:FnV) (s2:ByteArray) (x3 x4 x5 x6 x7:Int) (hp:s2.size<=9223372036854775807):evR noE (m69 n0 f0 s2 x3 x4 x5 x6 x7) (R69 n0 f0 s2 x3 x4 x5 x6 x7):=aO (by first | assumption | (exact hp)) (ac (aw (fun h0=>ah (by unfold R69 iz; try rw [h0]; rfl)) (fun h0=>ao (ac (aw (fun h1=>ah (by unfold R69 iz; try rw [h0]; try rw [h1]; rfl)) (fun h1=>ao (ac (ak (aw (fun h2=>aH (by first | assumption | (fail)) (ao (ac (ak (aw (fun h3=>aH (by first | assumption | (fail)) (ao (ac (ak (aw (fun h4=>aH (by first | assumption | (fail)) (ao (ac (aw (fun h5=>ah (by unfold R69 iz; try rw [h0]; try rw [h1]; try rw [h2]; try rw [h3]; try rw [h4]; try rw [h5]; rfl)) (fun h5=>ak (ak (ak (aw (fun h6=>ah (by unfold R69 iz; try rw [h0]; try rw [h1]; try rw [h2]; try rw [h3]; try rw [h4]; try rw [h5]; try rw [h6]; rfl)) (fun h6=>ah (by unfold R69 iz; try rw [h0]; try rw [h1]; try rw [h2]; try rw [h3]; try rw [h4]; try rw [h5]; try rw [h6]; rfl)))))))))) (fun h4=>ah (by unfold R69 iz; try rw [h0]; try rw [h1]; try rw [h2]; try rw [h3]; try rw [h4]; rfl))))))) (fun h3=>ah (by unfold R69 iz; try rw [h0]; try rw [h1]; try rw [h2]; try rw [h3]; rfl))))))) (fun h2=>ah (by unfold R69 iz; try rw [h0]; try rw [h1]; try rw [h2]; rfl)))))))))))
def C69:ap:=mkC [.sl tyC,.agg tyC] (fun
 | [.sl n0 f0,.agg [.str s2,.int _ x3,.int _ x4,.int _ x5,.int _ x6,.int _ x7]]=>s2.size<=9223372036854775807
 | _=>False) fun
 | [.sl n0 f0,.agg [.str s2,.int _ x3,.int _ x4,.int _ x5,.int _ x6,.int _ x7]]=>R69 n0 f0 s2 x3 x4 x5 x6 x7
 | _=>.any
theorem Wi:(vP C69).Ok Tryz.prog 142:=mkE wJ Tryz.func142 (by kernel_rfl) fun ds hp=>rf0 (UA ..) (X9 _ _ _ _ _ _ _ _ hp)
noncomputable section
def kQ:aY:=(136,.con C63)::(142,.con C69)::mH
theorem td:aQ Tryz.prog eqs its kQ:=.con VH (.con Wi (wJ))
inductive S70 where
 | L0 (ia0:Int)
 | L1 (ib0 ib1:Int)
 | L2 (ic0 ic1 ic2:Int)
def Fu (n0:Nat) (f0:FnV) (n2:Nat) (f2:FnV) (n4:Nat) (f4:FnV) (n6:Nat) (f6:FnV) (x8:Int):S70->Env × List O × Option Ex
 | .L0 ia0=>([(6,vi ia0),(17,V.kb false),(16,V.bool (iS (sv (hdV (f0 x8.toNat))))),(15,V.str (sv (hdV (f0 x8.toNat)))),(14,V.pl 0 0),(5,V.pl 0 0),(13,V.agg [V.str (sv (hdV (f0 x8.toNat))),vi (jv1 (f0 x8.toNat)),V.sl (am (hdV (tlV (tlV (f0 x8.toNat))))) fun i=>ae tp2 (atV (hdV (tlV (tlV (f0 x8.toNat)))) i),vi (jv3 (f0 x8.toNat))]),(12,V.pd [V.str (sv (hdV (f0 x8.toNat))),vi (jv1 (f0 x8.toNat)),V.sl (am (hdV (tlV (tlV (f0 x8.toNat))))) fun i=>ae tp2 (atV (hdV (tlV (tlV (f0 x8.toNat)))) i),vi (jv3 (f0 x8.toNat))]),(11,vi x8),(10,V.sl n0 (elV tyR f0)),(9,V.pl 1 0),(4,vi 0),(2,V.pl 1 0),(0,scV n0 f0 n2 f2 n4 f4 n6 f6),(1,vi x8)],[O.cells [V.str (sv (hdV (f0 x8.toNat))),vi (jv1 (f0 x8.toNat)),V.sl (am (hdV (tlV (tlV (f0 x8.toNat))))) fun i=>ae tp2 (atV (hdV (tlV (tlV (f0 x8.toNat)))) i),vi (jv3 (f0 x8.toNat))] 189,O.cells [V.sl n0 (elV tyR f0),V.sl n2 (elV tyT f2),V.sl n4 (elV tyF f4),V.sl n6 (elV tyC f6)] 31],none)
 | .L1 ib0 ib1=>([(7,vi ib0),(43,V.kb false),(42,vi (↑(am (hdV (tlV (tlV (f0 x8.toNat))))):Int)),(41,V.sl (am (hdV (tlV (tlV (f0 x8.toNat))))) fun i=>ae tp2 (atV (hdV (tlV (tlV (f0 x8.toNat)))) i)),(40,V.pl 0 2),(39,V.kb false),(38,vi (↑(am (hdV (tlV (tlV (f0 x8.toNat))))):Int)),(37,V.sl (am (hdV (tlV (tlV (f0 x8.toNat))))) fun i=>ae tp2 (atV (hdV (tlV (tlV (f0 x8.toNat)))) i)),(36,V.pl 0 2),(35,V.kb false),(34,V.bool (cq (jv1 (f0 x8.toNat)) 0 3)),(33,vi (jv1 (f0 x8.toNat))),(32,V.pl 0 1),(20,V.kb false),(19,vi x8),(18,vi ib1),(6,vi ib1),(17,V.kb false),(16,V.bool (iS (sv (hdV (f0 x8.toNat))))),(15,V.str (sv (hdV (f0 x8.toNat)))),(14,V.pl 0 0),(5,V.pl 0 0),(13,V.agg [V.str (sv (hdV (f0 x8.toNat))),vi (jv1 (f0 x8.toNat)),V.sl (am (hdV (tlV (tlV (f0 x8.toNat))))) fun i=>ae tp2 (atV (hdV (tlV (tlV (f0 x8.toNat)))) i),vi (jv3 (f0 x8.toNat))]),(12,V.pd [V.str (sv (hdV (f0 x8.toNat))),vi (jv1 (f0 x8.toNat)),V.sl (am (hdV (tlV (tlV (f0 x8.toNat))))) fun i=>ae tp2 (atV (hdV (tlV (tlV (f0 x8.toNat)))) i),vi (jv3 (f0 x8.toNat))]),(11,vi x8),(10,V.sl n0 (elV tyR f0)),(9,V.pl 1 0),(4,vi 0),(2,V.pl 1 0),(0,scV n0 f0 n2 f2 n4 f4 n6 f6),(1,vi x8)],[O.cells [V.str (sv (hdV (f0 x8.toNat))),vi (jv1 (f0 x8.toNat)),V.sl (am (hdV (tlV (tlV (f0 x8.toNat))))) fun i=>ae tp2 (atV (hdV (tlV (tlV (f0 x8.toNat)))) i),vi (jv3 (f0 x8.toNat))] 189,O.cells [V.sl n0 (elV tyR f0),V.sl n2 (elV tyT f2),V.sl n4 (elV tyF f4),V.sl n6 (elV tyC f6)] 31],none)
 | .L2 ic0 ic1 ic2=>([(8,vi ic0),(69,V.kb false),(68,V.bool (cq (jv3 (f0 x8.toNat)) 100 30000)),(67,vi (jv3 (f0 x8.toNat))),(66,V.pl 0 3),(48,V.kb false),(47,vi (↑(am (hdV (tlV (tlV (f0 x8.toNat))))):Int)),(46,V.sl (am (hdV (tlV (tlV (f0 x8.toNat))))) fun i=>ae tp2 (atV (hdV (tlV (tlV (f0 x8.toNat)))) i)),(45,V.pl 0 2),(44,vi ic1),(7,vi ic1),(43,V.kb false),(42,vi (↑(am (hdV (tlV (tlV (f0 x8.toNat))))):Int)),(41,V.sl (am (hdV (tlV (tlV (f0 x8.toNat))))) fun i=>ae tp2 (atV (hdV (tlV (tlV (f0 x8.toNat)))) i)),(40,V.pl 0 2),(39,V.kb false),(38,vi (↑(am (hdV (tlV (tlV (f0 x8.toNat))))):Int)),(37,V.sl (am (hdV (tlV (tlV (f0 x8.toNat))))) fun i=>ae tp2 (atV (hdV (tlV (tlV (f0 x8.toNat)))) i)),(36,V.pl 0 2),(35,V.kb false),(34,V.bool (cq (jv1 (f0 x8.toNat)) 0 3)),(33,vi (jv1 (f0 x8.toNat))),(32,V.pl 0 1),(20,V.kb false),(19,vi x8),(18,vi ic2),(6,vi ic2),(17,V.kb false),(16,V.bool (iS (sv (hdV (f0 x8.toNat))))),(15,V.str (sv (hdV (f0 x8.toNat)))),(14,V.pl 0 0),(5,V.pl 0 0),(13,V.agg [V.str (sv (hdV (f0 x8.toNat))),vi (jv1 (f0 x8.toNat)),V.sl (am (hdV (tlV (tlV (f0 x8.toNat))))) fun i=>ae tp2 (atV (hdV (tlV (tlV (f0 x8.toNat)))) i),vi (jv3 (f0 x8.toNat))]),(12,V.pd [V.str (sv (hdV (f0 x8.toNat))),vi (jv1 (f0 x8.toNat)),V.sl (am (hdV (tlV (tlV (f0 x8.toNat))))) fun i=>ae tp2 (atV (hdV (tlV (tlV (f0 x8.toNat)))) i),vi (jv3 (f0 x8.toNat))]),(11,vi x8),(10,V.sl n0 (elV tyR f0)),(9,V.pl 1 0),(4,vi 0),(2,V.pl 1 0),(0,scV n0 f0 n2 f2 n4 f4 n6 f6),(1,vi x8)],[O.cells [V.str (sv (hdV (f0 x8.toNat))),vi (jv1 (f0 x8.toNat)),V.sl (am (hdV (tlV (tlV (f0 x8.toNat))))) fun i=>ae tp2 (atV (hdV (tlV (tlV (f0 x8.toNat)))) i),vi (jv3 (f0 x8.toNat))] 189,O.cells [V.sl n0 (elV tyR f0),V.sl n2 (elV tyT f2),V.sl n4 (elV tyF f4),V.sl n6 (elV tyC f6)] 31],none)
def YO:S70->JJ
 | .L0 ia0=>(0,[])
 | .L1 ib0 ib1=>(1,[])
 | .L2 ic0 ic1 ic2=>(2,[])
def Tt (n0:Nat) (f0:FnV) (n2:Nat) (f2:FnV) (n4:Nat) (f4:FnV) (n6:Nat) (f6:FnV) (x8:Int):T (ck JJ):=aN JJ kQ u0 s70 [scV n0 f0 n2 f2 n4 f4 n6 f6,vi x8]
def wh (n0:Nat) (f0:FnV) (n2:Nat) (f2:FnV) (n4:Nat) (f4:FnV) (n6:Nat) (f6:FnV) (x8:Int) (cx:List Cx):Lp JJ:=lpT (atT (Tt n0 f0 n2 f2 n4 f4 n6 f6 x8) [false])
def B7 (n0:Nat) (f0:FnV) (n2:Nat) (f2:FnV) (n4:Nat) (f4:FnV) (n6:Nat) (f6:FnV) (x8:Int) (cx:List Cx):Lp JJ:=lpT (atT (rdP kQ u0 (0,[]) (wh n0 f0 n2 f2 n4 f4 n6 f6 x8 []) (Fu n0 f0 n2 f2 n4 f4 n6 f6 x8 (.L0 (0:Int)))) [false,false,false,false])
def Pk (n0:Nat) (f0:FnV) (n2:Nat) (f2:FnV) (n4:Nat) (f4:FnV) (n6:Nat) (f6:FnV) (x8:Int) (cx:List Cx):Lp JJ:=lpT (atT (rdP kQ u0 (1,[]) (B7 n0 f0 n2 f2 n4 f4 n6 f6 x8 []) (Fu n0 f0 n2 f2 n4 f4 n6 f6 x8 (.L1 (0:Int) (0:Int)))) [false,false])
def Y3 (n0:Nat) (f0:FnV) (n2:Nat) (f2:FnV) (n4:Nat) (f4:FnV) (n6:Nat) (f6:FnV) (x8:Int):JJ->Lp JJ
 | (0,cx)=>wh n0 f0 n2 f2 n4 f4 n6 f6 x8 cx
 | (1,cx)=>B7 n0 f0 n2 f2 n4 f4 n6 f6 x8 cx
 | (2,cx)=>Pk n0 f0 n2 f2 n4 f4 n6 f6 x8 cx
 | (_,cx)=>wh n0 f0 n2 f2 n4 f4 n6 f6 x8 cx
def D70 (n0:Nat) (f0:FnV) (n2:Nat) (f2:FnV) (n4:Nat) (f4:FnV) (n6:Nat) (f6:FnV) (x8:Int):LD JJ S70:=⟨YO,Y3 n0 f0 n2 f2 n4 f4 n6 f6 x8,Fu n0 f0 n2 f2 n4 f4 n6 f6 x8⟩
def AN (n0:Nat) (f0:FnV) (n2:Nat) (f2:FnV) (n4:Nat) (f4:FnV) (n6:Nat) (f6:FnV) (x8:Int):S70->RT S70
 | .L0 ia0=>.br (decide (ia0 < x8)) (.ob (decide (0<=ia0/\ia0 < (↑n0:Int))) (.br ((sv (hdV (f0 ia0.toNat))).toList == (sv (hdV (f0 x8.toNat))).toList) (.ret (vi 5)) (.next [some (some 0),some (some 1)] (S70.L0 (i64.wrap (ia0+1))) []))) (.obc (.obt (.br (!cq (jv1 (f0 x8.toNat)) 0 3) (.ret (vi 2)) (.asm (true=true->am (hdV (tlV (tlV (f0 x8.toNat))))<=9223372036854775807) (.br (decide ((↑(am (hdV (tlV (tlV (f0 x8.toNat))))):Int) < 2)) (.ret (vi 4)) (.asm (true=true->am (hdV (tlV (tlV (f0 x8.toNat))))<=9223372036854775807) (.br (decide (8 < (↑(am (hdV (tlV (tlV (f0 x8.toNat))))):Int))) (.ret (vi 3)) (.enter [some (some 0),some (some 1)] (S70.L1 (0) (ia0)) []))))))))
 | .L1 ib0 ib1=>.asm (true=true->am (hdV (tlV (tlV (f0 x8.toNat))))<=9223372036854775807) (.br (decide (ib0 < (↑(am (hdV (tlV (tlV (f0 x8.toNat))))):Int))) (.ob (decide (0<=ib0/\ib0 < (↑(am (hdV (tlV (tlV (f0 x8.toNat))))):Int))) (.obt (.ob (decide (0<=ib0/\ib0 < (↑(am (hdV (tlV (tlV (f0 x8.toNat))))):Int))) (.obt (.obc (.obt (.br (!F51 2 (elV tp1 (bA [vi (jv0 (atV (hdV (tlV (tlV (f0 x8.toNat)))) ib0.toNat)),vi (jv1 (atV (hdV (tlV (tlV (f0 x8.toNat)))) ib0.toNat))] 0 1))) (.ret (vi 7)) (.next [some (some 0),some (some 1)] (S70.L1 (i64.wrap (ib0+1)) (ib1)) [])))))))) (.obc (.obt (.br (!cq (jv3 (f0 x8.toNat)) 100 30000) (.ret (vi 7)) (.enter [some (some 0),some (some 1)] (S70.L2 (1) (ib0) (ib1)) [])))))
 | .L2 ic0 ic1 ic2=>.asm (true=true->am (hdV (tlV (tlV (f0 x8.toNat))))<=9223372036854775807) (.br (decide (ic0 < (↑(am (hdV (tlV (tlV (f0 x8.toNat))))):Int))) (.ob (decide (0<=ic0/\ic0 < (↑(am (hdV (tlV (tlV (f0 x8.toNat))))):Int))) (.ob (decide (0<=i64.wrap (ic0 - 1)/\i64.wrap (ic0 - 1) < (↑(am (hdV (tlV (tlV (f0 x8.toNat))))):Int))) (.br (jv0 (atV (hdV (tlV (tlV (f0 x8.toNat)))) ic0.toNat) == jv0 (atV (hdV (tlV (tlV (f0 x8.toNat)))) (i64.wrap (ic0 - 1)).toNat) && (jv1 (atV (hdV (tlV (tlV (f0 x8.toNat)))) ic0.toNat) == jv1 (atV (hdV (tlV (tlV (f0 x8.toNat)))) (i64.wrap (ic0 - 1)).toNat) && true)) (.ret (vi 2)) (.next [some (some 0),some (some 1)] (S70.L2 (i64.wrap (ic0+1)) (ic1) (ic2)) [])))) (.obi (.obi (.asm ((jv1 (f0 x8.toNat) == 3)=true->am (hdV (tlV (tlV (f0 x8.toNat))))<=9223372036854775807) (.obi (.obi (.br (bif jv1 (f0 x8.toNat) == 3 then decide (2 < (↑(am (hdV (tlV (tlV (f0 x8.toNat))))):Int)) else false) (.ret (vi 2)) (.ret (vi 0)))))))))
def m70 (n0:Nat) (f0:FnV) (n2:Nat) (f2:FnV) (n4:Nat) (f4:FnV) (n6:Nat) (f6:FnV) (x8:Int):RT S70:=.ob (decide (0<=x8/\x8 < (↑n0:Int))) (.obp ((sv (hdV (f0 x8.toNat))).size<=(9223372036854775807:Nat)) (.obt (.br (!iS (sv (hdV (f0 x8.toNat)))) (.ret (vi 6)) (.enter [some (some 1),some (some 0)] (S70.L0 (0)) []))))
theorem VE (n0:Nat) (f0:FnV) (n2:Nat) (f2:FnV) (n4:Nat) (f4:FnV) (n6:Nat) (f6:FnV) (x8:Int):dw kQ u0 (D70 n0 f0 n2 f2 n4 f4 n6 f6 x8) (Tt n0 f0 n2 f2 n4 f4 n6 f6 x8) (m70 n0 f0 n2 f2 n4 f4 n6 f6 x8) (AN n0 f0 n2 f2 n4 f4 n6 f6 x8):=⟨⟨by kernel_rfl,by kernel_rfl⟩,fun s=>by cases s <;> exact ⟨by kernel_rfl,by kernel_rfl⟩⟩
def l8 (x y:Int):Bool:=F51 2 (elV tp1 (bA [V.int .i64 x,V.int .i64 y] 0 ((1+1 - 0) / 2)))
def DT (k:Int) (n:Nat) (f:Nat->List V) (h:Int):Int:=bif !cq k 0 3 then 2 else bif decide ((n:Int) < 2) then 4 else bif decide (8 < (n:Int)) then 3 else bif exB n (fun i=>!l8 (jv0 (f i)) (jv1 (f i))) then 7 else bif !cq h 100 30000 then 7 else bif gR n f then 2 else eG k n
def F70 (n0:Nat) (f0:FnV) (x8:Int):Int:=bif !iS (sv (hdV (f0 x8.toNat))) then 6 else bif exB x8.toNat (fun k=>(sv (hdV (f0 k))).toList == (sv (hdV (f0 x8.toNat))).toList) then 5 else DT (jv1 (f0 x8.toNat)) (am (hdV (tlV (tlV (f0 x8.toNat))))) (atV (hdV (tlV (tlV (f0 x8.toNat))))) (jv3 (f0 x8.toNat))
theorem Wc (n0:Nat) (f0:FnV) (n2:Nat) (f2:FnV) (n4:Nat) (f4:FnV) (n6:Nat) (f6:FnV) (k:Nat) (h8:(am (hdV (tlV (tlV (f0 k)))))<=8) (h2:2<=(am (hdV (tlV (tlV (f0 k)))))) (i1 i2:Int):∀ i:Nat,i<=(am (hdV (tlV (tlV (f0 k)))))->1<=i->(∀ j,j < i->(decide (0 < j) && eqP (atV (hdV (tlV (tlV (f0 k))))) j (j - 1))=false)->Ev (AN n0 f0 n2 f2 n4 f4 n6 f6 (k:Int)) (.L2 i i1 i2) (.int .i64 (bif gR (am (hdV (tlV (tlV (f0 k))))) (atV (hdV (tlV (tlV (f0 k))))) then 2 else eG (jv1 (f0 k)) (am (hdV (tlV (tlV (f0 k))))))):=by
 refine dF fun i hi ih h1 hj=>Ev.of rfl ?_
 have w1:i64.wrap ((i:Int) - 1)=((i - 1:Nat):Int):=by rw [bb (by omega) (by omega)]; omega
 have w2:i64.wrap ((i:Int)+1)=((i+1:Nat):Int):=by rw [bb (by omega) (by omega)]; omega
 refine aE fun _=>aw (fun h=>?_) (fun h=>?_)
 ·have hlt:i < (am (hdV (tlV (tlV (f0 k))))):=by have:(i:Int) < ((am (hdV (tlV (tlV (f0 k))))):Int):=of_decide_eq_true h; omega
  refine aH (dqt (show 0<=(i:Int)/\(i:Int) < ((am (hdV (tlV (tlV (f0 k))))):Int) by omega)) (aH (dqt (show 0<=i64.wrap ((i:Int) - 1)/\i64.wrap ((i:Int) - 1) < ((am (hdV (tlV (tlV (f0 k))))):Int) by rw [w1]; omega)) (aw (fun hb=>?_) (fun hb=>?_)))
  ·have hb':eqP (atV (hdV (tlV (tlV (f0 k))))) i (i - 1)=true:=by
    rw [w1] at hb; simpa only [Int.toNat_natCast,eqP] using hb
   rw [show gR (am (hdV (tlV (tlV (f0 k))))) (atV (hdV (tlV (tlV (f0 k)))))=true from bC i hlt (by rw [hb']; simp; omega),cond_true]
   exact ah rfl
  ·have hb':eqP (atV (hdV (tlV (tlV (f0 k))))) i (i - 1)=false:=by
    rw [w1] at hb; simpa only [Int.toNat_natCast,eqP] using hb
   refine aR ?_
   rw [w2]
   refine ih hlt (by omega) (fun j h3=>?_)
   by_cases e:j=i
   ·subst e; rw [hb',Bool.and_false]
   ·exact hj j (by omega)
 ·have e:i=(am (hdV (tlV (tlV (f0 k))))):=by have:¬ (i:Int) < ((am (hdV (tlV (tlV (f0 k))))):Int):=of_decide_eq_false h; omega
  rw [show gR (am (hdV (tlV (tlV (f0 k))))) (atV (hdV (tlV (tlV (f0 k)))))=false from bm fun j h=>hj j (by omega),cond_false]
  exact iy
theorem Ua (n0:Nat) (f0:FnV) (n2:Nat) (f2:FnV) (n4:Nat) (f4:FnV) (n6:Nat) (f6:FnV) (k:Nat) (h8:(am (hdV (tlV (tlV (f0 k)))))<=8) (h2:2<=(am (hdV (tlV (tlV (f0 k)))))) (i1:Int):∀ i:Nat,i<=(am (hdV (tlV (tlV (f0 k)))))->(∀ j,j < i->(!l8 (jv0 ((atV (hdV (tlV (tlV (f0 k))))) j)) (jv1 ((atV (hdV (tlV (tlV (f0 k))))) j)))=false)->Ev (AN n0 f0 n2 f2 n4 f4 n6 f6 (k:Int)) (.L1 i i1) (.int .i64 (bif exB (am (hdV (tlV (tlV (f0 k))))) (fun i=>!l8 (jv0 ((atV (hdV (tlV (tlV (f0 k))))) i)) (jv1 ((atV (hdV (tlV (tlV (f0 k))))) i))) then 7 else bif !cq (jv3 (f0 k)) 100 30000 then 7 else bif gR (am (hdV (tlV (tlV (f0 k))))) (atV (hdV (tlV (tlV (f0 k))))) then 2 else eG (jv1 (f0 k)) (am (hdV (tlV (tlV (f0 k))))))):=by
 refine dF fun i hi ih hj=>Ev.of rfl ?_
 have w2:i64.wrap ((i:Int)+1)=((i+1:Nat):Int):=by rw [bb (by omega) (by omega)]; omega
 refine aE fun _=>aw (fun h=>?_) (fun h=>?_)
 ·have hlt:i < (am (hdV (tlV (tlV (f0 k))))):=by have:(i:Int) < ((am (hdV (tlV (tlV (f0 k))))):Int):=of_decide_eq_true h; omega
  refine aH (dqt (show 0<=(i:Int)/\(i:Int) < ((am (hdV (tlV (tlV (f0 k))))):Int) by omega)) (ac (aH (dqt (show 0<=(i:Int)/\(i:Int) < ((am (hdV (tlV (tlV (f0 k))))):Int) by omega)) (ac (ao (ac (aw (fun hb=>ah ?_) (fun hb=>aR ?_)))))))
  ·rw [bC (p:=fun i=>!l8 (jv0 ((atV (hdV (tlV (tlV (f0 k))))) i)) (jv1 ((atV (hdV (tlV (tlV (f0 k))))) i))) i hlt hb]; rfl
  ·rw [w2]
   refine ih hlt (fun j h3=>?_)
   by_cases e:j=i
   ·subst e; exact hb
   ·exact hj j (by omega)
 ·have e:i=(am (hdV (tlV (tlV (f0 k))))):=by have:¬ (i:Int) < ((am (hdV (tlV (tlV (f0 k))))):Int):=of_decide_eq_false h; omega
  rw [show exB (am (hdV (tlV (tlV (f0 k))))) (fun i=>!l8 (jv0 ((atV (hdV (tlV (tlV (f0 k))))) i)) (jv1 ((atV (hdV (tlV (tlV (f0 k))))) i)))=false from bm fun j h=>hj j (by omega),cond_false]
  refine ao (ac (aw (fun h=>ah (by rw [show (!cq (jv3 (f0 k)) 100 30000)=true from h]; rfl)) (fun h=>?_)))
  rw [show (!cq (jv3 (f0 k)) 100 30000)=false from h,cond_false]
  refine aD (Wc n0 f0 n2 f2 n4 f4 n6 f6 k h8 h2 _ _ 1 (by omega) (by omega) (fun j h=>?_))
  have:j=0:=by omega
  subst this; rfl
theorem Rw (n0:Nat) (f0:FnV) (n2:Nat) (f2:FnV) (n4:Nat) (f4:FnV) (n6:Nat) (f6:FnV) (x8:Int) (hp:0<=x8/\x8 < n0/\n0<=9223372036854775807/\aI n0 f0):evR (Ev (AN n0 f0 n2 f2 n4 f4 n6 f6 x8)) (m70 n0 f0 n2 f2 n4 f4 n6 f6 x8) (.int .i64 (F70 n0 f0 x8)):=by
 obtain ⟨h0,h1,h2,h3⟩:=hp
 obtain ⟨k,rfl⟩:∃ k:Nat,x8=(k:Int):=⟨x8.toNat,by omega⟩
 have hk:k < n0:=by omega
 refine yac hk (aO (h3 k hk) (ac ?_))
 unfold F70
 simp only [Int.toNat_natCast]
 refine aw (fun h=>ah (by rw [show (!iS (sv (hdV (f0 k))))=true from h]; rfl)) (fun h=>?_)
 rw [show (!iS (sv (hdV (f0 k))))=false from h,cond_false]
 refine aD (fL (n:=k) (by omega) (fun i=>(sv (hdV (f0 i))).toList == (sv (hdV (f0 k))).toList) (P:=fun i=>Ev (AN n0 f0 n2 f2 n4 f4 n6 f6 (k:Int)) (.L0 i) _) (fun i hlt hj next=>Ev.of rfl (bK hlt (yac (by omega) (aw (fun hb=>ah ?_) (fun hb=>aR (next hb))))))
  (fun hj=>Ev.of rfl (bu ?_)))
 ·rw [bC i hlt hb]; rfl
 ·rw [bm hj,cond_false]
  unfold DT
  refine ao (ac (aw (fun h=>ah (by rw [show (!cq (jv1 (f0 k)) 0 3)=true from h]; rfl)) (fun h=>?_)))
  rw [show (!cq (jv1 (f0 k)) 0 3)=false from h,cond_false]
  refine yab fun hn=>aw (fun h=>ah (by rw [show decide (((am (hdV (tlV (tlV (f0 k))))):Int) < 2)=true from h]; rfl)) (fun h2=>?_)
  rw [show decide (((am (hdV (tlV (tlV (f0 k))))):Int) < 2)=false from h2,cond_false]
  refine yab fun hn=>aw (fun h=>ah (by rw [show decide (8 < ((am (hdV (tlV (tlV (f0 k))))):Int))=true from h]; rfl)) (fun h8=>?_)
  rw [show decide (8 < ((am (hdV (tlV (tlV (f0 k))))):Int))=false from h8,cond_false]
  have h2:2<=(am (hdV (tlV (tlV (f0 k))))):=by have:¬ (((am (hdV (tlV (tlV (f0 k))))):Int) < 2):=of_decide_eq_false h2; omega
  have h8:(am (hdV (tlV (tlV (f0 k)))))<=8:=by have:¬ (8 < ((am (hdV (tlV (tlV (f0 k))))):Int)):=of_decide_eq_false h8; omega
  exact aD (Ua n0 f0 n2 f2 n4 f4 n6 f6 k h8 h2 _ 0 (by omega) (fun j h=>by omega))
theorem Zg (n0:Nat) (f0:FnV) (n2:Nat) (f2:FnV) (n4:Nat) (f4:FnV) (n6:Nat) (f6:FnV) (x8:Int) (hp:0<=x8/\x8 < n0/\n0<=9223372036854775807/\aI n0 (elV tyR f0)):evR (Ev (AN n0 f0 n2 f2 n4 f4 n6 f6 x8)) (m70 n0 f0 n2 f2 n4 f4 n6 f6 x8) (.int .i64 (F70 n0 (elV tyR f0) x8)):=Rw n0 f0 n2 f2 n4 f4 n6 f6 x8 hp
def C70:ap:=mkC [.agg [.sl tyR,.sl tyT,.sl tyF,.sl tyC],.int .i64] (fun
 | [.agg [.sl n0 f0,.sl n2 f2,.sl n4 f4,.sl n6 f6],.int _ x8]=>0<=x8/\x8 < n0/\n0<=9223372036854775807/\aI n0 f0
 | _=>False) fun
 | [.agg [.sl n0 f0,.sl n2 f2,.sl n4 f4,.sl n6 f6],.int _ x8]=>.int .i64 (F70 n0 f0 x8)
 | _=>.any
theorem Uv:(vP C70).Ok Tryz.prog 146:=mkE td Tryz.func146 (by kernel_rfl) fun ds hp=>rfs (VE ..) (Zg _ _ _ _ _ _ _ _ _ hp)
inductive S62 where
 | L0 (ia0:Int)
def Xg (n0:Nat) (f0:FnV):S62->Env × List O × Option Ex
 | .L0 ia0=>([(11,vi ia0),(10,vi (↑n0:Int)),(9,V.sl n0 (elV tyR f0)),(5,vi 0),(4,vi 0),(0,V.sl n0 (elV tyR f0)),(1,V.fn 136 [] [])],[],none)
def X8:S62->JJ
 | .L0 ia0=>(0,[])
def Vm (n0:Nat) (f0:FnV):T (ck JJ):=aN JJ kQ u0 s62 [V.sl n0 (elV tyR f0),V.fn 136 [] []]
def Dy (n0:Nat) (f0:FnV) (cx:List Cx):Lp JJ:=lpT (atT (Vm n0 f0) [])
def Zb (n0:Nat) (f0:FnV):JJ->Lp JJ
 | (0,cx)=>Dy n0 f0 cx
 | (_,cx)=>Dy n0 f0 cx
def D62 (n0:Nat) (f0:FnV):LD JJ S62:=⟨X8,Zb n0 f0,Xg n0 f0⟩
def PW (n0:Nat) (f0:FnV):S62->RT S62
 | .L0 ia0=>.br (decide (ia0 < (↑n0:Int))) (.ob (decide (0<=ia0/\ia0 < (↑n0:Int))) (.ob (decide (0<=ia0/\ia0<=(↑n0:Int))) (.obp ((sv (hdV (f0 ia0.toNat))).size<=(9223372036854775807:Nat)) (.obt (.br (F63 (ia0.toNat - 0) (fun i=>elV tyR f0 (0+i)) (sv (hdV (f0 ia0.toNat))) (jv1 (f0 ia0.toNat)) (am (hdV (tlV (tlV (f0 ia0.toNat))))) (fun i=>ae tp2 (atV (hdV (tlV (tlV (f0 ia0.toNat)))) i)) (jv3 (f0 ia0.toNat)) != 0) (.ret (V.tup [vi ia0,vi (F63 (ia0.toNat - 0) (fun i=>elV tyR f0 (0+i)) (sv (hdV (f0 ia0.toNat))) (jv1 (f0 ia0.toNat)) (am (hdV (tlV (tlV (f0 ia0.toNat))))) (fun i=>ae tp2 (atV (hdV (tlV (tlV (f0 ia0.toNat)))) i)) (jv3 (f0 ia0.toNat)))])) (.next [] (S62.L0 (i64.wrap (ia0+1))) [])))))) (.ret (V.tup [vi 0,vi 0]))
def m62 (n0:Nat) (f0:FnV):RT S62:=.asm (true=true->n0<=9223372036854775807) (.enter [] (S62.L0 (0)) [])
theorem Xk (n0:Nat) (f0:FnV):dw kQ u0 (D62 n0 f0) (Vm n0 f0) (m62 n0 f0) (PW n0 f0):=⟨⟨by kernel_rfl,by kernel_rfl⟩,fun s=>by cases s <;> exact ⟨by kernel_rfl,by kernel_rfl⟩⟩
def c62 (n0:Nat) (f0:FnV) (ii:Nat):Int:=(F63 (ii - 0) (fun i=>elV tyR f0 (0+i)) (sv (hdV (f0 ii))) (jv1 (f0 ii)) (am (hdV (tlV (tlV (f0 ii))))) (fun i=>ae tp2 (atV (hdV (tlV (tlV (f0 ii)))) i)) (jv3 (f0 ii)))
def r7 (n0:Nat) (f0:FnV):Int:=dM n0 (c62 n0 f0)
def ln (n0:Nat) (f0:FnV):Int:=cj n0 (c62 n0 f0)
theorem QG (n0:Nat) (f0:FnV) (hp:aI n0 f0):evR (Ev (PW n0 f0)) (m62 n0 f0) (.tup [.int .i64 (r7 n0 f0),.int .i64 (ln n0 f0)]):=yab fun hn=>aD (mf (Q:=fun i=>(sv (hdV (f0 i))).size<=9223372036854775807) (fun i x=>.obp ((sv (hdV (f0 i))).size<=9223372036854775807) (.obt x)) (fun i x r h hx=>aO h (ac hx)) (fun _ _=>rfl) hn hp fun i=>rfl)
theorem Zt (n0:Nat) (f0:FnV) (hp:aI n0 (elV tyR f0)):evR (Ev (PW n0 f0)) (m62 n0 f0) (.tup [.int .i64 (r7 n0 (elV tyR f0)),.int .i64 (ln n0 (elV tyR f0))]):=QG n0 f0 hp
def C62:ap:=mkC [.sl tyR,.fn 136 [] []] (fun
 | [.sl n0 f0,.fn _ [] []]=>aI n0 f0
 | _=>False) fun
 | [.sl n0 f0,.fn _ [] []]=>.tup [.int .i64 (r7 n0 f0),.int .i64 (ln n0 f0)]
 | _=>.any
theorem Xh:(vP C62).Ok Tryz.prog 135:=mkE td Tryz.func135 (by kernel_rfl) fun ds hp=>rfs (Xk ..) (Zt _ _ hp)
inductive S68 where
 | L0 (ia0:Int)
def Vj (n0:Nat) (f0:FnV):S68->Env × List O × Option Ex
 | .L0 ia0=>([(11,vi ia0),(10,vi (↑n0:Int)),(9,V.sl n0 (elV tyC f0)),(5,vi 0),(4,vi 0),(0,V.sl n0 (elV tyC f0)),(1,V.fn 142 [] [])],[],none)
def Zd:S68->JJ
 | .L0 ia0=>(0,[])
def TF (n0:Nat) (f0:FnV):T (ck JJ):=aN JJ kQ u0 s68 [V.sl n0 (elV tyC f0),V.fn 142 [] []]
def F6 (n0:Nat) (f0:FnV) (cx:List Cx):Lp JJ:=lpT (atT (TF n0 f0) [])
def XR (n0:Nat) (f0:FnV):JJ->Lp JJ
 | (0,cx)=>F6 n0 f0 cx
 | (_,cx)=>F6 n0 f0 cx
def D68 (n0:Nat) (f0:FnV):LD JJ S68:=⟨Zd,XR n0 f0,Vj n0 f0⟩
def Oe (n0:Nat) (f0:FnV):S68->RT S68
 | .L0 ia0=>.br (decide (ia0 < (↑n0:Int))) (.ob (decide (0<=ia0/\ia0 < (↑n0:Int))) (.ob (decide (0<=ia0/\ia0<=(↑n0:Int))) (.obp ((sv (hdV (f0 ia0.toNat))).size<=(9223372036854775807:Nat)) (.obt (.br (iz (ia0.toNat - 0) (fun i=>elV tyC f0 (0+i)) (sv (hdV (f0 ia0.toNat))) (jv1 (f0 ia0.toNat)) (jv2 (f0 ia0.toNat)) (jv3 (f0 ia0.toNat)) (jv4 (f0 ia0.toNat)) (jv5 (f0 ia0.toNat)) != 0) (.ret (V.tup [vi ia0,vi (iz (ia0.toNat - 0) (fun i=>elV tyC f0 (0+i)) (sv (hdV (f0 ia0.toNat))) (jv1 (f0 ia0.toNat)) (jv2 (f0 ia0.toNat)) (jv3 (f0 ia0.toNat)) (jv4 (f0 ia0.toNat)) (jv5 (f0 ia0.toNat)))])) (.next [] (S68.L0 (i64.wrap (ia0+1))) [])))))) (.ret (V.tup [vi 0,vi 0]))
def m68 (n0:Nat) (f0:FnV):RT S68:=.asm (true=true->n0<=9223372036854775807) (.enter [] (S68.L0 (0)) [])
theorem WM (n0:Nat) (f0:FnV):dw kQ u0 (D68 n0 f0) (TF n0 f0) (m68 n0 f0) (Oe n0 f0):=⟨⟨by kernel_rfl,by kernel_rfl⟩,fun s=>by cases s <;> exact ⟨by kernel_rfl,by kernel_rfl⟩⟩
def c68 (n0:Nat) (f0:FnV) (ii:Nat):Int:=(iz (ii - 0) (fun i=>elV tyC f0 (0+i)) (sv (hdV (f0 ii))) (jv1 (f0 ii)) (jv2 (f0 ii)) (jv3 (f0 ii)) (jv4 (f0 ii)) (jv5 (f0 ii)))
def sd (n0:Nat) (f0:FnV):Int:=dM n0 (c68 n0 f0)
def kT (n0:Nat) (f0:FnV):Int:=cj n0 (c68 n0 f0)
theorem Sr (n0:Nat) (f0:FnV) (hp:aI n0 f0):evR (Ev (Oe n0 f0)) (m68 n0 f0) (.tup [.int .i64 (sd n0 f0),.int .i64 (kT n0 f0)]):=yab fun hn=>aD (mf (Q:=fun i=>(sv (hdV (f0 i))).size<=9223372036854775807) (fun i x=>.obp ((sv (hdV (f0 i))).size<=9223372036854775807) (.obt x)) (fun i x r h hx=>aO h (ac hx)) (fun _ _=>rfl) hn hp fun i=>rfl)
theorem Yi (n0:Nat) (f0:FnV) (hp:aI n0 (elV tyC f0)):evR (Ev (Oe n0 f0)) (m68 n0 f0) (.tup [.int .i64 (sd n0 (elV tyC f0)),.int .i64 (kT n0 (elV tyC f0))]):=Sr n0 f0 hp
def C68:ap:=mkC [.sl tyC,.fn 142 [] []] (fun
 | [.sl n0 f0,.fn _ [] []]=>aI n0 f0
 | _=>False) fun
 | [.sl n0 f0,.fn _ [] []]=>.tup [.int .i64 (sd n0 f0),.int .i64 (kT n0 f0)]
 | _=>.any
theorem Wb:(vP C68).Ok Tryz.prog 141:=mkE td Tryz.func141 (by kernel_rfl) fun ds hp=>rfs (WM ..) (Yi _ _ hp)
end
noncomputable section
def qY:aY:=(146,.con C70)::(135,.con C62)::(141,.con C68)::kQ
theorem EN:aQ Tryz.prog eqs its qY:=.con Uv (.con Xh (.con Wb (td)))
inductive S24 where
 | L0 (ia0:Int)
 | L1 (ib0 ib1:Int)
 | L2 (ic0 ic1 ic2:Int)
 | L3 (id0 id1 id2 id3:Int)
def ya (n0:Nat) (f0:FnV) (n2:Nat) (f2:FnV) (n4:Nat) (f4:FnV) (n6:Nat) (f6:FnV):S24->Env × List O × Option Ex
 | .L0 ia0=>([(5,vi ia0),(34,V.kb false),(29,V.bool (bif bif decide (8 < (↑n0:Int)) then true else decide (12 < (↑n2:Int)) then true else decide (8 < (↑n4:Int)))),(28,V.bool (bif bif decide (8 < (↑n0:Int)) then true else decide (12 < (↑n2:Int)) then true else decide (8 < (↑n4:Int)))),(23,V.bool (bif decide (8 < (↑n0:Int)) then true else decide (12 < (↑n2:Int)))),(22,V.bool (bif decide (8 < (↑n0:Int)) then true else decide (12 < (↑n2:Int)))),(17,V.bool (decide (8 < (↑n0:Int)))),(16,V.bool (decide (8 < (↑n0:Int)))),(15,vi (↑n0:Int)),(14,V.sl n0 (elV tyR f0)),(13,V.pl 0 0),(4,vi 0),(3,vi 0),(2,vi 0),(1,V.pl 0 0),(0,scV n0 f0 n2 f2 n4 f4 n6 f6)],[O.cells [V.sl n0 (elV tyR f0),V.sl n2 (elV tyT f2),V.sl n4 (elV tyF f4),V.sl n6 (elV tyC f6)] 31],none)
 | .L1 ib0 ib1=>([(7,vi ib0),(39,V.kb false),(38,vi (↑n0:Int)),(37,V.sl n0 (elV tyR f0)),(36,V.pl 0 0),(35,vi ib1),(5,vi ib1),(34,V.kb false),(29,V.bool (bif bif decide (8 < (↑n0:Int)) then true else decide (12 < (↑n2:Int)) then true else decide (8 < (↑n4:Int)))),(28,V.bool (bif bif decide (8 < (↑n0:Int)) then true else decide (12 < (↑n2:Int)) then true else decide (8 < (↑n4:Int)))),(23,V.bool (bif decide (8 < (↑n0:Int)) then true else decide (12 < (↑n2:Int)))),(22,V.bool (bif decide (8 < (↑n0:Int)) then true else decide (12 < (↑n2:Int)))),(17,V.bool (decide (8 < (↑n0:Int)))),(16,V.bool (decide (8 < (↑n0:Int)))),(15,vi (↑n0:Int)),(14,V.sl n0 (elV tyR f0)),(13,V.pl 0 0),(4,vi 0),(3,vi 0),(2,vi 0),(1,V.pl 0 0),(0,scV n0 f0 n2 f2 n4 f4 n6 f6)],[O.cells [V.sl n0 (elV tyR f0),V.sl n2 (elV tyT f2),V.sl n4 (elV tyF f4),V.sl n6 (elV tyC f6)] 31],none)
 | .L2 ic0 ic1 ic2=>([(9,vi ic0),(53,V.kb false),(52,vi (↑n2:Int)),(51,V.sl n2 (elV tyT f2)),(50,V.pl 0 1),(49,vi ic1),(7,vi ic1),(39,V.kb false),(38,vi (↑n0:Int)),(37,V.sl n0 (elV tyR f0)),(36,V.pl 0 0),(35,vi ic2),(5,vi ic2),(34,V.kb false),(29,V.bool (bif bif decide (8 < (↑n0:Int)) then true else decide (12 < (↑n2:Int)) then true else decide (8 < (↑n4:Int)))),(28,V.bool (bif bif decide (8 < (↑n0:Int)) then true else decide (12 < (↑n2:Int)) then true else decide (8 < (↑n4:Int)))),(23,V.bool (bif decide (8 < (↑n0:Int)) then true else decide (12 < (↑n2:Int)))),(22,V.bool (bif decide (8 < (↑n0:Int)) then true else decide (12 < (↑n2:Int)))),(17,V.bool (decide (8 < (↑n0:Int)))),(16,V.bool (decide (8 < (↑n0:Int)))),(15,vi (↑n0:Int)),(14,V.sl n0 (elV tyR f0)),(13,V.pl 0 0),(4,vi 0),(3,vi 0),(2,vi 0),(1,V.pl 0 0),(0,scV n0 f0 n2 f2 n4 f4 n6 f6)],[O.cells [V.sl n0 (elV tyR f0),V.sl n2 (elV tyT f2),V.sl n4 (elV tyF f4),V.sl n6 (elV tyC f6)] 31],none)
 | .L3 id0 id1 id2 id3=>([(11,vi id0),(96,V.kb false),(95,vi (↑n4:Int)),(94,V.sl n4 (elV tyF f4)),(93,V.pl 0 2),(92,vi id1),(9,vi id1),(53,V.kb false),(52,vi (↑n2:Int)),(51,V.sl n2 (elV tyT f2)),(50,V.pl 0 1),(49,vi id2),(7,vi id2),(39,V.kb false),(38,vi (↑n0:Int)),(37,V.sl n0 (elV tyR f0)),(36,V.pl 0 0),(35,vi id3),(5,vi id3),(34,V.kb false),(29,V.bool (bif bif decide (8 < (↑n0:Int)) then true else decide (12 < (↑n2:Int)) then true else decide (8 < (↑n4:Int)))),(28,V.bool (bif bif decide (8 < (↑n0:Int)) then true else decide (12 < (↑n2:Int)) then true else decide (8 < (↑n4:Int)))),(23,V.bool (bif decide (8 < (↑n0:Int)) then true else decide (12 < (↑n2:Int)))),(22,V.bool (bif decide (8 < (↑n0:Int)) then true else decide (12 < (↑n2:Int)))),(17,V.bool (decide (8 < (↑n0:Int)))),(16,V.bool (decide (8 < (↑n0:Int)))),(15,vi (↑n0:Int)),(14,V.sl n0 (elV tyR f0)),(13,V.pl 0 0),(4,vi 0),(3,vi 0),(2,vi 0),(1,V.pl 0 0),(0,scV n0 f0 n2 f2 n4 f4 n6 f6)],[O.cells [V.sl n0 (elV tyR f0),V.sl n2 (elV tyT f2),V.sl n4 (elV tyF f4),V.sl n6 (elV tyC f6)] 31],none)
def Yf:S24->JJ
 | .L0 ia0=>(0,[])
 | .L1 ib0 ib1=>(1,[])
 | .L2 ic0 ic1 ic2=>(2,[])
 | .L3 id0 id1 id2 id3=>(3,[])
def Uq (n0:Nat) (f0:FnV) (n2:Nat) (f2:FnV) (n4:Nat) (f4:FnV) (n6:Nat) (f6:FnV):T (ck JJ):=aN JJ qY u0 s24 [scV n0 f0 n2 f2 n4 f4 n6 f6]
def wu (n0:Nat) (f0:FnV) (n2:Nat) (f2:FnV) (n4:Nat) (f4:FnV) (n6:Nat) (f6:FnV) (cx:List Cx):Lp JJ:=lpT (atT (Uq n0 f0 n2 f2 n4 f4 n6 f6) [false])
def E9 (n0:Nat) (f0:FnV) (n2:Nat) (f2:FnV) (n4:Nat) (f4:FnV) (n6:Nat) (f6:FnV) (cx:List Cx):Lp JJ:=lpT (atT (rdP qY u0 (0,[]) (wu n0 f0 n2 f2 n4 f4 n6 f6 []) (ya n0 f0 n2 f2 n4 f4 n6 f6 (.L0 (0:Int)))) [false])
def Dv (n0:Nat) (f0:FnV) (n2:Nat) (f2:FnV) (n4:Nat) (f4:FnV) (n6:Nat) (f6:FnV) (cx:List Cx):Lp JJ:=lpT (atT (rdP qY u0 (1,[]) (E9 n0 f0 n2 f2 n4 f4 n6 f6 []) (ya n0 f0 n2 f2 n4 f4 n6 f6 (.L1 (0:Int) (0:Int)))) [false])
def Rs (n0:Nat) (f0:FnV) (n2:Nat) (f2:FnV) (n4:Nat) (f4:FnV) (n6:Nat) (f6:FnV) (cx:List Cx):Lp JJ:=lpT (atT (rdP qY u0 (2,[]) (Dv n0 f0 n2 f2 n4 f4 n6 f6 []) (ya n0 f0 n2 f2 n4 f4 n6 f6 (.L2 (0:Int) (0:Int) (0:Int)))) [false])
def XV (n0:Nat) (f0:FnV) (n2:Nat) (f2:FnV) (n4:Nat) (f4:FnV) (n6:Nat) (f6:FnV):JJ->Lp JJ
 | (0,cx)=>wu n0 f0 n2 f2 n4 f4 n6 f6 cx
 | (1,cx)=>E9 n0 f0 n2 f2 n4 f4 n6 f6 cx
 | (2,cx)=>Dv n0 f0 n2 f2 n4 f4 n6 f6 cx
 | (3,cx)=>Rs n0 f0 n2 f2 n4 f4 n6 f6 cx
 | (_,cx)=>wu n0 f0 n2 f2 n4 f4 n6 f6 cx
def D24 (n0:Nat) (f0:FnV) (n2:Nat) (f2:FnV) (n4:Nat) (f4:FnV) (n6:Nat) (f6:FnV):LD JJ S24:=⟨Yf,XV n0 f0 n2 f2 n4 f4 n6 f6,ya n0 f0 n2 f2 n4 f4 n6 f6⟩
def qU (n0:Nat) (f0:FnV) (n2:Nat) (f2:FnV) (n4:Nat) (f4:FnV) (n6:Nat) (f6:FnV):S24->RT S24
 | .L0 ia0=>.asm (true=true->n0<=9223372036854775807) (.br (decide (ia0 < (↑n0:Int))) (.obp ((0:Int)<=ia0/\ia0 < (↑n0:Int)/\n0<=(9223372036854775807:Nat)/\∀ (i:Nat),i < n0->(sv (hdV (f0 i))).size<=(9223372036854775807:Nat)) (.obt (.br (F70 n0 (elV tyR f0) ia0 != 0) (.ret (V.tup [vi 1,vi ia0,vi (F70 n0 (elV tyR f0) ia0)])) (.next [some (some 0)] (S24.L0 (i64.wrap (ia0+1))) [])))) (.enter [some (some 0)] (S24.L1 (0) (ia0)) []))
 | .L1 ib0 ib1=>.asm (true=true->n2<=9223372036854775807) (.br (decide (ib0 < (↑n2:Int))) (.ob (decide (0<=ib0/\ib0 < (↑n2:Int))) (.obc (.obt (.obi (.br (!!F51 2 (elV tp1 (bA [vi (jv0 (f2 ib0.toNat)),vi (jv1 (f2 ib0.toNat))] 0 1))) (.ob (!!F51 2 (elV tp1 (bA [vi (jv0 (f2 ib0.toNat)),vi (jv1 (f2 ib0.toNat))] 0 1))) (.obc (.obt (.obi (.obi (.obi (.obi (.obi (.obi (.obi (.obi (.obi (.obi (.obi (.br (bif bif bif !cq (jv2 (f2 ib0.toNat)) 1 20000 then true else decide (jv3 (f2 ib0.toNat) < 0) then true else decide (jv4 (f2 ib0.toNat)<=jv3 (f2 ib0.toNat)) then true else decide (1000 < jv4 (f2 ib0.toNat))) (.ret (V.tup [vi 2,vi ib0,vi 7])) (.next [some (some 0)] (S24.L1 (i64.wrap (ib0+1)) (ib1)) [])))))))))))))))) (.ret (V.tup [vi 2,vi ib0,vi 7]))))))) (.enter [some (some 0)] (S24.L2 (0) (ib0) (ib1)) []))
 | .L2 ic0 ic1 ic2=>.asm (true=true->n4<=9223372036854775807) (.br (decide (ic0 < (↑n4:Int))) (.ob (decide (0<=ic0/\ic0 < (↑n4:Int))) (.obc (.obt (.br ((F72 (jv0 (f4 ic0.toNat)) (jv1 (f4 ic0.toNat)) (jv2 (f4 ic0.toNat)) (jv3 (f4 ic0.toNat)) (am (hdV (tlV (tlV (tlV (tlV (f4 ic0.toNat))))))) fun i=>ae tp4 (atV (hdV (tlV (tlV (tlV (tlV (f4 ic0.toNat)))))) i)) != 0) (.ret (V.tup [vi 3,vi ic0,vi (F72 (jv0 (f4 ic0.toNat)) (jv1 (f4 ic0.toNat)) (jv2 (f4 ic0.toNat)) (jv3 (f4 ic0.toNat)) (am (hdV (tlV (tlV (tlV (tlV (f4 ic0.toNat))))))) fun i=>ae tp4 (atV (hdV (tlV (tlV (tlV (tlV (f4 ic0.toNat)))))) i))])) (.next [some (some 0)] (S24.L2 (i64.wrap (ic0+1)) (ic1) (ic2)) []))))) (.enter [some (some 0)] (S24.L3 (0) (ic0) (ic1) (ic2)) []))
 | .L3 id0 id1 id2 id3=>.asm (true=true->n6<=9223372036854775807) (.br (decide (id0 < (↑n6:Int))) (.obp ((0:Int)<=id0/\id0 < (↑n6:Int)/\n6<=(9223372036854775807:Nat)/\∀ (i:Nat),i < n6->(sv (hdV (f6 i))).size<=(9223372036854775807:Nat)) (.obt (.br (F73 n6 (elV tyC f6) id0 != 0) (.ret (V.tup [vi 4,vi id0,vi (F73 n6 (elV tyC f6) id0)])) (.next [some (some 0)] (S24.L3 (i64.wrap (id0+1)) (id1) (id2) (id3)) [])))) (.ret (V.tup [vi 0,vi 0,vi 0])))
def m24 (n0:Nat) (f0:FnV) (n2:Nat) (f2:FnV) (n4:Nat) (f4:FnV) (n6:Nat) (f6:FnV):RT S24:=.asm (true=true->n0<=9223372036854775807) (.obi (.obi (.asm ((!decide (8 < (↑n0:Int)))=true->n2<=9223372036854775807) (.obi (.obi (.obi (.obi (.asm ((!bif decide (8 < (↑n0:Int)) then true else decide (12 < (↑n2:Int)))=true->n4<=9223372036854775807) (.obi (.obi (.obi (.obi (.asm ((!bif bif decide (8 < (↑n0:Int)) then true else decide (12 < (↑n2:Int)) then true else decide (8 < (↑n4:Int)))=true->n6<=9223372036854775807) (.obi (.obi (.br (bif bif bif decide (8 < (↑n0:Int)) then true else decide (12 < (↑n2:Int)) then true else decide (8 < (↑n4:Int)) then true else decide (24 < (↑n6:Int))) (.ret (V.tup [vi 0,vi 0,vi 3])) (.enter [some (some 0)] (S24.L0 (0)) [])))))))))))))))))
theorem Vx (n0:Nat) (f0:FnV) (n2:Nat) (f2:FnV) (n4:Nat) (f4:FnV) (n6:Nat) (f6:FnV):dw qY u0 (D24 n0 f0 n2 f2 n4 f4 n6 f6) (Uq n0 f0 n2 f2 n4 f4 n6 f6) (m24 n0 f0 n2 f2 n4 f4 n6 f6) (qU n0 f0 n2 f2 n4 f4 n6 f6):=⟨⟨by kernel_rfl,by kernel_rfl⟩,fun s=>by cases s <;> exact ⟨by kernel_rfl,by kernel_rfl⟩⟩
def tri (t:Int × Int × Int):V:=.tup [.int .i64 t.1,.int .i64 t.2.1,.int .i64 t.2.2]
def ud (x y a z w:Int):Int:=bif !!l8 x y then (bif (bif bif bif !cq a 1 20000 then true else decide (z < 0) then true else decide (w<=z) then true else decide (1000 < w)) then 7 else 0) else 7
def r24 (n:Nat) (c:Nat->Int) (k:Int) (z:Int × Int × Int):Int × Int × Int:=bif cj n c != 0 then (k,dM n c,cj n c) else z
def cR (n0:Nat) (f0:FnV) (i:Nat):Int:=F70 n0 (elV tyR f0) (i:Int)
def cT (f2:FnV) (i:Nat):Int:=ud (jv0 (f2 i)) (jv1 (f2 i)) (jv2 (f2 i)) (jv3 (f2 i)) (jv4 (f2 i))
def cF (f4:FnV) (i:Nat):Int:=F72 (jv0 (f4 i)) (jv1 (f4 i)) (jv2 (f4 i)) (jv3 (f4 i)) (am (hdV (tlV (tlV (tlV (tlV (f4 i))))))) fun j=>ae tp4 (atV (hdV (tlV (tlV (tlV (tlV (f4 i)))))) j)
def cC (n6:Nat) (f6:FnV) (i:Nat):Int:=F73 n6 (elV tyC f6) (i:Int)
def z3 (n6:Nat) (f6:FnV):Int × Int × Int:=r24 n6 (cC n6 f6) 4 (0,0,0)
def z2 (n4:Nat) (f4:FnV) (n6:Nat) (f6:FnV):Int × Int × Int:=r24 n4 (cF f4) 3 (z3 n6 f6)
def z1 (n2:Nat) (f2:FnV) (n4:Nat) (f4:FnV) (n6:Nat) (f6:FnV):Int × Int × Int:=r24 n2 (cT f2) 2 (z2 n4 f4 n6 f6)
def Bg (n0:Nat) (f0:FnV) (n2:Nat) (f2:FnV) (n4:Nat) (f4:FnV) (n6:Nat) (f6:FnV):Bool:=bif bif bif decide (8 < (n0:Int)) then true else decide (12 < (n2:Int)) then true else decide (8 < (n4:Int)) then true else decide (24 < (n6:Int))
def F24 (n0:Nat) (f0:FnV) (n2:Nat) (f2:FnV) (n4:Nat) (f4:FnV) (n6:Nat) (f6:FnV):Int × Int × Int:=bif Bg n0 f0 n2 f2 n4 f4 n6 f6 then (0,0,3) else r24 n0 (cR n0 f0) 1 (z1 n2 f2 n4 f4 n6 f6)
def BG (n0:Nat) (f0:FnV) (n2:Nat) (f2:FnV) (n4:Nat) (f4:FnV) (n6:Nat) (f6:FnV):Int:=(F24 n0 f0 n2 f2 n4 f4 n6 f6).1
def E7 (n0:Nat) (f0:FnV) (n2:Nat) (f2:FnV) (n4:Nat) (f4:FnV) (n6:Nat) (f6:FnV):Int:=(F24 n0 f0 n2 f2 n4 f4 n6 f6).2.1
def jU (n0:Nat) (f0:FnV) (n2:Nat) (f2:FnV) (n4:Nat) (f4:FnV) (n6:Nat) (f6:FnV):Int:=(F24 n0 f0 n2 f2 n4 f4 n6 f6).2.2
theorem yag {n:Nat} {c:Nat->Int} {i:Nat} (k:Int) (z:Int × Int × Int) (hi:i < n) (hc:(c i != 0)=true) (h:∀ j,j < i->(c j != 0)=false):r24 n c k z=(k,(i:Int),c i):=by
 unfold r24
 obtain ⟨e1,e2⟩:=bH hi hc h
 rw [e1,e2,hc]; rfl
theorem gY {n:Nat} {c:Nat->Int} (k:Int) (z:Int × Int × Int) (h:∀ j,j < n->(c j != 0)=false):r24 n c k z=z:=by
 unfold r24
 obtain ⟨e1,e2⟩:=eq h
 rw [e1,e2]; rfl
theorem U2 (n0:Nat) (f0:FnV) (n2:Nat) (f2:FnV) (n4:Nat) (f4:FnV) (n6:Nat) (f6:FnV) (hs:aI n6 f6) (i1 i2 i3:Int):Ev (qU n0 f0 n2 f2 n4 f4 n6 f6) (.L3 0 i1 i2 i3) (tri (z3 n6 f6)):=by
 by_cases hn:n6<=9223372036854775807
 ·refine fL (n:=n6) hn (fun i=>cC n6 f6 i != 0) (P:=fun i=>Ev (qU n0 f0 n2 f2 n4 f4 n6 f6) (.L3 i i1 i2 i3) _) (fun i hlt hj next=>Ev.of rfl (aE fun _=>bK hlt (aO ⟨by omega,by omega,hn,hs⟩ (ac (aw (fun hb=>ah ?_) (fun hb=>aR (next hb))))))) (fun hj=>Ev.of rfl (aE fun _=>bu (ah ?_)))
  ·unfold z3; rw [yag 4 _ hlt hb hj]; rfl
  ·unfold z3; rw [gY 4 _ hj]; rfl
 ·exact Ev.of rfl (aE fun h=>absurd (h rfl) hn)
theorem Wq (n0:Nat) (f0:FnV) (n2:Nat) (f2:FnV) (n4:Nat) (f4:FnV) (n6:Nat) (f6:FnV) (hs:aI n6 f6) (i1 i2:Int):Ev (qU n0 f0 n2 f2 n4 f4 n6 f6) (.L2 0 i1 i2) (tri (z2 n4 f4 n6 f6)):=by
 by_cases hn:n4<=9223372036854775807
 ·refine fL (n:=n4) hn (fun i=>cF f4 i != 0) (P:=fun i=>Ev (qU n0 f0 n2 f2 n4 f4 n6 f6) (.L2 i i1 i2) _) (fun i hlt hj next=>Ev.of rfl (aE fun _=>bK hlt (yac hlt (ao (ac (aw (fun hb=>ah ?_) (fun hb=>aR (next hb)))))))) (fun hj=>Ev.of rfl (aE fun _=>bu (aD ?_)))
  ·unfold z2; rw [yag 3 _ hlt hb hj]; rfl
  ·unfold z2; rw [gY 3 _ hj]; exact U2 n0 f0 n2 f2 n4 f4 n6 f6 hs _ _ _
 ·exact Ev.of rfl (aE fun h=>absurd (h rfl) hn)
theorem T2 (n0:Nat) (f0:FnV) (n2:Nat) (f2:FnV) (n4:Nat) (f4:FnV) (n6:Nat) (f6:FnV) (hs:aI n6 f6) (i1:Int):Ev (qU n0 f0 n2 f2 n4 f4 n6 f6) (.L1 0 i1) (tri (z1 n2 f2 n4 f4 n6 f6)):=by
 by_cases hn:n2<=9223372036854775807
 ·refine fL (n:=n2) hn (fun i=>cT f2 i != 0) (P:=fun i=>Ev (qU n0 f0 n2 f2 n4 f4 n6 f6) (.L1 i i1) _) (fun i hlt hj next=>Ev.of rfl (aE fun _=>bK hlt (yac hlt (ao (ac (ak (aw (fun h=>aH h (ao (ac ?_))) (fun h=>ah ?_)))))))) (fun hj=>Ev.of rfl (aE fun _=>bu (aD ?_)))
  ·repeat refine ak ?_
   refine aw (fun hb=>ah ?_) (fun hb=>aR (next ?_))
   ·have e:cT f2 i=7:=by
     unfold cT ud
     rw [show (!!l8 (jv0 (f2 i)) (jv1 (f2 i)))=true from h]
     exact (congrArg (fun c=>bif c then (7:Int) else 0) hb).trans rfl
    unfold z1; rw [yag 2 _ hlt (by rw [e]; rfl) hj,e]; rfl
   ·have e:cT f2 i=0:=by
     unfold cT ud
     rw [show (!!l8 (jv0 (f2 i)) (jv1 (f2 i)))=true from h]
     exact (congrArg (fun c=>bif c then (7:Int) else 0) hb).trans rfl
    rw [e]; rfl
  ·have e:cT f2 i=7:=by
    unfold cT ud
    rw [show (!!l8 (jv0 (f2 i)) (jv1 (f2 i)))=false from h]; rfl
   unfold z1; rw [yag 2 _ hlt (by rw [e]; rfl) hj,e]; rfl
  ·unfold z1; rw [gY 2 _ hj]; exact Wq n0 f0 n2 f2 n4 f4 n6 f6 hs _ _
 ·exact Ev.of rfl (aE fun h=>absurd (h rfl) hn)
theorem UC (n0:Nat) (f0:FnV) (n2:Nat) (f2:FnV) (n4:Nat) (f4:FnV) (n6:Nat) (f6:FnV) (hr:aI n0 f0) (hs:aI n6 f6):Ev (qU n0 f0 n2 f2 n4 f4 n6 f6) (.L0 0) (tri (r24 n0 (cR n0 f0) 1 (z1 n2 f2 n4 f4 n6 f6))):=by
 by_cases hn:n0<=9223372036854775807
 ·refine fL (n:=n0) hn (fun i=>cR n0 f0 i != 0) (P:=fun i=>Ev (qU n0 f0 n2 f2 n4 f4 n6 f6) (.L0 i) _) (fun i hlt hj next=>Ev.of rfl (aE fun _=>bK hlt (aO ⟨by omega,by omega,hn,hr⟩ (ac (aw (fun hb=>ah ?_) (fun hb=>aR (next hb))))))) (fun hj=>Ev.of rfl (aE fun _=>bu (aD ?_)))
  ·rw [yag 1 _ hlt hb hj]; rfl
  ·rw [gY 1 _ hj]; exact T2 n0 f0 n2 f2 n4 f4 n6 f6 hs _
 ·exact Ev.of rfl (aE fun h=>absurd (h rfl) hn)
theorem PT (n0:Nat) (f0:FnV) (n2:Nat) (f2:FnV) (n4:Nat) (f4:FnV) (n6:Nat) (f6:FnV) (hp:aI n0 f0/\aI n6 f6):evR (Ev (qU n0 f0 n2 f2 n4 f4 n6 f6)) (m24 n0 f0 n2 f2 n4 f4 n6 f6) (.tup [.int .i64 (BG n0 f0 n2 f2 n4 f4 n6 f6),.int .i64 (E7 n0 f0 n2 f2 n4 f4 n6 f6),.int .i64 (jU n0 f0 n2 f2 n4 f4 n6 f6)]):=by
 show evR _ _ (tri (F24 n0 f0 n2 f2 n4 f4 n6 f6))
 unfold F24
 repeat (first | refine ak ?_ | refine aE fun _=>?_)
 refine aw (fun h=>ah ?_) (fun h=>aD ?_)
 ·rw [show Bg n0 f0 n2 f2 n4 f4 n6 f6=true from h]; rfl
 ·rw [show Bg n0 f0 n2 f2 n4 f4 n6 f6=false from h]; exact UC n0 f0 n2 f2 n4 f4 n6 f6 hp.1 hp.2
theorem XX (n0:Nat) (f0:FnV) (n2:Nat) (f2:FnV) (n4:Nat) (f4:FnV) (n6:Nat) (f6:FnV) (hp:aI n0 (elV tyR f0)/\aI n6 (elV tyC f6)):evR (Ev (qU n0 f0 n2 f2 n4 f4 n6 f6)) (m24 n0 f0 n2 f2 n4 f4 n6 f6) (.tup [.int .i64 (BG n0 (elV tyR f0) n2 (elV tyT f2) n4 (elV tyF f4) n6 (elV tyC f6)),.int .i64 (E7 n0 (elV tyR f0) n2 (elV tyT f2) n4 (elV tyF f4) n6 (elV tyC f6)),.int .i64 (jU n0 (elV tyR f0) n2 (elV tyT f2) n4 (elV tyF f4) n6 (elV tyC f6))]):=PT n0 f0 n2 f2 n4 f4 n6 f6 hp
def C24:ap:=mkC [.agg [.sl tyR,.sl tyT,.sl tyF,.sl tyC]] (fun
 | [.agg [.sl n0 f0,.sl n2 f2,.sl n4 f4,.sl n6 f6]]=>aI n0 f0/\aI n6 f6
 | _=>False) fun
 | [.agg [.sl n0 f0,.sl n2 f2,.sl n4 f4,.sl n6 f6]]=>.tup [.int .i64 (BG n0 f0 n2 f2 n4 f4 n6 f6),.int .i64 (E7 n0 f0 n2 f2 n4 f4 n6 f6),.int .i64 (jU n0 f0 n2 f2 n4 f4 n6 f6)]
 | _=>.any
theorem X4:(vP C24).Ok Tryz.prog 64:=mkE EN Tryz.func64 (by kernel_rfl) fun ds hp=>rfs (Vx ..) (XX _ _ _ _ _ _ _ _ hp)
def m23 (n0:Nat) (f0:FnV) (n2:Nat) (f2:FnV) (n4:Nat) (f4:FnV) (n6:Nat) (f6:FnV):RT Empty:=.asm (true=true->n0<=9223372036854775807) (.obi (.obi (.asm ((!decide (8 < (↑n0:Int)))=true->n2<=9223372036854775807) (.obi (.obi (.obi (.obi (.asm ((!bif decide (8 < (↑n0:Int)) then true else decide (12 < (↑n2:Int)))=true->n4<=9223372036854775807) (.obi (.obi (.obi (.obi (.asm ((!bif bif decide (8 < (↑n0:Int)) then true else decide (12 < (↑n2:Int)) then true else decide (8 < (↑n4:Int)))=true->n6<=9223372036854775807) (.obi (.obi (.br (bif bif bif decide (8 < (↑n0:Int)) then true else decide (12 < (↑n2:Int)) then true else decide (8 < (↑n4:Int)) then true else decide (24 < (↑n6:Int))) (.ret (V.tup [vi 0,vi 0,vi 3])) (.obp (∀ (i:Nat),i < n0->(sv (hdV (f0 i))).size<=(9223372036854775807:Nat)) (.obt (.br (ln n0 (elV tyR f0) != 0) (.ret (V.tup [vi 1,vi (r7 n0 (elV tyR f0)),vi (ln n0 (elV tyR f0))])) (.obc (.obt (.br (lc n2 (elV tyT f2) != 0) (.ret (V.tup [vi 2,vi (rl n2 (elV tyT f2)),vi (lc n2 (elV tyT f2))])) (.obc (.obt (.br (kR n4 (elV tyF f4) != 0) (.ret (V.tup [vi 3,vi (rS n4 (elV tyF f4)),vi (kR n4 (elV tyF f4))])) (.obp (∀ (i:Nat),i < n6->(sv (hdV (f6 i))).size<=(9223372036854775807:Nat)) (.obt (.br (kT n6 (elV tyC f6) != 0) (.ret (V.tup [vi 4,vi (sd n6 (elV tyC f6)),vi (kT n6 (elV tyC f6))])) (.ret (V.tup [vi 0,vi 0,vi 0]))))))))))))))))))))))))))))))
theorem TV (n0:Nat) (f0:FnV) (n2:Nat) (f2:FnV) (n4:Nat) (f4:FnV) (n6:Nat) (f6:FnV):Fit noD (aN JJ qY u0 s23 [scV n0 f0 n2 f2 n4 f4 n6 f6]) (m23 n0 f0 n2 f2 n4 f4 n6 f6):=⟨by kernel_rfl,by kernel_rfl⟩
def mK (n0:Nat) (f0:FnV) (n2:Nat) (f2:FnV) (n4:Nat) (f4:FnV) (n6:Nat) (f6:FnV):Int:=bif bif bif bif decide (8 < (↑n0:Int)) then true else decide (12 < (↑n2:Int)) then true else decide (8 < (↑n4:Int)) then true else decide (24 < (↑n6:Int)) then 0 else bif ln n0 (elV tyR f0) != 0 then 1 else bif lc n2 (elV tyT f2) != 0 then 2 else bif kR n4 (elV tyF f4) != 0 then 3 else bif kT n6 (elV tyC f6) != 0 then 4 else 0
def mz (n0:Nat) (f0:FnV) (n2:Nat) (f2:FnV) (n4:Nat) (f4:FnV) (n6:Nat) (f6:FnV):Int:=bif bif bif bif decide (8 < (↑n0:Int)) then true else decide (12 < (↑n2:Int)) then true else decide (8 < (↑n4:Int)) then true else decide (24 < (↑n6:Int)) then 0 else bif ln n0 (elV tyR f0) != 0 then r7 n0 (elV tyR f0) else bif lc n2 (elV tyT f2) != 0 then rl n2 (elV tyT f2) else bif kR n4 (elV tyF f4) != 0 then rS n4 (elV tyF f4) else bif kT n6 (elV tyC f6) != 0 then sd n6 (elV tyC f6) else 0
def iA (n0:Nat) (f0:FnV) (n2:Nat) (f2:FnV) (n4:Nat) (f4:FnV) (n6:Nat) (f6:FnV):Int:=bif bif bif bif decide (8 < (↑n0:Int)) then true else decide (12 < (↑n2:Int)) then true else decide (8 < (↑n4:Int)) then true else decide (24 < (↑n6:Int)) then 3 else bif ln n0 (elV tyR f0) != 0 then ln n0 (elV tyR f0) else bif lc n2 (elV tyT f2) != 0 then lc n2 (elV tyT f2) else bif kR n4 (elV tyF f4) != 0 then kR n4 (elV tyF f4) else bif kT n6 (elV tyC f6) != 0 then kT n6 (elV tyC f6) else 0
def R23 (n0:Nat) (f0:FnV) (n2:Nat) (f2:FnV) (n4:Nat) (f4:FnV) (n6:Nat) (f6:FnV):V:=.tup [.int i64 (mK n0 f0 n2 f2 n4 f4 n6 f6),.int i64 (mz n0 f0 n2 f2 n4 f4 n6 f6),.int i64 (iA n0 f0 n2 f2 n4 f4 n6 f6)]
theorem YJ (n0:Nat) (f0:FnV) (n2:Nat) (f2:FnV) (n4:Nat) (f4:FnV) (n6:Nat) (f6:FnV) (hp:aI n0 f0/\aI n6 f6):evR noE (m23 n0 f0 n2 f2 n4 f4 n6 f6) (R23 n0 f0 n2 f2 n4 f4 n6 f6):=aE (fun a0=>ak (ak (aE (fun a0=>ak (ak (ak (ak (aE (fun a0=>ak (ak (ak (ak (aE (fun a0=>ak (ak (aw (fun h0=>ah (by unfold R23 mK mz iA; try rw [h0]; rfl)) (fun h0=>aO (by first | assumption | ((first | exact hp.1 | exact hp.2))) (ac (aw (fun h1=>ah (by unfold R23 mK mz iA; try rw [h0]; try rw [h1]; rfl)) (fun h1=>ao (ac (aw (fun h2=>ah (by unfold R23 mK mz iA; try rw [h0]; try rw [h1]; try rw [h2]; rfl)) (fun h2=>ao (ac (aw (fun h3=>ah (by unfold R23 mK mz iA; try rw [h0]; try rw [h1]; try rw [h2]; try rw [h3]; rfl)) (fun h3=>aO (by first | assumption | ((first | exact hp.1 | exact hp.2))) (ac (aw (fun h4=>ah (by unfold R23 mK mz iA; try rw [h0]; try rw [h1]; try rw [h2]; try rw [h3]; try rw [h4]; rfl)) (fun h4=>ah (by unfold R23 mK mz iA; try rw [h0]; try rw [h1]; try rw [h2]; try rw [h3]; try rw [h4]; rfl))))))))))))))))))))))))))))))
def C23:ap:=mkC [.agg [.sl tyR,.sl tyT,.sl tyF,.sl tyC]] (fun
 | [.agg [.sl n0 f0,.sl n2 f2,.sl n4 f4,.sl n6 f6]]=>aI n0 f0/\aI n6 f6
 | _=>False) fun
 | [.agg [.sl n0 f0,.sl n2 f2,.sl n4 f4,.sl n6 f6]]=>R23 n0 f0 n2 f2 n4 f4 n6 f6
 | _=>.any
theorem W8:(vP C23).Ok Tryz.prog 60:=mkE EN Tryz.func60 (by kernel_rfl) fun ds hp=>rf0 (TV ..) (YJ _ _ _ _ _ _ _ _ hp)
end
noncomputable section
def Zi (f8:FnV) (k:Nat):Bool:=ba (jv0 (f8 (2 * k))) 0 (i64.wrap (jv0 (f8 (2 * k+1)) - 1))
def Y5 (n8:Nat) (f8:FnV) (e:Int):Int:=bif e == 0 then (bif exB (n8 / 2) (Zi f8) then 4 else 0) else e
def F44 (n0:Nat) (f0:FnV) (n2:Nat) (f2:FnV) (n4:Nat) (f4:FnV) (n6:Nat) (f6:FnV) (n8:Nat) (f8:FnV):Int:=Y5 n8 f8 (iA n0 (elV tyR f0) n2 (elV tyT f2) n4 (elV tyF f4) n6 (elV tyC f6))
def Cv (n0:Nat) (f0:FnV) (n2:Nat) (f2:FnV) (n4:Nat) (f4:FnV) (n6:Nat) (f6:FnV):Int:=jU n0 (elV tyR f0) n2 (elV tyT f2) n4 (elV tyF f4) n6 (elV tyC f6)
end
noncomputable section
def T4 (n0:Nat) (f0:FnV) (n2:Nat) (f2:FnV) (n4:Nat) (f4:FnV) (n6:Nat) (f6:FnV) (x8 x9:Int):Int:=bif bif Cv n0 (elV tyR f0) n2 (elV tyT f2) n4 (elV tyF f4) n6 (elV tyC f6) == 0 then bif decide (x8 < 0) then true else decide (x9<=x8) else false then 4 else Cv n0 (elV tyR f0) n2 (elV tyT f2) n4 (elV tyF f4) n6 (elV tyC f6)
end
end Go.Dx
namespace Go.Dx
open Go.IntKind (i64 u64 u8)
open Go.Sx
noncomputable section
end
end Go.Dx
namespace Go.Dx
open Go.IntKind (i64 u64 u8)
open Go.Sx Go.Proofs
noncomputable section
attribute [local irreducible] F44 T4 Cv
end
end Go.Dx
namespace Go.Proofs
open Go.RowKit Go.Dx
def sG (b:Int) (i:Int):Bool:=bif !(bif decide (97<=b) then decide (b<=122) else false) then (bif i == 0 then true else bif !(bif decide (48<=b) then decide (b<=57) else false) then b != 45 else false) else false
def fS (s:ByteArray):Bool:=bL s.size (fun i=>!sG ((s.data.toList.getD i 0).toNat:Int) i) && decide (0 < s.size/\s.size<=24)
theorem Qx {p:Prop} (h:p):Hid p:=h
theorem u6 (w:World) (e:TypeId) (s:ByteArray):Below w.heap.size w (Lib.bytesWorld w e s):=by
 refine ⟨rfl,rfl,rfl,?_,fun b hb=>Lib.bytesWorld_at_old w e s b hb⟩
 rw [Lib.bytesWorld_size]; omega
theorem kf (x k:Nat):sG (x:Int) (k:Int)=true ↔ ¬ (97<=x/\x<=122)/\(k=0 ∨ ¬ (48<=x/\x<=57)/\x ≠ 45):=by
 have key:∀ (p1 p2 p3 p4 p5 p6:Bool),(bif !(bif p1 then p2 else false) then (bif p3 then true else bif !(bif p4 then p5 else false) then p6 else false) else false)=true ↔ ¬ (p1=true/\p2=true)/\(p3=true ∨ ¬ (p4=true/\p5=true)/\p6=true):=by decide
 unfold sG
 rw [key]
 simp only [decide_eq_true_eq,beq_iff_eq,bne_iff_ne,ne_eq]
 omega
theorem E4 {s:ByteArray} {k x:Nat} (hk:k < s.size) (hx:(s.data.toList.getD k 0).toNat=x) (h:¬ (97<=x/\x<=122)/\(k=0 ∨ ¬ (48<=x/\x<=57)/\x ≠ 45)):fS s=false:=by
 unfold fS
 rw [dK k hk (by rw [hx,(kf x k).2 h]; rfl)]; rfl
theorem AE {s:ByteArray} {k x:Nat} (hsp:∀ j:Nat,j < k->sG ((s.data.toList.getD j 0).toNat:Int) j=false) (hx:(s.data.toList.getD k 0).toNat=x) (h:¬ (¬ (97<=x/\x<=122)/\(k=0 ∨ ¬ (48<=x/\x<=57)/\x ≠ 45))):∀ j:Nat,j < k+1->sG ((s.data.toList.getD j 0).toNat:Int) j=false:=fun j hj=>by
 by_cases e:j=k
 ·subst e
  rw [hx]
  cases hb:sG (x:Int) j with
  | false=>rfl
  | true=>exact (h ((kf x j).1 hb)).elim
 ·exact hsp j (by omega)
theorem CB {s:ByteArray} (hsp:∀ j:Nat,j < s.size->sG ((s.data.toList.getD j 0).toNat:Int) j=false):fS s=decide (0 < s.size/\s.size<=24):=by
 unfold fS
 rw [dk fun i hi=>by rw [hsp i hi]; rfl]; rfl
theorem M8 (s:ByteArray):s.toList=[] ↔ s.size=0:=by
 rw [ByteArray.toList_eq]
 obtain ⟨⟨l⟩⟩:=s
 show l=[] ↔ l.length=0
 exact List.length_eq_zero_iff.symm
set_option maxHeartbeats 4000000 in
theorem Tryz.name_calls (s:ByteArray) (w:World) (hs:s.size<=9223372036854775807):Calls Tryz.prog 196 #[.string s] w fun e w'=>e=.returned (.bool (fS s))/\Below w.heap.size w w':=by
 have hB:∀ t,t < s.size->(Lib.bytesWorld w 5 s).cell? ⟨w.heap.size,t,none⟩=some (.int .u8 (s.data.toList.getD t 0).toNat):=fun t ht=>Lib.bytesWorld_cell w 5 s t ht
 have hbel:=u6 w 5 s
 go_enter Tryz.func196,Tryz.ntmps196
 go_wp2
 rw [Lib.run_convert_string_bytes w 9 278 5 s (u:=.string) (by kernel_rfl) (by kernel_rfl) (by kernel_rfl)]
 simp only [Result.andThen]
 rw [Oper.upon_value]
 obtain ⟨W1,hW1⟩:∃ W1,W1=Lib.bytesWorld w 5 s:=⟨_,rfl⟩
 rw [← hW1] at hB hbel ⊢
 have HW:=Qx hW1
 have HB:=Qx hB
 clear hW1 hB
 go_wp2
 go_loop [9] (fun i=>∃ k:Nat,k<=s.size/\i=.int .i64 k/\Hid (∀ j:Nat,j < k->sG ((s.data.toList.getD j 0).toNat:Int) j=false)) (fun i=>s.size - (intOf i).toNat)
 case atStart=>exact ⟨0,Nat.zero_le _,rfl,fun j hj=>absurd hj (Nat.not_lt_zero _)⟩
 case round =>
  obtain ⟨k,hk,rfl,hsp⟩:=hrel
  by_cases hkn:k < s.size
  ·have hc1:=HB.out k hkn
   generalize hx:(s.data.toList.getD k 0).toNat=x at hc1
   have Hx:=Qx hx
   clear hx
   go_wp2
   all_goals first
    | (go_ret
       have hb:=E4 hkn Hx (by clear HB hsp Hx hc1 HW hbel; try simp only [Bool.not_eq_true',Bool.not_eq_false',decide_eq_false_iff_not,decide_eq_true_eq,beq_iff_eq,bne_iff_ne,ne_eq,beq_eq_false_iff_ne,bne_eq_false_iff_eq] at *; omega)
       rw [hb]; exact ⟨rfl,hbel⟩)
    | exact ⟨⟨k+1,by omega,by first | rfl | (congr 1; omega),AE hsp Hx (by clear HB hsp Hx hc1 HW hbel; try simp only [Bool.not_eq_true',Bool.not_eq_false',decide_eq_false_iff_not,decide_eq_true_eq,beq_iff_eq,bne_iff_ne,ne_eq,beq_eq_false_iff_ne,bne_eq_false_iff_eq] at *; omega)⟩,by simp [intOf]; omega⟩
    | skip
   trace_state
  ·obtain rfl:k=s.size:=by omega
   have he:=CB hsp
   go_wp2
   ·go_ret
    rename_i h _
    rw [(M8 s).1 h]
    exact ⟨rfl,hbel⟩
   ·go_ret
    rename_i h _
    refine ⟨?_,hbel⟩
    have h0:s.size ≠ 0:=fun e=>h ((M8 s).2 e)
    have e1:s.toList.isEmpty=false:=by cases hl:s.toList with
     | nil=>exact (h hl).elim
     | cons a l=>rfl
    have e2:decide (0 < s.size)=true:=decide_eq_true (by omega)
    have e3:decide ((s.size:Int)<=24)=decide (s.size<=24):=decide_eq_decide.2 (by omega)
    rw [e2]
    show Ending.returned (.bool (!s.toList.isEmpty && decide ((s.size:Int)<=24)))=_
    rw [e1,e3]; rfl
end Go.Proofs
namespace Go.Dx
open Go.Sx Go.Proofs
def EV:ap:=mkC [.str] (fun
 | [.str s]=>s.size<=9223372036854775807
 | _=>False) fun
 | [.str s]=>.bool (fS s)
 | _=>.any
theorem SL:(vP EV).Ok Tryz.prog 196:=by
 refine ⟨fun B m lh w args vs K hrel hargs hsp=>?_,fun _ _ _ _ _ hk ⟨ds,d,p,r,h1,h2,h3,h4,h5⟩=>⟨ds,d,p,r,h1,h2,h3,h4,hk _ _ h5⟩,fun _ _ _ _ ⟨_,_,_,_,_,_,_,_,h⟩=>h⟩
 obtain ⟨ds,d,p,r,h1,h2,⟨h30,h3⟩,h4,h5⟩:=hsp
 simp only [EV,mkC,Option.some.injEq,Prod.mk.injEq] at h2
 obtain ⟨rfl,rfl,rfl⟩:=h2
 have hty:=(fM [.str] ds [] [] rfl h30).1
 simp only [aV,bQ] at hty
 obtain ⟨e1,e2,e3⟩:=hty
 rw [e2,e3] at e1
 generalize sv (hdV ds)=s at e1
 subst e1
 simp only [iq,unq] at h3 h4 h5
 simp only [vrs,vr] at h1
 obtain ⟨_,_,rfl,rfl,rfl⟩:=h1
 simp only [al,vrel] at hargs
 obtain ⟨_,_,rfl,rfl,rfl⟩:=hargs
 refine ⟨⟨_,Tryz.func196,by kernel_rfl,by kernel_rfl⟩,(Tryz.name_calls s w h3).mono fun e w' ⟨he,hb⟩=>?_⟩
 exact ⟨_,_,m,lh,he,by simp only [toA,vrel],Ext.refl _ _,aL.below hrel hb,h5⟩
end Go.Dx
namespace Go.Dx
open Go.IntKind (i64 u64 u8)
open Go.Sx Go.Proofs
noncomputable section
def oO:aY:=[(64,.con C24),(60,.con C23),(146,.con C70),(135,.con C62),(141,.con C68),(136,.con C63),(142,.con C69),(211,.inl WN u0),(210,.inl S6 u0),(209,.con Po),(207,.con Re),(150,.con C73),(253,.con R1),(137,.con C64),(139,.con C66),(205,.con KX),(138,.con C65),(140,.con C67),(219,.con JN),(149,.con C72),(206,.con C45),(208,.con C90),(213,.con J6),(215,.con Hc),(152,.con C99),(252,.con I5),(254,.con GY),(255,.con Kg),(204,.con IB),(212,.con IP),(214,.con HN),(147,.con C51),(221,.con Ke),(250,.con Iz),(161,.con C86),(148,.con C71),(251,.con IA),(196,.con EV)]
theorem j5:aQ Tryz.prog eqs its oO:=.con X4 (.con W8 (.con Uv (.con Xh (.con Wb (.con VH (.con Wi (.inl Tryz.func211 (by kernel_rfl) (by kernel_rfl) (by kernel_rfl) (.inl Tryz.func210 (by kernel_rfl) (by kernel_rfl) (by kernel_rfl) (.con LW (.con Nz (.con UK (.con NH (.con TQ (.con Vb (.con CQ (.con Qh (.con R3 (.con Gj (.con R8 (.con Ol (.con Ra (.con FL (.con CI (.con Rq (.con yas (.con Eo (.con Cc (.con El (.con Dw (.con Fs (.con Qj (.con CG (.con BV (.con JW (.con Sw (.con MA (.con SL (.nil))))))))))))))))))))))))))))))))))))))
def Ni (x0 x1 x2:Int):RT Empty:=.obi (.obi (.obi (.ret (V.bool (bif decide (x1<=x0) then decide (x0<=x2) else false)))))
theorem G3 (x0 x1 x2:Int):Fit noD (aN JJ oO u0 WL [vi x0,vi x1,vi x2]) (Ni x0 x1 x2):=⟨by kernel_rfl,by kernel_rfl⟩
def au (x0 x1 x2:Int):Bool:=bif decide (x1<=x0) then decide (x0<=x2) else false
def Dt (x0 x1 x2:Int):V:=.bool (au x0 x1 x2)
theorem OZ (x0 x1 x2:Int):evR noE (Ni x0 x1 x2) (Dt x0 x1 x2):=ak (ak (ak (ah (by unfold Dt au; rfl))))
def B9:ap:=mkC [.int .i64,.int .i64,.int .i64] (fun _=>True) fun
 | [.int _ x0,.int _ x1,.int _ x2]=>Dt x0 x1 x2
 | _=>.any
theorem F8:(vP B9).Ok Tryz.prog 133:=mkE j5 Tryz.func133 (by kernel_rfl) fun ds hp=>rf0 (G3 ..) (OZ _ _ _)
def K5 (x0 x1 x2 x3:Int):RT Empty:=.obi (.obi (.obi (.obi (.obi (.obi (.obi (.obi (.obi (.ret (V.bool (bif bif decide (x2<=x0) then decide (x0<=x1) else false then decide (x1<=x3) else false)))))))))))
theorem KL (x0 x1 x2 x3:Int):Fit noD (aN JJ oO u0 WX [V.agg [vi x0,vi x1],vi x2,vi x3]) (K5 x0 x1 x2 x3):=⟨by kernel_rfl,by kernel_rfl⟩
def dI (x0 x1 x2 x3:Int):Bool:=bif bif decide (x2<=x0) then decide (x0<=x1) else false then decide (x1<=x3) else false
def Fw (x0 x1 x2 x3:Int):V:=.bool (dI x0 x1 x2 x3)
theorem SZ (x0 x1 x2 x3:Int):evR noE (K5 x0 x1 x2 x3) (Fw x0 x1 x2 x3):=ak (ak (ak (ak (ak (ak (ak (ak (ak (ah (by unfold Fw dI; rfl))))))))))
def Md:ap:=mkC [.agg tp2,.int .i64,.int .i64] (fun _=>True) fun
 | [.agg [.int _ x0,.int _ x1],.int _ x2,.int _ x3]=>Fw x0 x1 x2 x3
 | _=>.any
theorem PG:(vP Md).Ok Tryz.prog 134:=mkE j5 Tryz.func134 (by kernel_rfl) fun ds hp=>rf0 (KL ..) (SZ _ _ _ _)
def MF (x0 x1 x2:Int):RT Empty:=.obi (.obi (.obi (.ret (V.bool (bif decide (x1<=x0) then decide (x0<=x2) else false)))))
theorem IX (x0 x1 x2:Int):Fit noD (aN JJ oO u0 My [vi x0,vi x1,vi x2]) (MF x0 x1 x2):=⟨by kernel_rfl,by kernel_rfl⟩
def cO (x0 x1 x2:Int):Bool:=bif decide (x1<=x0) then decide (x0<=x2) else false
def CH (x0 x1 x2:Int):V:=.bool (cO x0 x1 x2)
theorem Og (x0 x1 x2:Int):evR noE (MF x0 x1 x2) (CH x0 x1 x2):=ak (ak (ak (ah (by unfold CH cO; rfl))))
def N5:ap:=mkC [.int .i64,.int .i64,.int .i64] (fun _=>True) fun
 | [.int _ x0,.int _ x1,.int _ x2]=>CH x0 x1 x2
 | _=>.any
theorem PX:(vP N5).Ok Tryz.prog 61:=mkE j5 Tryz.func61 (by kernel_rfl) fun ds hp=>rf0 (IX ..) (Og _ _ _)
def K7 (x0 x1 x2:Int):RT Empty:=.obi (.obi (.obi (.ret (V.bool (bif decide (x1<=x0) then decide (x0<=x2) else false)))))
theorem Ka (x0 x1 x2:Int):Fit noD (aN JJ oO u0 S8 [vi x0,vi x1,vi x2]) (K7 x0 x1 x2):=⟨by kernel_rfl,by kernel_rfl⟩
def aF (x0 x1 x2:Int):Bool:=bif decide (x1<=x0) then decide (x0<=x2) else false
def Bz (x0 x1 x2:Int):V:=.bool (aF x0 x1 x2)
theorem yba (x0 x1 x2:Int):evR noE (K7 x0 x1 x2) (Bz x0 x1 x2):=ak (ak (ak (ah (by unfold Bz aF; rfl))))
def L8:ap:=mkC [.int .i64,.int .i64,.int .i64] (fun _=>True) fun
 | [.int _ x0,.int _ x1,.int _ x2]=>Bz x0 x1 x2
 | _=>.any
theorem SX:(vP L8).Ok Tryz.prog 65:=mkE j5 Tryz.func65 (by kernel_rfl) fun ds hp=>rf0 (Ka ..) (yba _ _ _)
def LU (x0 x1 x2:Int):RT Empty:=.obi (.obi (.obi (.ret (V.bool (bif decide (x1<=x0) then decide (x0<=x2) else false)))))
theorem Jm (x0 x1 x2:Int):Fit noD (aN JJ oO u0 Vh [vi x0,vi x1,vi x2]) (LU x0 x1 x2):=⟨by kernel_rfl,by kernel_rfl⟩
def yaa (x0 x1 x2:Int):Bool:=bif decide (x1<=x0) then decide (x0<=x2) else false
def yaB (x0 x1 x2:Int):V:=.bool (yaa x0 x1 x2)
theorem P5 (x0 x1 x2:Int):evR noE (LU x0 x1 x2) (yaB x0 x1 x2):=ak (ak (ak (ah (by unfold yaB yaa; rfl))))
def Li:ap:=mkC [.int .i64,.int .i64,.int .i64] (fun _=>True) fun
 | [.int _ x0,.int _ x1,.int _ x2]=>yaB x0 x1 x2
 | _=>.any
theorem Q8:(vP Li).Ok Tryz.prog 180:=mkE j5 Tryz.func180 (by kernel_rfl) fun ds hp=>rf0 (Jm ..) (P5 _ _ _)
def Nv (s0:ByteArray) (n1:Nat) (f1:FnV) (n3:Nat) (f3:FnV) (n5:Nat) (f5:FnV) (x7 x8:Int):RT Empty:=.ret (V.str s0)
theorem Hk (s0:ByteArray) (n1:Nat) (f1:FnV) (n3:Nat) (f3:FnV) (n5:Nat) (f5:FnV) (x7 x8:Int):Fit noD (aN JJ oO u0 UE [V.agg [V.str s0,V.sl n1 (elV tp1 f1),V.sl n3 (elV tp1 f3),V.sl n5 (elV [Ty.sl tp1] f5),vi x7,vi x8]]) (Nv s0 n1 f1 n3 f3 n5 f5 x7 x8):=⟨by kernel_rfl,by kernel_rfl⟩
def D2 (s0:ByteArray) (n1:Nat) (f1:FnV) (n3:Nat) (f3:FnV) (n5:Nat) (f5:FnV) (x7 x8:Int):V:=.str (s0)
theorem Pt (s0:ByteArray) (n1:Nat) (f1:FnV) (n3:Nat) (f3:FnV) (n5:Nat) (f5:FnV) (x7 x8:Int):evR noE (Nv s0 n1 f1 n3 f3 n5 f5 x7 x8) (D2 s0 n1 f1 n3 f3 n5 f5 x7 x8):=ah (by unfold D2 ; rfl)
def NP:ap:=mkC [.agg [.str,.sl tp1,.sl tp1,.sl [.sl tp1],.int .i64,.int .i64]] (fun _=>True) fun
 | [.agg [.str s0,.sl n1 f1,.sl n3 f3,.sl n5 f5,.int _ x7,.int _ x8]]=>D2 s0 n1 f1 n3 f3 n5 f5 x7 x8
 | _=>.any
theorem Q6:(vP NP).Ok Tryz.prog 128:=mkE j5 Tryz.func128 (by kernel_rfl) fun ds hp=>rf0 (Hk ..) (Pt _ _ _ _ _ _ _ _ _)
def MV (s0:ByteArray) (x1 x2 x3 x4 x5 x6 x7 x8 x9 x10 x11 x12 x13:Int):RT Empty:=.ret (V.str s0)
theorem J5 (s0:ByteArray) (x1 x2 x3 x4 x5 x6 x7 x8 x9 x10 x11 x12 x13:Int):Fit noD (aN JJ oO u0 WW [V.agg [V.str s0,vi x1,vi x2,vi x3,vi x4,vi x5,vi x6,vi x7,vi x8,vi x9,vi x10,vi x11,vi x12,vi x13]]) (MV s0 x1 x2 x3 x4 x5 x6 x7 x8 x9 x10 x11 x12 x13):=⟨by kernel_rfl,by kernel_rfl⟩
def Cf (s0:ByteArray) (x1 x2 x3 x4 x5 x6 x7 x8 x9 x10 x11 x12 x13:Int):V:=.str (s0)
theorem SI (s0:ByteArray) (x1 x2 x3 x4 x5 x6 x7 x8 x9 x10 x11 x12 x13:Int):evR noE (MV s0 x1 x2 x3 x4 x5 x6 x7 x8 x9 x10 x11 x12 x13) (Cf s0 x1 x2 x3 x4 x5 x6 x7 x8 x9 x10 x11 x12 x13):=ah (by unfold Cf ; rfl)
def Mt:ap:=mkC [.agg [.str,.int .i64,.int .i64,.int .i64,.int .i64,.int .i64,.int .i64,.int .i64,.int .i64,.int .i64,.int .i64,.int .i64,.int .i64,.int .i64]] (fun _=>True) fun
 | [.agg [.str s0,.int _ x1,.int _ x2,.int _ x3,.int _ x4,.int _ x5,.int _ x6,.int _ x7,.int _ x8,.int _ x9,.int _ x10,.int _ x11,.int _ x12,.int _ x13]]=>Cf s0 x1 x2 x3 x4 x5 x6 x7 x8 x9 x10 x11 x12 x13
 | _=>.any
theorem RF:(vP Mt).Ok Tryz.prog 131:=mkE j5 Tryz.func131 (by kernel_rfl) fun ds hp=>rf0 (J5 ..) (SI _ _ _ _ _ _ _ _ _ _ _ _ _ _)
def LM (x0 x1:Int):RT Empty:=.ob (decide (x1 ≠ 0)) (.ob (decide (x1 ≠ 0)) (.br (decide (x0.tmod x1 < 0)) (.ret (vi (i64.wrap (i64.wrap (x0.tdiv x1) - 1)))) (.ret (vi (i64.wrap (x0.tdiv x1))))))
theorem KW (x0 x1:Int):Fit noD (aN JJ oO u0 UR [vi x0,vi x1]) (LM x0 x1):=⟨by kernel_rfl,by kernel_rfl⟩
def dX (x0 x1:Int):Int:=bif decide (x0.tmod x1 < 0) then i64.wrap (i64.wrap (x0.tdiv x1) - 1) else i64.wrap (x0.tdiv x1)
def vK (x0 x1:Int):V:=.int i64 (dX x0 x1)
theorem RJ (x0 x1:Int) (hp:x1 ≠ 0):evR noE (LM x0 x1) (vK x0 x1):=aH (by first | assumption | (simp [hp])) (aH (by first | assumption | (simp [hp])) (aw (fun h0=>ah (by unfold vK dX; try rw [h0]; rfl)) (fun h0=>ah (by unfold vK dX; try rw [h0]; rfl))))
def M0:ap:=mkC tp2 (fun
 | [.int _ x0,.int _ x1]=>x1 ≠ 0
 | _=>False) fun
 | [.int _ x0,.int _ x1]=>vK x0 x1
 | _=>.any
theorem FP:(vP M0).Ok Tryz.prog 91:=mkE j5 Tryz.func91 (by kernel_rfl) fun ds hp=>rf0 (KW ..) (RJ _ _ hp)
def Mf (x0 x1:Int):RT Empty:=.ob (decide (x1 ≠ 0)) (.ob (decide (x1 ≠ 0)) (.br (decide (x0.tmod x1 < 0)) (.ret (vi (i64.wrap (i64.wrap (x0.tdiv x1) - 1)))) (.ret (vi (i64.wrap (x0.tdiv x1))))))
theorem Hr (x0 x1:Int):Fit noD (aN JJ oO u0 TD [V.agg [vi x0,vi x1]]) (Mf x0 x1):=⟨by kernel_rfl,by kernel_rfl⟩
def cw (x0 x1:Int):Int:=bif decide (x0.tmod x1 < 0) then i64.wrap (i64.wrap (x0.tdiv x1) - 1) else i64.wrap (x0.tdiv x1)
def uA (x0 x1:Int):V:=.int i64 (cw x0 x1)
theorem Ow (x0 x1:Int) (hp:x1 ≠ 0):evR noE (Mf x0 x1) (uA x0 x1):=aH (by first | assumption | (simp [hp])) (aH (by first | assumption | (simp [hp])) (aw (fun h0=>ah (by unfold uA cw; try rw [h0]; rfl)) (fun h0=>ah (by unfold uA cw; try rw [h0]; rfl))))
def Ma:ap:=mkC [.agg tp2] (fun
 | [.agg [.int _ x0,.int _ x1]]=>x1 ≠ 0
 | _=>False) fun
 | [.agg [.int _ x0,.int _ x1]]=>uA x0 x1
 | _=>.any
theorem CL:(vP Ma).Ok Tryz.prog 106:=mkE j5 Tryz.func106 (by kernel_rfl) fun ds hp=>rf0 (Hr ..) (Ow _ _ hp)
def Lf (x0 x1:Int):RT Empty:=.ob (decide (x1 ≠ 0)) (.br (decide (x0.tmod x1 < 0)) (.ob (decide (x1 ≠ 0)) (.ret (vi (i64.wrap (i64.wrap (x0.tdiv x1) - 1))))) (.ob (decide (x1 ≠ 0)) (.ret (vi (i64.wrap (x0.tdiv x1))))))
theorem Ho (x0 x1:Int):Fit noD (aN JJ oO u0 W7 [vi x0,vi x1]) (Lf x0 x1):=⟨by kernel_rfl,by kernel_rfl⟩
def eH (x0 x1:Int):Int:=bif decide (x0.tmod x1 < 0) then i64.wrap (i64.wrap (x0.tdiv x1) - 1) else i64.wrap (x0.tdiv x1)
def y8 (x0 x1:Int):V:=.int i64 (eH x0 x1)
theorem ybf (x0 x1:Int) (hp:x1 ≠ 0):evR noE (Lf x0 x1) (y8 x0 x1):=aH (by first | assumption | (simp [hp])) (aw (fun h0=>aH (by first | assumption | (simp [hp])) (ah (by unfold y8 eH; try rw [h0]; rfl))) (fun h0=>aH (by first | assumption | (simp [hp])) (ah (by unfold y8 eH; try rw [h0]; rfl))))
def Nf:ap:=mkC tp2 (fun
 | [.int _ x0,.int _ x1]=>x1 ≠ 0
 | _=>False) fun
 | [.int _ x0,.int _ x1]=>y8 x0 x1
 | _=>.any
theorem Qr:(vP Nf).Ok Tryz.prog 120:=mkE j5 Tryz.func120 (by kernel_rfl) fun ds hp=>rf0 (Ho ..) (ybf _ _ hp)
end
noncomputable section
def kN:aY:=(133,.con B9)::(134,.con Md)::(61,.con N5)::(65,.con L8)::(180,.con Li)::(128,.con NP)::(131,.con Mt)::(91,.con M0)::(106,.con Ma)::(120,.con Nf)::oO
theorem ms:aQ Tryz.prog eqs its kN:=.con F8 (.con PG (.con PX (.con SX (.con Q8 (.con Q6 (.con RF (.con FP (.con CL (.con Qr (j5))))))))))
def Ng (x0 x1:Int):RT Empty:=.obp (x1=(0:Int)->False) (.obt (.ret (vi (i64.wrap (0 - dX (i64.wrap (0 - x0)) x1)))))
theorem G2 (x0 x1:Int):Fit noD (aN JJ kN u0 Te [vi x0,vi x1]) (Ng x0 x1):=⟨by kernel_rfl,by kernel_rfl⟩
def fb (x0 x1:Int):Int:=i64.wrap (0 - dX (i64.wrap (0 - x0)) x1)
def ze (x0 x1:Int):V:=.int i64 (fb x0 x1)
theorem PH (x0 x1:Int) (hp:x1 ≠ 0):evR noE (Ng x0 x1) (ze x0 x1):=aO (by first | assumption | (exact hp)) (ac (ah (by unfold ze fb; rfl)))
def MR:ap:=mkC tp2 (fun
 | [.int _ x0,.int _ x1]=>x1 ≠ 0
 | _=>False) fun
 | [.int _ x0,.int _ x1]=>ze x0 x1
 | _=>.any
theorem E6:(vP MR).Ok Tryz.prog 92:=mkE ms Tryz.func92 (by kernel_rfl) fun ds hp=>rf0 (G2 ..) (PH _ _ hp)
def K3 (x0 x1:Int):RT Empty:=.obp (x1=(0:Int)->False) (.obt (.ret (vi (i64.wrap (0 - cw (i64.wrap (0 - x0)) x1)))))
theorem G0 (x0 x1:Int):Fit noD (aN JJ kN u0 Tk [V.agg [vi x0,vi x1]]) (K3 x0 x1):=⟨by kernel_rfl,by kernel_rfl⟩
def c8 (x0 x1:Int):Int:=i64.wrap (0 - cw (i64.wrap (0 - x0)) x1)
def yE (x0 x1:Int):V:=.int i64 (c8 x0 x1)
theorem RY (x0 x1:Int) (hp:x1 ≠ 0):evR noE (K3 x0 x1) (yE x0 x1):=aO (by first | assumption | (exact hp)) (ac (ah (by unfold yE c8; rfl)))
def Ml:ap:=mkC [.agg tp2] (fun
 | [.agg [.int _ x0,.int _ x1]]=>x1 ≠ 0
 | _=>False) fun
 | [.agg [.int _ x0,.int _ x1]]=>yE x0 x1
 | _=>.any
theorem BW:(vP Ml).Ok Tryz.prog 108:=mkE ms Tryz.func108 (by kernel_rfl) fun ds hp=>rf0 (G0 ..) (RY _ _ hp)
def Lc (x0 x1:Int):RT Empty:=.obp (x1=(0:Int)->False) (.obt (.ret (vi (i64.wrap (0 - eH (i64.wrap (0 - x0)) x1)))))
theorem Kb (x0 x1:Int):Fit noD (aN JJ kN u0 Xb [vi x0,vi x1]) (Lc x0 x1):=⟨by kernel_rfl,by kernel_rfl⟩
def gX (x0 x1:Int):Int:=i64.wrap (0 - eH (i64.wrap (0 - x0)) x1)
def Fe (x0 x1:Int):V:=.int i64 (gX x0 x1)
theorem O6 (x0 x1:Int) (hp:x1 ≠ 0):evR noE (Lc x0 x1) (Fe x0 x1):=aO (by first | assumption | (exact hp)) (ac (ah (by unfold Fe gX; rfl)))
def LI:ap:=mkC tp2 (fun
 | [.int _ x0,.int _ x1]=>x1 ≠ 0
 | _=>False) fun
 | [.int _ x0,.int _ x1]=>Fe x0 x1
 | _=>.any
theorem Pz:(vP LI).Ok Tryz.prog 99:=mkE ms Tryz.func99 (by kernel_rfl) fun ds hp=>rf0 (Kb ..) (O6 _ _ hp)
def K4 (x0 x1 x2 x3:Int):RT Empty:=.obi (.br (decide (x0<=x1)) (.ob (decide (x0<=x1)) (.ob (decide (x0<=x1)) (.ob (decide (x0<=x1)) (.obc (.obt (.obi (.br (yaa x0 x2 x3) (.ob (yaa x0 x2 x3) (.ob (yaa x0 x2 x3) (.ob (yaa x0 x2 x3) (.obc (.obt (.ret (V.bool (yaa x1 x2 x3)))))))) (.ret (V.kb false))))))))) (.ret (V.kb false)))
theorem HO (x0 x1 x2 x3:Int):Fit noD (aN JJ kN u0 Tm [V.agg [vi x0,vi x1],vi x2,vi x3]) (K4 x0 x1 x2 x3):=⟨by kernel_rfl,by kernel_rfl⟩
def c9 (x0 x1 x2 x3:Int):Bool:=bif decide (x0<=x1) then bif yaa x0 x2 x3 then yaa x1 x2 x3 else false else false
def u3 (x0 x1 x2 x3:Int):V:=.bool (c9 x0 x1 x2 x3)
theorem Rk (x0 x1 x2 x3:Int):evR noE (K4 x0 x1 x2 x3) (u3 x0 x1 x2 x3):=ak (aw (fun h0=>aH (by first | assumption | (fail)) (aH (by first | assumption | (fail)) (aH (by first | assumption | (fail)) (ao (ac (ak (aw (fun h1=>aH (by first | assumption | (fail)) (aH (by first | assumption | (fail)) (aH (by first | assumption | (fail)) (ao (ac (ah (by unfold u3 c9; try rw [h0]; try rw [h1]; rfl))))))) (fun h1=>ah (by unfold u3 c9; try rw [h0]; try rw [h1]; rfl))))))))) (fun h0=>ah (by unfold u3 c9; try rw [h0]; rfl)))
def Nt:ap:=mkC [.agg tp2,.int .i64,.int .i64] (fun _=>True) fun
 | [.agg [.int _ x0,.int _ x1],.int _ x2,.int _ x3]=>u3 x0 x1 x2 x3
 | _=>.any
theorem Ot:(vP Nt).Ok Tryz.prog 218:=mkE ms Tryz.func218 (by kernel_rfl) fun ds hp=>rf0 (HO ..) (Rk _ _ _ _)
def N7 (x0 x1 x2:Int):RT Empty:=.obc (.obt (.ret (V.bool !au x0 x1 x2)))
theorem Kl (x0 x1 x2:Int):Fit noD (aN JJ kN u0 LJ [vi x0,V.pd [vi x1],V.pd [vi x2]]) (N7 x0 x1 x2):=⟨by kernel_rfl,by kernel_rfl⟩
def mo (x0 x1 x2:Int):Bool:=!au x0 x1 x2
def yaz (x0 x1 x2:Int):V:=.bool (mo x0 x1 x2)
theorem Pq (x0 x1 x2:Int):evR noE (N7 x0 x1 x2) (yaz x0 x1 x2):=ao (ac (ah (by unfold yaz mo; rfl)))
def NW:ap:=mkC [.int .i64,.pd tp1,.pd tp1] (fun _=>True) fun
 | [.int _ x0,.pd [.int _ x1],.pd [.int _ x2]]=>yaz x0 x1 x2
 | _=>.any
theorem Sm:(vP NW).Ok Tryz.prog 222:=mkE ms Tryz.func222 (by kernel_rfl) fun ds hp=>rf0 (Kl ..) (Pq _ _ _)
theorem r5 (n:Nat) (p:Nat->Bool):bL (n+1) p=bif bL n p then p n else false:=by
 cases h:bL n p with
 | false =>
   cases h2:bL (n+1) p with
   | false=>rfl
   | true=>rw [dk fun i hi=>db h2 i (by omega)] at h; cases h
 | true =>
   cases h3:p n with
   | false=>rw [dK n (by omega) h3]; rfl
   | true=>rw [dk fun i hi=>by
      by_cases e:i=n
      ·subst e; exact h3
      ·exact db h i (by omega)]; rfl
theorem yam {S:Type} {Nx:S->V->Prop} {r:V} {x:RT S} {c:Bool} {i n:Nat} (h:i < n) (hn:n<=9223372036854775807) (hc:c=true->((i:Int) == 0)=false) (hx:evR Nx x r):evR Nx (.obj c (decide (0<=i64.wrap ((i:Int) - 1)/\i64.wrap ((i:Int) - 1) < (n:Int))) x) r:=⟨fun hb=>by
 have h0:(i:Int) ≠ 0:=by have:=hc hb; simpa using this
 exact dqt (by rw [bb (by omega) (by omega)]; omega),hx⟩
def ris (f0:FnV) (i:Nat):Bool:=bif (i:Int) == 0 then true else decide (jv0 (f0 (i64.wrap ((i:Int) - 1)).toNat) < jv0 (f0 (i:Int).toNat))
def rng (f0:FnV) (i:Nat):Bool:=yaa (jv0 (f0 (i:Int).toNat)) (-5000) 5000
inductive od where
 | L0 (i_100:Int)
def Kd (n0:Nat) (f0:FnV):od->Env × List O × Option Ex
 | .L0 i_100=>([(3,vi i_100),(2,V.kb false),(0,V.sl n0 (elV tp1 f0))],[],none)
def Qz:od->JJ
 | .L0 i_100=>(0,[])
def vl (n0:Nat) (f0:FnV) (cx:List Cx):Lp JJ:=lpT (atT (aN JJ kN u0 LY [V.sl n0 (elV tp1 f0)]) [])
def OU (n0:Nat) (f0:FnV):JJ->Lp JJ
 | (0,cx)=>vl n0 f0 cx
 | (_,cx)=>vl n0 f0 cx
def Uo (n0:Nat) (f0:FnV):LD JJ od:=⟨Qz,OU n0 f0,Kd n0 f0⟩
def tm (n0:Nat) (f0:FnV):od->RT od
 | .L0 i_100=>.asm (true=true->n0<=9223372036854775807) (.br (decide (i_100 < (↑n0:Int))) (.ob (decide (0<=i64.wrap (i_100 - 1)/\i64.wrap (i_100 - 1) < (↑n0:Int))) (.ob (decide (0<=i_100/\i_100 < (↑n0:Int))) (.br (decide (jv0 (f0 i_100.toNat)<=jv0 (f0 (i64.wrap (i_100 - 1)).toNat))) (.ret (V.kb false)) (.next [] (od.L0 (i64.wrap (i_100+1))) [])))) (.ret (V.kb true)))
def Bj (n0:Nat) (f0:FnV):RT od:=.enter [] (od.L0 (1)) []
theorem Je (n0:Nat) (f0:FnV):dw kN u0 (Uo n0 f0) (aN JJ kN u0 LY [V.sl n0 (elV tp1 f0)]) (Bj n0 f0) (tm n0 f0):=⟨⟨by kernel_rfl,by kernel_rfl⟩,fun s=>match s with | .L0 i_100=>⟨by kernel_rfl,by kernel_rfl⟩⟩
def cW (n0:Nat) (f0:FnV):Bool:=bL n0 (ris f0)
theorem Dk (n0:Nat) (f0:FnV):evR (Ev (tm n0 f0)) (Bj n0 f0) (.bool (cW n0 f0)):=by
 have key:=dF (n:=n0) (P:=fun i=>1<=i->(∀ j,j < i->ris f0 j=true)->Ev (tm n0 f0) (.L0 i) (.bool (cW n0 f0))) fun i hi ih h1 hj=>by
  refine Ev.of rfl (yab fun hn=>aw (fun h=>?_) (fun h=>ah ?_))
  ·have hlt:i < n0:=by have:=of_decide_eq_true h; omega
   have h0:((i:Int) == 0)=false:=by simp; omega
   refine aH (dqt (by rw [bb (by omega) (by omega)]; omega)) (aH (dqt (by omega)) (aw (fun hb=>ah ?_) (fun hb=>aR ?_)))
   ·have hr:ris f0 i=false:=by unfold ris; rw [h0]; exact dqf (by have:=of_decide_eq_true hb; omega)
    simp only [toA]; unfold cW; rw [dK i hlt hr]
   ·have hr:ris f0 i=true:=by unfold ris; rw [h0]; exact dqt (by have:=of_decide_eq_false hb; omega)
    rw [iE hlt hn]
    refine ih hlt (by omega) fun j h2=>?_
    by_cases e:j=i
    ·subst e; exact hr
    ·exact hj j (by omega)
  ·have:i=n0:=by have:=of_decide_eq_false h; omega
   subst this
   simp only [toA]; unfold cW; rw [dk hj]
 by_cases h0:n0=0
 ·subst h0; exact aD (Ev.of rfl (yab fun _=>oo rfl (ah rfl)))
 ·exact aD (key 1 (by omega) (by omega) fun j hj=>by
   have:j=0:=by omega
   subst this; rfl)
theorem O5 (n0:Nat) (f0:FnV):evR (Ev (tm n0 f0)) (Bj n0 f0) (.bool (cW n0 (elV tp1 f0))):=Dk n0 f0
def LF:ap:=mkC [.sl tp1] (fun _=>True) fun
 | [.sl n0 f0]=>.bool (cW n0 f0)
 | _=>.any
theorem Py:(vP LF).Ok Tryz.prog 200:=mkE ms Tryz.func200 (by kernel_rfl) fun ds hp=>rfs (Je ..) (O5 _ _)
inductive oI where
 | L0 (i_100:Int)
def IS (s0:ByteArray):oI->Env × List O × Option Ex
 | .L0 i_100=>([(3,vi i_100),(21,V.kb false),(17,V.bool (bif bif decide ((↑s0.size:Int) < 1) then true else decide (24 < (↑s0.size:Int)) then true else decide ((↑(s0.data.1.getD 0 0).toNat:Int) < 97))),(16,V.bool (bif bif decide ((↑s0.size:Int) < 1) then true else decide (24 < (↑s0.size:Int)) then true else decide ((↑(s0.data.1.getD 0 0).toNat:Int) < 97))),(12,V.bool (bif decide ((↑s0.size:Int) < 1) then true else decide (24 < (↑s0.size:Int)))),(11,V.bool (bif decide ((↑s0.size:Int) < 1) then true else decide (24 < (↑s0.size:Int)))),(7,V.bool (decide ((↑s0.size:Int) < 1))),(6,V.bool (decide ((↑s0.size:Int) < 1))),(5,vi (↑s0.size:Int)),(4,V.str s0),(2,V.kb false),(0,V.str s0)],[],none)
def Od:oI->JJ
 | .L0 i_100=>(0,[])
def uD (s0:ByteArray) (cx:List Cx):Lp JJ:=lpT (atT (aN JJ kN u0 Lw [V.str s0]) [false])
def RH (s0:ByteArray):JJ->Lp JJ
 | (0,cx)=>uD s0 cx
 | (_,cx)=>uD s0 cx
def U7 (s0:ByteArray):LD JJ oI:=⟨Od,RH s0,IS s0⟩
def tE (s0:ByteArray):oI->RT oI
 | .L0 i_100=>.br (decide (i_100 < (↑s0.size:Int))) (.ob (decide (0<=i_100/\i_100 < (↑s0.size:Int))) (.obi (.obi (.obj (decide (97<=(↑(s0.data.1.getD i_100.toNat 0).toNat:Int))) (decide (0<=i_100/\i_100 < (↑s0.size:Int))) (.obi (.obi (.obi (.obi (.obj (!bif decide (97<=(↑(s0.data.1.getD i_100.toNat 0).toNat:Int)) then decide ((↑(s0.data.1.getD i_100.toNat 0).toNat:Int)<=122) else false) (decide (0<=i_100/\i_100 < (↑s0.size:Int))) (.obi (.obi (.obi (.obi (.obj ((!bif decide (97<=(↑(s0.data.1.getD i_100.toNat 0).toNat:Int)) then decide ((↑(s0.data.1.getD i_100.toNat 0).toNat:Int)<=122) else false) && decide (48<=(↑(s0.data.1.getD i_100.toNat 0).toNat:Int))) (decide (0<=i_100/\i_100 < (↑s0.size:Int))) (.obi (.obi (.obi (.obi (.obi (.obi (.obj (!bif bif decide (97<=(↑(s0.data.1.getD i_100.toNat 0).toNat:Int)) then decide ((↑(s0.data.1.getD i_100.toNat 0).toNat:Int)<=122) else false then true else bif decide (48<=(↑(s0.data.1.getD i_100.toNat 0).toNat:Int)) then decide ((↑(s0.data.1.getD i_100.toNat 0).toNat:Int)<=57) else false) (decide (0<=i_100/\i_100 < (↑s0.size:Int))) (.obi (.obi (.br (!bif bif bif decide (97<=(↑(s0.data.1.getD i_100.toNat 0).toNat:Int)) then decide ((↑(s0.data.1.getD i_100.toNat 0).toNat:Int)<=122) else false then true else bif decide (48<=(↑(s0.data.1.getD i_100.toNat 0).toNat:Int)) then decide ((↑(s0.data.1.getD i_100.toNat 0).toNat:Int)<=57) else false then true else (↑(s0.data.1.getD i_100.toNat 0).toNat:Int) == 45) (.ret (V.kb false)) (.next [] (oI.L0 (i64.wrap (i_100+1))) []))))))))))))))))))))))))) (.ret (V.kb true))
def yL (s0:ByteArray):RT oI:=.obi (.obi (.obi (.obi (.obj (!bif decide ((↑s0.size:Int) < 1) then true else decide (24 < (↑s0.size:Int))) (decide ((0:Int)<=0/\0 < (↑s0.size:Int))) (.obi (.obi (.obi (.obj (!bif bif decide ((↑s0.size:Int) < 1) then true else decide (24 < (↑s0.size:Int)) then true else decide ((↑(s0.data.1.getD 0 0).toNat:Int) < 97)) (decide ((0:Int)<=0/\0 < (↑s0.size:Int))) (.obi (.obi (.br (bif bif bif decide ((↑s0.size:Int) < 1) then true else decide (24 < (↑s0.size:Int)) then true else decide ((↑(s0.data.1.getD 0 0).toNat:Int) < 97) then true else decide (122 < (↑(s0.data.1.getD 0 0).toNat:Int))) (.ret (V.kb false)) (.enter [] (oI.L0 (0)) []))))))))))))
theorem KZ (s0:ByteArray):dw kN u0 (U7 s0) (aN JJ kN u0 Lw [V.str s0]) (yL s0) (tE s0):=⟨⟨by kernel_rfl,by kernel_rfl⟩,fun s=>match s with | .L0 i_100=>⟨by kernel_rfl,by kernel_rfl⟩⟩
def rD (s0:ByteArray):Bool:=bif bif bif decide ((↑s0.size:Int) < 1) then true else decide (24 < (↑s0.size:Int)) then true else decide ((↑(s0.data.1.getD 0 0).toNat:Int) < 97) then true else decide (122 < (↑(s0.data.1.getD 0 0).toNat:Int))
def i5 (s0:ByteArray) (ii:Nat):Bool:=!bif bif bif decide (97<=(↑(s0.data.1.getD ii 0).toNat:Int)) then decide ((↑(s0.data.1.getD ii 0).toNat:Int)<=122) else false then true else bif decide (48<=(↑(s0.data.1.getD ii 0).toNat:Int)) then decide ((↑(s0.data.1.getD ii 0).toNat:Int)<=57) else false then true else (↑(s0.data.1.getD ii 0).toNat:Int) == 45
def gy (s0:ByteArray):Bool:=bif rD s0 then false else bL s0.size fun i=>!i5 s0 i
theorem YX {c:Bool} {n:Nat} (h:(!bif decide ((n:Int) < 1) then true else c)=true):decide ((0:Int)<=0/\0 < (n:Int))=true:=by
 cases hs:decide ((n:Int) < 1) with
 | true=>rw [hs] at h; cases h
 | false=>exact dqt ⟨by omega,by have:=of_decide_eq_false hs; omega⟩
theorem XL {c d:Bool} {n:Nat} (h:(!bif bif decide ((n:Int) < 1) then true else c then true else d)=true):decide ((0:Int)<=0/\0 < (n:Int))=true:=by
 cases hs:decide ((n:Int) < 1) with
 | true=>rw [hs] at h; cases h
 | false=>exact dqt ⟨by omega,by have:=of_decide_eq_false hs; omega⟩
theorem Cz (s0:ByteArray) (hp:s0.size<=9223372036854775807):evR (Ev (tE s0)) (yL s0) (.bool (gy s0)):=by
 unfold yL
 repeat (first | refine ak ?_ | refine oH YX ?_ | refine oH XL ?_)
 refine aw (fun h=>ah ?_) (fun h=>aD ?_)
 ·unfold gy; rw [show rD s0=true from h]; rfl
 ·unfold gy; rw [show rD s0=false from h,cond_false]
  refine fL hp (i5 s0) (P:=fun i=>Ev (tE s0) (.L0 i) (.bool (bL s0.size fun i=>!i5 s0 i))) (fun i hlt hj next=>Ev.of rfl (bK hlt (yac hlt (by
   repeat (first | refine ak ?_ | refine kC hlt ?_)
   refine aw (fun hb=>ah ?_) (fun hb=>aR (next hb))
   simp only [toA]; rw [dK i hlt (by rw [show i5 s0 i=true from hb]; rfl)]))))
   (fun hj=>Ev.of rfl (bu (ah ?_)))
  simp only [toA]; rw [dk fun i hi=>by rw [hj i hi]; rfl]
theorem PS (s0:ByteArray) (hp:s0.size<=9223372036854775807):evR (Ev (tE s0)) (yL s0) (.bool (gy s0)):=Cz s0 hp
def Nh:ap:=mkC [.str] (fun
 | [.str s0]=>s0.size<=9223372036854775807
 | _=>False) fun
 | [.str s0]=>.bool (gy s0)
 | _=>.any
theorem Oo:(vP Nh).Ok Tryz.prog 216:=mkE ms Tryz.func216 (by kernel_rfl) fun ds hp=>rfs (KZ ..) (PS _ hp)
inductive mX where
 | L0 (i_100:Int) (b_101:Bool) (b_102:Bool)
def Hy (n0:Nat) (f0:FnV):mX->Env × List O × Option Ex
 | .L0 i_100 b_101 b_102=>([(5,vi i_100),(4,V.bool b_101),(3,V.bool b_102),(2,V.bool (yaa (↑n0:Int) 2 12)),(8,V.bool (yaa (↑n0:Int) 2 12)),(7,vi (↑n0:Int)),(6,V.sl n0 (elV tp1 f0)),(0,V.sl n0 (elV tp1 f0))],[],none)
def SK:mX->JJ
 | .L0 i_100 b_101 b_102=>(0,[])
def vc (n0:Nat) (f0:FnV) (cx:List Cx):Lp JJ:=lpT (atT (aN JJ kN u0 Lu [V.sl n0 (elV tp1 f0)]) [])
def Q3 (n0:Nat) (f0:FnV):JJ->Lp JJ
 | (0,cx)=>vc n0 f0 cx
 | (_,cx)=>vc n0 f0 cx
def Tw (n0:Nat) (f0:FnV):LD JJ mX:=⟨SK,Q3 n0 f0,Hy n0 f0⟩
def qn (n0:Nat) (f0:FnV):mX->RT mX
 | .L0 i_100 b_101 b_102=>.asm (true=true->n0<=9223372036854775807) (.br (decide (i_100 < (↑n0:Int))) (.obi (.obi (.obj (b_102) (decide (0<=i_100/\i_100 < (↑n0:Int))) (.obi (.br (b_102) (.ob (b_102) (.obc (.obt (.obi (.obi (.obi (.obi (.obj (b_101 && !i_100 == 0) (decide (0<=i_100/\i_100 < (↑n0:Int))) (.obi (.obi (.obi (.obi (.obj (b_101 && !i_100 == 0) (decide (0<=i64.wrap (i_100 - 1)/\i64.wrap (i_100 - 1) < (↑n0:Int))) (.obi (.obi (.obi (.obi (.obi (.obi (.next [] (mX.L0 (i64.wrap (i_100+1)) (bif b_101 then bif i_100 == 0 then true else decide (jv0 (f0 (i64.wrap (i_100 - 1)).toNat) < jv0 (f0 i_100.toNat)) else false) (yaa (jv0 (f0 i_100.toNat)) (-5000) 5000)) [])))))))))))))))))))) (.obi (.obi (.obi (.obi (.obj (b_101 && !i_100 == 0) (decide (0<=i_100/\i_100 < (↑n0:Int))) (.obi (.obi (.obi (.obi (.obj (b_101 && !i_100 == 0) (decide (0<=i64.wrap (i_100 - 1)/\i64.wrap (i_100 - 1) < (↑n0:Int))) (.obi (.obi (.obi (.obi (.obi (.obi (.next [] (mX.L0 (i64.wrap (i_100+1)) (bif b_101 then bif i_100 == 0 then true else decide (jv0 (f0 (i64.wrap (i_100 - 1)).toNat) < jv0 (f0 i_100.toNat)) else false) (false)) [])))))))))))))))))))))) (.ret (V.tup [V.bool (yaa (↑n0:Int) 2 12),V.bool b_102,V.bool b_101])))
def Et (n0:Nat) (f0:FnV):RT mX:=.asm (true=true->n0<=9223372036854775807) (.obc (.obt (.enter [] (mX.L0 (0) (true) (true)) [])))
theorem HF (n0:Nat) (f0:FnV):dw kN u0 (Tw n0 f0) (aN JJ kN u0 Lu [V.sl n0 (elV tp1 f0)]) (Et n0 f0) (qn n0 f0):=⟨⟨by kernel_rfl,by kernel_rfl⟩,fun s=>match s with | .L0 i_100 b_101 b_102=>⟨by kernel_rfl,by kernel_rfl⟩⟩
def ia (n0:Nat) (f0:FnV):Bool:=bL n0 (rng f0)
theorem Ff (n0:Nat) (f0:FnV):evR (Ev (qn n0 f0)) (Et n0 f0) (.tup [.bool (yaa (n0:Int) 2 12),.bool (ia n0 f0),.bool (cW n0 f0)]):=by
 refine yab fun hn=>ao (ac (aD (wX hn (P:=fun x=>Ev (qn n0 f0) (.L0 x (bL x.toNat (ris f0)) (bL x.toNat (rng f0))) (.tup [.bool (yaa (n0:Int) 2 12),.bool (ia n0 f0),.bool (cW n0 f0)])) (fun i hlt nx=>?_) (Ev.of rfl (aE fun _=>bu (ah (by simp only [Int.toNat_natCast]; rfl)))))))
 have nx':Ev (qn n0 f0) (.L0 (i64.wrap ((i:Int)+1)) (bif bL i (ris f0) then ris f0 i else false) (bif bL i (rng f0) then rng f0 i else false)) (.tup [.bool (yaa (n0:Int) 2 12),.bool (ia n0 f0),.bool (cW n0 f0)]):=by
  have:=nx
  rw [show (i64.wrap ((i:Int)+1)).toNat=i+1 by rw [iE hlt hn]; rfl,r5,r5] at this
  exact this
 simp only [Int.toNat_natCast]
 have hcc:∀ b:Bool,(b && !(i:Int) == 0)=true->((i:Int) == 0)=false:=fun b h=>by cases b <;> cases he:((i:Int) == 0) <;> simp_all
 refine Ev.of rfl (aE fun _=>bK hlt (ak (ak (kC hlt (ak (aw (fun hb=>aH hb (ao (ac ?_))) (fun hb=>?_)))))))
 ·repeat (first | refine ak ?_ | refine kC hlt ?_ | refine yam hlt hn (hcc _) ?_)
  rw [hb,cond_true] at nx'
  exact aR nx'
 ·repeat (first | refine ak ?_ | refine kC hlt ?_ | refine yam hlt hn (hcc _) ?_)
  rw [hb,cond_false] at nx'
  exact aR nx' 
theorem Sy (n0:Nat) (f0:FnV):evR (Ev (qn n0 f0)) (Et n0 f0) (.tup [.bool (yaa (n0:Int) 2 12),.bool (ia n0 (elV tp1 f0)),.bool (cW n0 (elV tp1 f0))]):=Ff n0 f0
def NA:ap:=mkC [.sl tp1] (fun _=>True) fun
 | [.sl n0 f0]=>.tup [.bool (yaa (n0:Int) 2 12),.bool (ia n0 f0),.bool (cW n0 f0)]
 | _=>.any
theorem ON:(vP NA).Ok Tryz.prog 217:=mkE ms Tryz.func217 (by kernel_rfl) fun ds hp=>rfs (HF ..) (Sy _ _)
end
noncomputable section
def BJ:aY:=(92,.con MR)::(108,.con Ml)::(99,.con LI)::(218,.con Nt)::(222,.con NW)::(200,.con LF)::(216,.con Nh)::(217,.con NA)::kN
theorem Lo:aQ Tryz.prog eqs its BJ:=.con E6 (.con BW (.con Pz (.con Ot (.con Sm (.con Py (.con Oo (.con ON (ms))))))))
inductive oq where
 | L0 (i_100:Int)
def JX (n0:Nat) (f0:FnV) (x2 x3:Int):oq->Env × List O × Option Ex
 | .L0 i_100=>([(8,vi i_100),(7,vi (↑n0:Int)),(6,V.sl n0 (elV tp1 f0)),(4,vi 0),(0,V.sl n0 (elV tp1 f0)),(1,V.fn 222 [] [V.pd [vi x2],V.pd [vi x3]])],[],none)
def RE:oq->JJ
 | .L0 i_100=>(0,[])
def uK (n0:Nat) (f0:FnV) (x2 x3:Int) (cx:List Cx):Lp JJ:=lpT (atT (aN JJ BJ u0 AJ [V.sl n0 (elV tp1 f0),V.fn 222 [] [V.pd [vi x2],V.pd [vi x3]]]) [])
def PY (n0:Nat) (f0:FnV) (x2 x3:Int):JJ->Lp JJ
 | (0,cx)=>uK n0 f0 x2 x3 cx
 | (_,cx)=>uK n0 f0 x2 x3 cx
def Tz (n0:Nat) (f0:FnV) (x2 x3:Int):LD JJ oq:=⟨RE,PY n0 f0 x2 x3,JX n0 f0 x2 x3⟩
def wo (n0:Nat) (f0:FnV) (x2 x3:Int):oq->RT oq
 | .L0 i_100=>.br (decide (i_100 < (↑n0:Int))) (.ob (decide (0<=i_100/\i_100 < (↑n0:Int))) (.obc (.obt (.br (mo (jv0 (f0 i_100.toNat)) x2 x3) (.ret (vi i_100)) (.next [] (oq.L0 (i64.wrap (i_100+1))) []))))) (.ret (vi (-1)))
def Cs (n0:Nat) (f0:FnV) (x2 x3:Int):RT oq:=.asm (true=true->n0<=9223372036854775807) (.enter [] (oq.L0 (0)) [])
theorem HC (n0:Nat) (f0:FnV) (x2 x3:Int):dw BJ u0 (Tz n0 f0 x2 x3) (aN JJ BJ u0 AJ [V.sl n0 (elV tp1 f0),V.fn 222 [] [V.pd [vi x2],V.pd [vi x3]]]) (Cs n0 f0 x2 x3) (wo n0 f0 x2 x3):=⟨⟨by kernel_rfl,by kernel_rfl⟩,fun s=>match s with | .L0 i_100=>⟨by kernel_rfl,by kernel_rfl⟩⟩
def ub (n0:Nat) (f0:FnV) (x2 x3:Int):Int  :=idx n0 fun ii=>mo (jv0 (f0 ii)) x2 x3
theorem FN (n0:Nat) (f0:FnV) (x2 x3:Int):evR (Ev (wo n0 f0 x2 x3)) (Cs n0 f0 x2 x3) (.int .i64 (ub n0 f0 x2 x3)):=yab fun hn=>aD (lM hn fun i=>rfl)
theorem QP (n0:Nat) (f0:FnV) (x2 x3:Int):evR (Ev (wo n0 f0 x2 x3)) (Cs n0 f0 x2 x3) (.int .i64 (ub n0 (elV tp1 f0) x2 x3)):=FN n0 f0 x2 x3
def Lr:ap:=mkC [.sl tp1,.fn 222 [] [.pd tp1,.pd tp1]] (fun _=>True) fun
 | [.sl n0 f0,.fn _ [] [.pd [.int _ x2],.pd [.int _ x3]]]=>.int .i64 (ub n0 f0 x2 x3)
 | _=>.any
theorem OB:(vP Lr).Ok Tryz.prog 221:=mkE Lo Tryz.func221 (by kernel_rfl) fun ds hp=>rfs (HC ..) (QP _ _ _ _)
end
noncomputable section
def SP:aY:=(221,.con Lr)::BJ
theorem Le:aQ Tryz.prog eqs its SP:=.con OB (Lo)
def WZ (n0:Nat) (f0:FnV) (x2 x3:Int):RT Empty:=.obc (.obt (.ret (V.bool (decide (0<=ub n0 (elV tp1 f0) x2 x3)))))
theorem OW (n0:Nat) (f0:FnV) (x2 x3:Int):Fit noD (aN JJ SP u0 s99 [V.sl n0 (elV tp1 f0),V.fn 222 [] [V.pd [vi x2],V.pd [vi x3]]]) (WZ n0 f0 x2 x3):=⟨by kernel_rfl,by kernel_rfl⟩
def sT (n0:Nat) (f0:FnV) (x2 x3:Int):Bool:=decide (0<=ub n0 (elV tp1 f0) x2 x3)
def SF (n0:Nat) (f0:FnV) (x2 x3:Int):V:=.bool (sT n0 f0 x2 x3)
theorem Ts (n0:Nat) (f0:FnV) (x2 x3:Int):evR noE (WZ n0 f0 x2 x3) (SF n0 f0 x2 x3):=ao (ac (ah (by unfold SF sT; rfl)))
def UZ:ap:=mkC [.sl tp1,.fn 222 [] [.pd tp1,.pd tp1]] (fun _=>True) fun
 | [.sl n0 f0,.fn _ [] [.pd [.int _ x2],.pd [.int _ x3]]]=>SF n0 f0 x2 x3
 | _=>.any
theorem VX:(vP UZ).Ok Tryz.prog 152:=mkE Le Tryz.func152 (by kernel_rfl) fun ds hp=>rf0 (OW ..) (Ts _ _ _ _)
end
noncomputable section
def P8:aY:=(152,.con UZ)::SP
theorem N8:aQ Tryz.prog eqs its P8:=.con VX (Le)
def NL (n0:Nat) (f0:FnV) (x2 x3:Int):RT Empty:=.obc (.obt (.ret (V.bool !sT n0 (elV tp1 f0) x2 x3)))
theorem Io (n0:Nat) (f0:FnV) (x2 x3:Int):Fit noD (aN JJ P8 u0 Mr [V.sl n0 (elV tp1 f0),vi x2,vi x3]) (NL n0 f0 x2 x3):=⟨by kernel_rfl,by kernel_rfl⟩
def cN (n0:Nat) (f0:FnV) (x2 x3:Int):Bool:=!sT n0 (elV tp1 f0) x2 x3
def B4 (n0:Nat) (f0:FnV) (x2 x3:Int):V:=.bool (cN n0 f0 x2 x3)
theorem OP (n0:Nat) (f0:FnV) (x2 x3:Int):evR noE (NL n0 f0 x2 x3) (B4 n0 f0 x2 x3):=ao (ac (ah (by unfold B4 cN; rfl)))
def LB:ap:=mkC [.sl tp1,.int .i64,.int .i64] (fun _=>True) fun
 | [.sl n0 f0,.int _ x2,.int _ x3]=>B4 n0 f0 x2 x3
 | _=>.any
theorem yaZ:(vP LB).Ok Tryz.prog 164:=mkE N8 Tryz.func164 (by kernel_rfl) fun ds hp=>rf0 (Io ..) (OP _ _ _ _)
end
noncomputable section
def DW:aY:=(164,.con LB)::P8
theorem xE:aQ Tryz.prog eqs its DW:=.con yaZ (N8)
def MP (n0:Nat) (f0:FnV) (s2:ByteArray) (n3:Nat) (f3:FnV) (n5:Nat) (f5:FnV) (n7:Nat) (f7:FnV) (x9 x10:Int):RT Empty:=.asm (true=true->n0<=9223372036854775807) (.asm (true=true->n5<=9223372036854775807) (.ret (V.bool ((↑n0:Int) != (↑n5:Int)))))
theorem Ku (n0:Nat) (f0:FnV) (s2:ByteArray) (n3:Nat) (f3:FnV) (n5:Nat) (f5:FnV) (n7:Nat) (f7:FnV) (x9 x10:Int):Fit noD (aN JJ DW u0 Ta [V.sl n0 (elV tp1 f0),V.pd [V.str s2,V.sl n3 (elV tp1 f3),V.sl n5 (elV tp1 f5),V.sl n7 (elV [Ty.sl tp1] f7),vi x9,vi x10]]) (MP n0 f0 s2 n3 f3 n5 f5 n7 f7 x9 x10):=⟨by kernel_rfl,by kernel_rfl⟩
def pf (n0 n5:Nat):Bool:=(↑n0:Int) != (↑n5:Int)
def BD (n0:Nat) (f0:FnV) (s2:ByteArray) (n3:Nat) (f3:FnV) (n5:Nat) (f5:FnV) (n7:Nat) (f7:FnV) (x9 x10:Int):V:=.bool (pf n0 n5)
theorem RL (n0:Nat) (f0:FnV) (s2:ByteArray) (n3:Nat) (f3:FnV) (n5:Nat) (f5:FnV) (n7:Nat) (f7:FnV) (x9 x10:Int):evR noE (MP n0 f0 s2 n3 f3 n5 f5 n7 f7 x9 x10) (BD n0 f0 s2 n3 f3 n5 f5 n7 f7 x9 x10):=aE (fun a0=>aE (fun a0=>ah (by unfold BD pf; rfl)))
def D5:ap:=mkC [.sl tp1,.pd [.str,.sl tp1,.sl tp1,.sl [.sl tp1],.int .i64,.int .i64]] (fun _=>True) fun
 | [.sl n0 f0,.pd [.str s2,.sl n3 f3,.sl n5 f5,.sl n7 f7,.int _ x9,.int _ x10]]=>BD n0 f0 s2 n3 f3 n5 f5 n7 f7 x9 x10
 | _=>.any
theorem FZ:(vP D5).Ok Tryz.prog 198:=mkE xE Tryz.func198 (by kernel_rfl) fun ds hp=>rf0 (Ku ..) (RL _ _ _ _ _ _ _ _ _ _ _)
def yaQ (n0:Nat) (f0:FnV):RT Empty:=.obc (.obt (.ret (V.bool !cN n0 (elV tp1 f0) 0 10000000)))
theorem I1 (n0:Nat) (f0:FnV):Fit noD (aN JJ DW u0 Ug [V.sl n0 (elV tp1 f0)]) (yaQ n0 f0):=⟨by kernel_rfl,by kernel_rfl⟩
def eZ (n0:Nat) (f0:FnV):Bool:=!cN n0 (elV tp1 f0) 0 10000000
def Fx (n0:Nat) (f0:FnV):V:=.bool (eZ n0 f0)
theorem Pp (n0:Nat) (f0:FnV):evR noE (yaQ n0 f0) (Fx n0 f0):=ao (ac (ah (by unfold Fx eZ; rfl)))
def Dc:ap:=mkC [.sl tp1] (fun _=>True) fun
 | [.sl n0 f0]=>Fx n0 f0
 | _=>.any
theorem EU:(vP Dc).Ok Tryz.prog 199:=mkE xE Tryz.func199 (by kernel_rfl) fun ds hp=>rf0 (I1 ..) (Pp _ _)
end
noncomputable section
def As:aY:=(248,.inl VN u0)::(201,.inl UD u0)::(198,.con D5)::(199,.con Dc)::DW
theorem VI:aQ Tryz.prog eqs its As:=.inl Tryz.func248 (by kernel_rfl) (by kernel_rfl) (by kernel_rfl) (.inl Tryz.func201 (by kernel_rfl) (by kernel_rfl) (by kernel_rfl) (.con FZ (.con EU (xE))))
inductive jt where
 | L0 (i_100:Int)
 | L2 (i_300 i_301:Int)
 | L3 (i_400 i_401:Int)
def ja (s0:ByteArray) (n1:Nat) (f1:FnV) (n3:Nat) (f3:FnV) (n5:Nat) (f5:FnV) (x7 x8:Int):jt->Env × List O × Option Ex
 | .L0 i_100=>([(8,vi i_100),(7,vi (↑n5:Int)),(0,V.sl n5 (elV [Ty.sl tp1] f5)),(1,V.fn 198 [] [V.pl 0 0])],[O.cells [V.str s0,V.sl n1 (elV tp1 f1),V.sl n3 (elV tp1 f3),V.sl n5 (elV [Ty.sl tp1] f5),vi x7,vi x8] 126],none)
 | .L2 i_300 i_301=>([(8,vi i_300),(7,vi (↑n5:Int)),(0,V.sl n5 (elV [Ty.sl tp1] f5)),(1,V.fn 199 [] [])],[O.cells [V.str s0,V.sl n1 (elV tp1 f1),V.sl n3 (elV tp1 f3),V.sl n5 (elV [Ty.sl tp1] f5),vi x7,vi x8] 126],none)
 | .L3 i_400 i_401=>([(8,vi i_400),(7,vi (↑n5:Int)),(0,V.sl n5 (elV [Ty.sl tp1] f5)),(1,V.fn 199 [] [])],[O.cells [V.str s0,V.sl n1 (elV tp1 f1),V.sl n3 (elV tp1 f3),V.sl n5 (elV [Ty.sl tp1] f5),vi x7,vi x8] 126],none)
def OE:jt->JJ
 | .L0 i_100=>(0,[])
 | .L2 i_300 i_301=>(2,[Cx.i i_301])
 | .L3 i_400 i_401=>(3,[Cx.i i_401])
def mW (s0:ByteArray) (n1:Nat) (f1:FnV) (n3:Nat) (f3:FnV) (n5:Nat) (f5:FnV) (x7 x8:Int) (cx:List Cx):Lp JJ:=lpT (atT (aN JJ As u0 LS [V.agg [V.str s0,V.sl n1 (elV tp1 f1),V.sl n3 (elV tp1 f3),V.sl n5 (elV [Ty.sl tp1] f5),vi x7,vi x8]]) [true,false,true,false,true,false,true])
def DR (s0:ByteArray) (n1:Nat) (f1:FnV) (n3:Nat) (f3:FnV) (n5:Nat) (f5:FnV) (x7 x8:Int) (cx:List Cx):Lp JJ:=lpT (atT (rdT As u0 (0,[]) (mW s0 n1 f1 n3 f3 n5 f5 x7 x8 []) (ja s0 n1 f1 n3 f3 n5 f5 x7 x8 (.L0 (cxi cx 0))).1 (ja s0 n1 f1 n3 f3 n5 f5 x7 x8 (.L0 (cxi cx 0))).2.1 (ja s0 n1 f1 n3 f3 n5 f5 x7 x8 (.L0 (cxi cx 0))).2.2) [true,true,false])
def EF (s0:ByteArray) (n1:Nat) (f1:FnV) (n3:Nat) (f3:FnV) (n5:Nat) (f5:FnV) (x7 x8:Int) (cx:List Cx):Lp JJ:=lpT (atT (rdT As u0 (0,[]) (mW s0 n1 f1 n3 f3 n5 f5 x7 x8 []) (ja s0 n1 f1 n3 f3 n5 f5 x7 x8 (.L0 (cxi cx 0))).1 (ja s0 n1 f1 n3 f3 n5 f5 x7 x8 (.L0 (cxi cx 0))).2.1 (ja s0 n1 f1 n3 f3 n5 f5 x7 x8 (.L0 (cxi cx 0))).2.2) [false,false])
def OO (s0:ByteArray) (n1:Nat) (f1:FnV) (n3:Nat) (f3:FnV) (n5:Nat) (f5:FnV) (x7 x8:Int):JJ->Lp JJ
 | (0,cx)=>mW s0 n1 f1 n3 f3 n5 f5 x7 x8 cx
 | (2,cx)=>DR s0 n1 f1 n3 f3 n5 f5 x7 x8 cx
 | (3,cx)=>EF s0 n1 f1 n3 f3 n5 f5 x7 x8 cx
 | (_,cx)=>mW s0 n1 f1 n3 f3 n5 f5 x7 x8 cx
def U4 (s0:ByteArray) (n1:Nat) (f1:FnV) (n3:Nat) (f3:FnV) (n5:Nat) (f5:FnV) (x7 x8:Int):LD JJ jt:=⟨OE,OO s0 n1 f1 n3 f3 n5 f5 x7 x8,ja s0 n1 f1 n3 f3 n5 f5 x7 x8⟩
def lP (s0:ByteArray) (n1:Nat) (f1:FnV) (n3:Nat) (f3:FnV) (n5:Nat) (f5:FnV) (x7 x8:Int):jt->RT jt
 | .L0 i_100=>.br (decide (i_100 < (↑n5:Int))) (.ob (decide (0<=i_100/\i_100 < (↑n5:Int))) (.obc (.obt (.br (pf (am (hdV (f5 i_100.toNat))) n3) (.br (decide (0<=i_100)) (.ret (vi 6)) (.asm (true=true->n5<=9223372036854775807) (.enter [some (some 0)] (jt.L2 (0) (i_100)) []))) (.next [some (some 0)] (jt.L0 (i64.wrap (i_100+1))) []))))) (.brf (.asm (true=true->n5<=9223372036854775807) (.enter [some (some 0)] (jt.L3 (0) (i_100)) [])))
 | .L2 i_300 i_301=>.br (decide (i_300 < (↑n5:Int))) (.ob (decide (0<=i_300/\i_300 < (↑n5:Int))) (.obc (.obt (.br (eZ (am (hdV (f5 i_300.toNat))) fun i=>ae tp1 (atV (hdV (f5 i_300.toNat)) i)) (.obi (.obi (.br (!decide (0<=i_300)) (.ob (!decide (0<=i_300)) (.ob (!decide (0<=i_300)) (.ob (!decide (0<=i_300)) (.obc (.obt (.br (eZ 2 (elV tp1 (bA [vi x7,vi x8] 0 1))) (.ret (vi 7)) (.ret (vi 0)))))))) (.ret (vi 7))))) (.next [some (some 0)] (jt.L2 (i64.wrap (i_300+1)) (i_301)) []))))) (.obt (.obt (.brt (.obt (.obt (.obt (.obc (.obt (.br (eZ 2 (elV tp1 (bA [vi x7,vi x8] 0 1))) (.ret (vi 7)) (.ret (vi 0)))))))))))
 | .L3 i_400 i_401=>.br (decide (i_400 < (↑n5:Int))) (.ob (decide (0<=i_400/\i_400 < (↑n5:Int))) (.obc (.obt (.br (eZ (am (hdV (f5 i_400.toNat))) fun i=>ae tp1 (atV (hdV (f5 i_400.toNat)) i)) (.obi (.obi (.br (!decide (0<=i_400)) (.ob (!decide (0<=i_400)) (.ob (!decide (0<=i_400)) (.ob (!decide (0<=i_400)) (.obc (.obt (.br (eZ 2 (elV tp1 (bA [vi x7,vi x8] 0 1))) (.ret (vi 7)) (.ret (vi 0)))))))) (.ret (vi 7))))) (.next [some (some 0)] (jt.L3 (i64.wrap (i_400+1)) (i_401)) []))))) (.obt (.obt (.brt (.obt (.obt (.obt (.obc (.obt (.br (eZ 2 (elV tp1 (bA [vi x7,vi x8] 0 1))) (.ret (vi 7)) (.ret (vi 0)))))))))))
def Ge (s0:ByteArray) (n1:Nat) (f1:FnV) (n3:Nat) (f3:FnV) (n5:Nat) (f5:FnV) (x7 x8:Int):RT jt:=.asm (true=true->n1<=9223372036854775807) (.obc (.obt (.obi (.obi (.asm ((!!au (↑n1:Int) 2 12)=true->n3<=9223372036854775807) (.br (!!au (↑n1:Int) 2 12) (.ob (!!au (↑n1:Int) 2 12) (.obc (.obt (.br (!au (↑n3:Int) 2 12) (.ret (vi 3)) (.obc (.obt (.obi (.br (!!cN n1 (elV tp1 f1) (-5000) 5000) (.ob (!!cN n1 (elV tp1 f1) (-5000) 5000) (.obc (.obt (.br (!cN n3 (elV tp1 f3) (-5000) 5000) (.ret (vi 7)) (.obc (.obt (.obi (.br (!!cW n1 (elV tp1 f1)) (.ob (!!cW n1 (elV tp1 f1)) (.obc (.obt (.br (!cW n3 (elV tp1 f3)) (.ret (vi 2)) (.asm (true=true->n5<=9223372036854775807) (.asm (true=true->n1<=9223372036854775807) (.obi (.br (!(↑n5:Int) != (↑n1:Int)) (.ob (!(↑n5:Int) != (↑n1:Int)) (.ob (!(↑n5:Int) != (↑n1:Int)) (.asm (true=true->n5<=9223372036854775807) (.enter [some (some 0)] (jt.L0 (0)) [])))) (.ret (vi 6)))))))))) (.ret (vi 2)))))))))) (.ret (vi 7)))))))))) (.ret (vi 3))))))))
theorem Jr (s0:ByteArray) (n1:Nat) (f1:FnV) (n3:Nat) (f3:FnV) (n5:Nat) (f5:FnV) (x7 x8:Int):dw As u0 (U4 s0 n1 f1 n3 f3 n5 f5 x7 x8) (aN JJ As u0 LS [V.agg [V.str s0,V.sl n1 (elV tp1 f1),V.sl n3 (elV tp1 f3),V.sl n5 (elV [Ty.sl tp1] f5),vi x7,vi x8]]) (Ge s0 n1 f1 n3 f3 n5 f5 x7 x8) (lP s0 n1 f1 n3 f3 n5 f5 x7 x8):=⟨⟨by kernel_rfl,by kernel_rfl⟩,fun s=>match s with | .L0 i_100=>⟨by kernel_rfl,by kernel_rfl⟩ | .L2 i_300 i_301=>⟨by kernel_rfl,by kernel_rfl⟩ | .L3 i_400 i_401=>⟨by kernel_rfl,by kernel_rfl⟩⟩
def sho (n3:Nat) (f5:FnV) (i:Nat):Bool:=pf (am (hdV (f5 i))) n3
def wil (f5:FnV) (i:Nat):Bool:=eZ (am (hdV (f5 i))) fun j=>ae tp1 (atV (hdV (f5 i)) j)
def Jg (x7 x8:Int):Bool:=eZ 2 (elV tp1 (bA [vi x7,vi x8] 0 1))
def mj (n5:Nat) (f5:FnV) (x7 x8:Int):Int:=bif exB n5 (wil f5) then 7 else bif Jg x7 x8 then 7 else 0
def jF (n1:Nat) (f1:FnV) (n3:Nat) (f3:FnV) (n5:Nat) (f5:FnV) (x7 x8:Int):Int :=
 bif !(au (n1:Int) 2 12 && au (n3:Int) 2 12) then 3 else bif !(cN n1 f1 (-5000) 5000 && cN n3 f3 (-5000) 5000) then 7 else bif !(cW n1 f1 && cW n3 f3) then 2 else bif (n5:Int) != (n1:Int) then 6 else bif exB n5 (sho n3 f5) then 6 else mj n5 f5 x7 x8
theorem ev2 {S:Type} {Nx:S->V->Prop} {c d:Bool} {v r:V} {X:RT S} (h1:(c && d)=false->toA v=toA r) (h2:(c && d)=true->evR Nx X r):evR Nx (.br (!!c) (.ob (!!c) (.obc (.obt (.br (!d) (.ret v) X)))) (.ret v)) r:=by
 cases c <;> cases d
 ·exact aw (fun h=>by cases h) (fun _=>ah (h1 rfl))
 ·exact aw (fun h=>by cases h) (fun _=>ah (h1 rfl))
 ·exact aw (fun h=>aH h (ao (ac (aw (fun _=>ah (h1 rfl)) (fun k=>by cases k))))) (fun k=>by cases k)
 ·exact aw (fun h=>aH h (ao (ac (aw (fun k=>by cases k) (fun _=>h2 rfl))))) (fun k=>by cases k)
theorem yaN (s0:ByteArray) (n1:Nat) (f1:FnV) (n3:Nat) (f3:FnV) (n5:Nat) (f5:FnV) (x7 x8:Int) (hn:n5<=9223372036854775807) (t:Int):Ev (lP s0 n1 f1 n3 f3 n5 f5 x7 x8) (.L3 0 t) (.int .i64 (mj n5 f5 x7 x8)):=by
 refine fL hn (wil f5) (P:=fun x=>Ev (lP s0 n1 f1 n3 f3 n5 f5 x7 x8) (.L3 x t) (.int .i64 (mj n5 f5 x7 x8))) (fun i hlt hj next=>Ev.of rfl (bK hlt (yac hlt (ao (ac (aw (fun hb=>ak (ak (oo (by rw [dqt (Int.natCast_nonneg i)]; rfl) (ah ?_)))) (fun hb=>aR (next hb)))))))) (fun hj=>Ev.of rfl (bu (ac (ac (dY (ac (ac (ac (ao (ac (aw (fun hb=>ah ?_) (fun hb=>ah ?_))))))))))))
 ·unfold mj; rw [bC i hlt hb]; rfl
 ·unfold mj; rw [bm hj,show Jg x7 x8=true from hb]; rfl
 ·unfold mj; rw [bm hj,show Jg x7 x8=false from hb]; rfl
theorem GL (s0:ByteArray) (n1:Nat) (f1:FnV) (n3:Nat) (f3:FnV) (n5:Nat) (f5:FnV) (x7 x8:Int) (hn:n5<=9223372036854775807):Ev (lP s0 n1 f1 n3 f3 n5 f5 x7 x8) (.L0 0) (.int .i64 (bif exB n5 (sho n3 f5) then 6 else mj n5 f5 x7 x8)):=by
 refine fL hn (sho n3 f5) (P:=fun x=>Ev (lP s0 n1 f1 n3 f3 n5 f5 x7 x8) (.L0 x) (.int .i64 (bif exB n5 (sho n3 f5) then 6 else mj n5 f5 x7 x8))) (fun i hlt hj next=>Ev.of rfl (bK hlt (yac hlt (ao (ac (aw (fun hb=>j6 (dqt (Int.natCast_nonneg i)) (ah ?_)) (fun hb=>aR (next hb)))))))) (fun hj=>Ev.of rfl (bu (jJ (aE fun _=>aD ?_))))
 ·rw [bC i hlt hb]; rfl
 ·rw [bm hj]; exact yaN s0 n1 f1 n3 f3 n5 f5 x7 x8 hn _
theorem Ct (s0:ByteArray) (n1:Nat) (f1:FnV) (n3:Nat) (f3:FnV) (n5:Nat) (f5:FnV) (x7 x8:Int):evR (Ev (lP s0 n1 f1 n3 f3 n5 f5 x7 x8)) (Ge s0 n1 f1 n3 f3 n5 f5 x7 x8) (.int .i64 (jF n1 f1 n3 f3 n5 f5 x7 x8)):=by
 unfold jF
 refine aE fun _=>ao (ac (ak (ak (aE fun _=>ev2 (fun h=>by rw [h]; rfl) (fun h=>?_)))))
 rw [h]
 refine ao (ac (ak (ev2 (fun h=>by rw [show (cN n1 f1 (-5000) 5000 && cN n3 f3 (-5000) 5000)=false from h]; rfl) (fun h=>?_))))
 rw [show (cN n1 f1 (-5000) 5000 && cN n3 f3 (-5000) 5000)=true from h]
 refine ao (ac (ak (ev2 (fun h=>by rw [show (cW n1 f1 && cW n3 f3)=false from h]; rfl) (fun h=>?_))))
 rw [show (cW n1 f1 && cW n3 f3)=true from h]
 refine aE fun _=>aE fun _=>ak (aw (fun h=>aH h (aH h (yab fun hn=>aD ?_))) (fun h=>ah ?_))
 ·rw [tnF h]; exact GL s0 n1 f1 n3 f3 n5 f5 x7 x8 hn
 ·rw [tnT h]; rfl
theorem On (s0:ByteArray) (n1:Nat) (f1:FnV) (n3:Nat) (f3:FnV) (n5:Nat) (f5:FnV) (x7 x8:Int):evR (Ev (lP s0 n1 f1 n3 f3 n5 f5 x7 x8)) (Ge s0 n1 f1 n3 f3 n5 f5 x7 x8) (.int .i64 (jF n1 (elV tp1 f1) n3 (elV tp1 f3) n5 (elV [.sl tp1] f5) x7 x8)):=Ct s0 n1 f1 n3 f3 n5 f5 x7 x8
def Mg:ap:=mkC [.agg [.str,.sl tp1,.sl tp1,.sl [.sl tp1],.int .i64,.int .i64]] (fun _=>True) fun
 | [.agg [.str s0,.sl n1 f1,.sl n3 f3,.sl n5 f5,.int _ x7,.int _ x8]]=>.int .i64 (jF n1 f1 n3 f3 n5 f5 x7 x8)
 | _=>.any
theorem P6:(vP Mg).Ok Tryz.prog 129:=mkE VI Tryz.func129 (by kernel_rfl) fun ds hp=>rfs (Jr ..) (On _ _ _ _ _ _ _ _ _)
end
noncomputable section
def Iq:aY:=(129,.con Mg)::(198,.con D5)::(199,.con Dc)::DW
theorem Gv:aQ Tryz.prog eqs its Iq:=.con P6 (.con FZ (.con EU (xE)))
def Bw (s0:ByteArray) (x1 x2 x3 x4 x5 x6 x7 x8 x9 x10 x11 x12 x13:Int) (n14:Nat) (f14:FnV) (n16:Nat) (f16:FnV):RT Empty:=.obc (.obt (.obi (.br (au x3 1 1000000) (.ob (au x3 1 1000000) (.obc (.obt (.obi (.obi (.br (au x4 1 5000000) (.ob (au x4 1 5000000) (.ob (au x4 1 5000000) (.obc (.obt (.obi (.br (au x5 0 x4) (.ob (au x5 0 x4) (.obc (.obt (.obi (.br (au x6 0 1000) (.ob (au x6 0 1000) (.obc (.obt (.obi (.br (dI x7 x8 0 1000) (.ob (dI x7 x8 0 1000) (.obc (.obt (.obi (.br (dI x9 x10 0 1000) (.ob (dI x9 x10 0 1000) (.obc (.obt (.obi (.br (au x11 1 200000) (.ob (au x11 1 200000) (.obc (.obt (.obi (.br (au x12 0 1000) (.ob (au x12 0 1000) (.obc (.obt (.asm (true=true->n14<=9223372036854775807) (.obc (.obt (.br (!au x1 0 (i64.wrap ((↑n14:Int) - 1))) (.ret (vi 4)) (.obc (.obt (.br (!au x2 1 3) (.ret (vi 2)) (.br (!au x13 0 3600) (.ret (vi 7)) (.obi (.obi (.obi (.br (bif x2 == 1 then decide (0 < x13) else false) (.ret (vi 2)) (.ret (vi 0))))))))))))))))) (.asm (true=true->n14<=9223372036854775807) (.obc (.obt (.br (!au x1 0 (i64.wrap ((↑n14:Int) - 1))) (.ret (vi 4)) (.obc (.obt (.br (!au x2 1 3) (.ret (vi 2)) (.ret (vi 7)))))))))))))) (.asm (true=true->n14<=9223372036854775807) (.obc (.obt (.br (!au x1 0 (i64.wrap ((↑n14:Int) - 1))) (.ret (vi 4)) (.obc (.obt (.br (!au x2 1 3) (.ret (vi 2)) (.ret (vi 7)))))))))))))) (.asm (true=true->n14<=9223372036854775807) (.obc (.obt (.br (!au x1 0 (i64.wrap ((↑n14:Int) - 1))) (.ret (vi 4)) (.obc (.obt (.br (!au x2 1 3) (.ret (vi 2)) (.ret (vi 7)))))))))))))) (.asm (true=true->n14<=9223372036854775807) (.obc (.obt (.br (!au x1 0 (i64.wrap ((↑n14:Int) - 1))) (.ret (vi 4)) (.obc (.obt (.br (!au x2 1 3) (.ret (vi 2)) (.ret (vi 7)))))))))))))) (.asm (true=true->n14<=9223372036854775807) (.obc (.obt (.br (!au x1 0 (i64.wrap ((↑n14:Int) - 1))) (.ret (vi 4)) (.obc (.obt (.br (!au x2 1 3) (.ret (vi 2)) (.ret (vi 7)))))))))))))) (.asm (true=true->n14<=9223372036854775807) (.obc (.obt (.br (!au x1 0 (i64.wrap ((↑n14:Int) - 1))) (.ret (vi 4)) (.obc (.obt (.br (!au x2 1 3) (.ret (vi 2)) (.ret (vi 7))))))))))))))) (.asm (true=true->n14<=9223372036854775807) (.obc (.obt (.br (!au x1 0 (i64.wrap ((↑n14:Int) - 1))) (.ret (vi 4)) (.obc (.obt (.br (!au x2 1 3) (.ret (vi 2)) (.ret (vi 7))))))))))))))) (.asm (true=true->n14<=9223372036854775807) (.obc (.obt (.br (!au x1 0 (i64.wrap ((↑n14:Int) - 1))) (.ret (vi 4)) (.obc (.obt (.br (!au x2 1 3) (.ret (vi 2)) (.ret (vi 7))))))))))))
theorem GO (s0:ByteArray) (x1 x2 x3 x4 x5 x6 x7 x8 x9 x10 x11 x12 x13:Int) (n14:Nat) (f14:FnV) (n16:Nat) (f16:FnV):Fit noD (aN JJ Iq u0 W2 [V.agg [V.str s0,vi x1,vi x2,vi x3,vi x4,vi x5,vi x6,vi x7,vi x8,vi x9,vi x10,vi x11,vi x12,vi x13],V.pd [V.sl n14 (elV [Ty.str,Ty.sl tp1,Ty.sl tp1,Ty.sl [Ty.sl tp1],Ty.int i64,Ty.int i64] f14),V.sl n16 (elV [Ty.str,Ty.int i64,Ty.int i64,Ty.int i64,Ty.int i64,Ty.int i64,Ty.int i64,Ty.int i64,Ty.int i64,Ty.int i64,Ty.int i64,Ty.int i64,Ty.int i64,Ty.int i64] f16)]]) (Bw s0 x1 x2 x3 x4 x5 x6 x7 x8 x9 x10 x11 x12 x13 n14 f14 n16 f16):=⟨by kernel_rfl,by kernel_rfl⟩
def Xx (x1 x2 x3 x4 x5 x6 x7 x8 x9 x10 x11 x12 x13:Int) (n14:Nat):Int:=bif au x3 1 1000000 then bif au x4 1 5000000 then bif au x5 0 x4 then bif au x6 0 1000 then bif dI x7 x8 0 1000 then bif dI x9 x10 0 1000 then bif au x11 1 200000 then bif au x12 0 1000 then bif !au x1 0 (i64.wrap ((↑n14:Int) - 1)) then 4 else bif !au x2 1 3 then 2 else bif !au x13 0 3600 then 7 else bif bif x2 == 1 then decide (0 < x13) else false then 2 else 0 else bif !au x1 0 (i64.wrap ((↑n14:Int) - 1)) then 4 else bif !au x2 1 3 then 2 else 7 else bif !au x1 0 (i64.wrap ((↑n14:Int) - 1)) then 4 else bif !au x2 1 3 then 2 else 7 else bif !au x1 0 (i64.wrap ((↑n14:Int) - 1)) then 4 else bif !au x2 1 3 then 2 else 7 else bif !au x1 0 (i64.wrap ((↑n14:Int) - 1)) then 4 else bif !au x2 1 3 then 2 else 7 else bif !au x1 0 (i64.wrap ((↑n14:Int) - 1)) then 4 else bif !au x2 1 3 then 2 else 7 else bif !au x1 0 (i64.wrap ((↑n14:Int) - 1)) then 4 else bif !au x2 1 3 then 2 else 7 else bif !au x1 0 (i64.wrap ((↑n14:Int) - 1)) then 4 else bif !au x2 1 3 then 2 else 7 else bif !au x1 0 (i64.wrap ((↑n14:Int) - 1)) then 4 else bif !au x2 1 3 then 2 else 7
def AV (a k num q:Bool):Int:=bif !a then 4 else bif !k then 2 else bif !num then 7 else bif q then 2 else 0
def GK (x2 x13:Int):Bool:=bif x2 == 1 then decide (0 < x13) else false
def Zw (x3 x4 x5 x6 x7 x8 x9 x10 x11 x12 x13:Int):Bool:=au x3 1 1000000 && (au x4 1 5000000 && (au x5 0 x4 && (au x6 0 1000 && (dI x7 x8 0 1000 && (dI x9 x10 0 1000 && (au x11 1 200000 && (au x12 0 1000 && (au x13 0 3600))))))))
def kP (x1 x2 x3 x4 x5 x6 x7 x8 x9 x10 x11 x12 x13:Int) (n14:Nat):Int:=AV (au x1 0 (i64.wrap ((n14:Int) - 1))) (au x2 1 3) (au x3 1 1000000 && (au x4 1 5000000 && (au x5 0 x4 && (au x6 0 1000 && (dI x7 x8 0 1000 && (dI x9 x10 0 1000 && (au x11 1 200000 && (au x12 0 1000 && (au x13 0 3600))))))))) (GK x2 x13)
section
variable {S:Type} {Nx:S->V->Prop} {r:V} {X Y:RT S} {c:Bool}
theorem lW (h1:c=false->evR Nx Y r) (h2:c=true->evR Nx X r):evR Nx (.br c (.ob c X) Y) r:=aw (fun h=>aH h (h2 h)) h1
theorem PQ (h1:c=false->evR Nx Y r) (h2:c=true->evR Nx X r):evR Nx (.br c (.ob c (.ob c X)) Y) r:=aw (fun h=>aH h (aH h (h2 h))) h1
theorem uR {a k q:Bool} {p:Prop}:evR Nx (.asm p (.obc (.obt (.br (!a) (.ret (.int .i64 4)) (.obc (.obt (.br (!k) (.ret (.int .i64 2)) (.ret (.int .i64 7)))))))) ) (.int .i64 (AV a k false q)) :=
 aE fun _=>ao (ac (aw (fun h=>ah (by rw [tnF h]; rfl)) fun h=>ao (ac (aw (fun h2=>ah (by rw [tnT h,tnF h2]; rfl)) fun h2=>ah (by rw [tnT h,tnT h2]; rfl)))))
end
theorem BR (s0:ByteArray) (x1 x2 x3 x4 x5 x6 x7 x8 x9 x10 x11 x12 x13:Int) (n14:Nat) (f14:FnV) (n16:Nat) (f16:FnV):evR noE (Bw s0 x1 x2 x3 x4 x5 x6 x7 x8 x9 x10 x11 x12 x13 n14 f14 n16 f16) (.int .i64 (kP x1 x2 x3 x4 x5 x6 x7 x8 x9 x10 x11 x12 x13 n14)):=by
 unfold kP
 refine ao (ac ?_)
 repeat refine ak ?_
 refine lW (fun h=>by rw [h]; exact uR) (fun h=>?_)
 rw [h]
 refine ao (ac ?_)
 repeat refine ak ?_
 refine PQ (fun h=>by rw [h]; exact uR) (fun h=>?_)
 rw [h]
 refine ao (ac ?_)
 repeat refine ak ?_
 refine lW (fun h=>by rw [h]; exact uR) (fun h=>?_)
 rw [h]
 refine ao (ac ?_)
 repeat refine ak ?_
 refine lW (fun h=>by rw [h]; exact uR) (fun h=>?_)
 rw [h]
 refine ao (ac ?_)
 repeat refine ak ?_
 refine lW (fun h=>by rw [h]; exact uR) (fun h=>?_)
 rw [h]
 refine ao (ac ?_)
 repeat refine ak ?_
 refine lW (fun h=>by rw [h]; exact uR) (fun h=>?_)
 rw [h]
 refine ao (ac ?_)
 repeat refine ak ?_
 refine lW (fun h=>by rw [h]; exact uR) (fun h=>?_)
 rw [h]
 refine ao (ac ?_)
 repeat refine ak ?_
 refine lW (fun h=>by rw [h]; exact uR) (fun h=>?_)
 rw [h]
 refine ao (ac ?_)
 exact aE fun _=>ao (ac (aw (fun h=>ah (by rw [tnF h]; rfl)) fun h=>ao (ac (aw (fun h2=>ah (by rw [tnT h,tnF h2]; rfl)) fun h2=>aw (fun h3=>ah (by rw [tnT h,tnT h2,tnF h3]; rfl)) fun h3=>ak (ak (ak (aw (fun h4=>ah (by rw [tnT h,tnT h2,tnT h3,show GK x2 x13=true from h4]; rfl)) fun h4=>ah (by rw [tnT h,tnT h2,tnT h3,show GK x2 x13=false from h4]; rfl))))))))
theorem Sv (s0:ByteArray) (x1 x2 x3 x4 x5 x6 x7 x8 x9 x10 x11 x12 x13:Int) (n14:Nat) (f14:FnV) (n16:Nat) (f16:FnV):evR noE (Bw s0 x1 x2 x3 x4 x5 x6 x7 x8 x9 x10 x11 x12 x13 n14 f14 n16 f16) (.int .i64 (kP x1 x2 x3 x4 x5 x6 x7 x8 x9 x10 x11 x12 x13 n14)):=BR s0 x1 x2 x3 x4 x5 x6 x7 x8 x9 x10 x11 x12 x13 n14 f14 n16 f16
def E5:ap:=mkC [.agg [.str,.int .i64,.int .i64,.int .i64,.int .i64,.int .i64,.int .i64,.int .i64,.int .i64,.int .i64,.int .i64,.int .i64,.int .i64,.int .i64],.pd [.sl [.str,.sl tp1,.sl tp1,.sl [.sl tp1],.int .i64,.int .i64],.sl [.str,.int .i64,.int .i64,.int .i64,.int .i64,.int .i64,.int .i64,.int .i64,.int .i64,.int .i64,.int .i64,.int .i64,.int .i64,.int .i64]]] (fun _=>True) fun
 | [.agg [.str s0,.int _ x1,.int _ x2,.int _ x3,.int _ x4,.int _ x5,.int _ x6,.int _ x7,.int _ x8,.int _ x9,.int _ x10,.int _ x11,.int _ x12,.int _ x13],.pd [.sl n14 f14,.sl n16 f16]]=>.int .i64 (kP x1 x2 x3 x4 x5 x6 x7 x8 x9 x10 x11 x12 x13 n14)
 | _=>.any
theorem Bs:(vP E5).Ok Tryz.prog 132:=mkE Gv Tryz.func132 (by kernel_rfl) fun ds hp=>rf0 (GO ..) (Sv _ _ _ _ _ _ _ _ _ _ _ _ _ _ _ _ _ _)
end
noncomputable section
def tf:aY:=(202,.inl Tp u0)::(249,.inl Wk u0)::(203,.inl Uy u0)::(195,.inl Vv u0)::(247,.inl Tq u0)::(197,.inl Wu u0)::(132,.con E5)::Iq
theorem NM:aQ Tryz.prog eqs its tf:=.inl Tryz.func202 (by kernel_rfl) (by kernel_rfl) (by kernel_rfl) (.inl Tryz.func249 (by kernel_rfl) (by kernel_rfl) (by kernel_rfl) (.inl Tryz.func203 (by kernel_rfl) (by kernel_rfl) (by kernel_rfl) (.inl Tryz.func195 (by kernel_rfl) (by kernel_rfl) (by kernel_rfl) (.inl Tryz.func247 (by kernel_rfl) (by kernel_rfl) (by kernel_rfl) (.inl Tryz.func197 (by kernel_rfl) (by kernel_rfl) (by kernel_rfl) (.con Bs (Gv)))))))
inductive jW where
 | L0 (i_100:Int)
 | L2 (i_300 i_301:Int) (n_302:Nat) (s_303:ByteArray) (n_304:Nat) (f_305:Nat->List V) (n_306:Nat) (f_307:Nat->List V) (n_308:Nat) (f_309:Nat->List V) (i_310 i_311 i_312:Int)
def oY (n0:Nat) (f0:FnV):jW->Env × List O × Option Ex
 | .L0 i_100=>([(14,vi i_100),(13,vi (↑n0:Int)),(12,V.sl n0 (elV [Ty.str,Ty.sl tp1,Ty.sl tp1,Ty.sl [Ty.sl tp1],Ty.int i64,Ty.int i64] f0)),(4,V.pl 0 0),(0,V.sl n0 (elV [Ty.str,Ty.sl tp1,Ty.sl tp1,Ty.sl [Ty.sl tp1],Ty.int i64,Ty.int i64] f0)),(2,V.fn 129 [] [])],[O.cells [V.fn 128 [] []] 194],none)
 | .L2 i_300 i_301 n_302 s_303 n_304 f_305 n_306 f_307 n_308 f_309 i_310 i_311 i_312=>([(8,vi i_300),(7,vi i_301),(0,V.sl n_302 fun i=>elV [Ty.str,Ty.sl tp1,Ty.sl tp1,Ty.sl [Ty.sl tp1],Ty.int i64,Ty.int i64] f0 (0+i)),(1,V.fn 195 [] [V.pl 0 0,V.pl 1 0])],[O.cells [V.fn 128 [] []] 194,O.cells [V.str s_303,V.sl n_304 (elV tp1 f_305),V.sl n_306 (elV tp1 f_307),V.sl n_308 (elV [Ty.sl tp1] f_309),vi i_310,vi i_311] 126],none)
def OY:jW->JJ
 | .L0 i_100=>(0,[])
 | .L2 i_300 i_301 n_302 s_303 n_304 f_305 n_306 f_307 n_308 f_309 i_310 i_311 i_312=>(2,[Cx.i i_312])
def pu (n0:Nat) (f0:FnV) (cx:List Cx):Lp JJ:=lpT (atT (aN JJ tf u0 Ll [V.sl n0 (elV [Ty.str,Ty.sl tp1,Ty.sl tp1,Ty.sl [Ty.sl tp1],Ty.int i64,Ty.int i64] f0),V.fn 128 [] [],V.fn 129 [] []]) [])
def CJ (n0:Nat) (f0:FnV) (cx:List Cx):Lp JJ:=lpT (atT (rdT tf u0 (0,[]) (pu n0 f0 []) (oY n0 f0 (.L0 (cxi cx 0))).1 (oY n0 f0 (.L0 (cxi cx 0))).2.1 (oY n0 f0 (.L0 (cxi cx 0))).2.2) [true,false])
def Qp (n0:Nat) (f0:FnV):JJ->Lp JJ
 | (0,cx)=>pu n0 f0 cx
 | (2,cx)=>CJ n0 f0 cx
 | (_,cx)=>pu n0 f0 cx
def Ww (n0:Nat) (f0:FnV):LD JJ jW:=⟨OY,Qp n0 f0,oY n0 f0⟩
def lQ (n0:Nat) (f0:FnV):jW->RT jW
 | .L0 i_100=>.br (decide (i_100 < (↑n0:Int))) (.ob (decide (0<=i_100/\i_100 < (↑n0:Int))) (.obc (.obt (.obc (.obt (.obp ((sv (hdV (f0 i_100.toNat))).size<=(9223372036854775807:Nat)) (.obt (.br (!fS (sv (hdV (f0 i_100.toNat)))) (.brt (.ret (V.tup [vi i_100,vi 6]))) (.ob (decide (0<=i_100/\i_100<=(↑n0:Int))) (.asm (true=true->i_100.toNat - 0<=9223372036854775807) (.enter [some (some 0),some (some 1)] (jW.L2 (0) ((↑(i_100.toNat - 0):Int)) (i_100.toNat - 0) (sv (hdV (f0 i_100.toNat))) (am (hdV (tlV (f0 i_100.toNat)))) (fun i=>ae tp1 (atV (hdV (tlV (f0 i_100.toNat))) i)) (am (hdV (tlV (tlV (f0 i_100.toNat))))) (fun i=>ae tp1 (atV (hdV (tlV (tlV (f0 i_100.toNat)))) i)) (am (hdV (tlV (tlV (tlV (f0 i_100.toNat)))))) (fun i=>ae [Ty.sl tp1] (atV (hdV (tlV (tlV (tlV (f0 i_100.toNat))))) i)) (jv4 (f0 i_100.toNat)) (jv5 (f0 i_100.toNat)) (i_100)) []))))))))))) (.ret (V.tup [vi 0,vi 0]))
 | .L2 i_300 i_301 n_302 s_303 n_304 f_305 n_306 f_307 n_308 f_309 i_310 i_311 i_312=>.br (decide (i_300 < i_301)) (.ob (decide (0<=i_300/\i_300 < (↑n_302:Int))) (.obc (.obt (.obc (.obt (.br ((sv (hdV (f0 (0+i_300.toNat)))).toList == s_303.toList) (.br (decide (0<=i_300)) (.brt (.ret (V.tup [vi i_312,vi 5]))) (.br (jF (am (hdV (tlV (f0 i_312.toNat)))) (fun i=>ae tp1 (atV (hdV (tlV (f0 i_312.toNat))) i)) (am (hdV (tlV (tlV (f0 i_312.toNat))))) (fun i=>ae tp1 (atV (hdV (tlV (tlV (f0 i_312.toNat)))) i)) (am (hdV (tlV (tlV (tlV (f0 i_312.toNat)))))) (fun i=>ae [Ty.sl tp1] (atV (hdV (tlV (tlV (tlV (f0 i_312.toNat))))) i)) (jv4 (f0 i_312.toNat)) (jv5 (f0 i_312.toNat)) != 0) (.ret (V.tup [vi i_312,vi (jF (am (hdV (tlV (f0 i_312.toNat)))) (fun i=>ae tp1 (atV (hdV (tlV (f0 i_312.toNat))) i)) (am (hdV (tlV (tlV (f0 i_312.toNat))))) (fun i=>ae tp1 (atV (hdV (tlV (tlV (f0 i_312.toNat)))) i)) (am (hdV (tlV (tlV (tlV (f0 i_312.toNat)))))) (fun i=>ae [Ty.sl tp1] (atV (hdV (tlV (tlV (tlV (f0 i_312.toNat))))) i)) (jv4 (f0 i_312.toNat)) (jv5 (f0 i_312.toNat)))])) (.next [some (some 0)] (jW.L0 (i64.wrap (i_312+1))) []))) (.next [some (some 0),some (some 1)] (jW.L2 (i64.wrap (i_300+1)) (i_301) (n_302) (s_303) (n_304) (f_305) (n_306) (f_307) (n_308) (f_309) (i_310) (i_311) (i_312)) []))))))) (.brf (.br (jF (am (hdV (tlV (f0 i_312.toNat)))) (fun i=>ae tp1 (atV (hdV (tlV (f0 i_312.toNat))) i)) (am (hdV (tlV (tlV (f0 i_312.toNat))))) (fun i=>ae tp1 (atV (hdV (tlV (tlV (f0 i_312.toNat)))) i)) (am (hdV (tlV (tlV (tlV (f0 i_312.toNat)))))) (fun i=>ae [Ty.sl tp1] (atV (hdV (tlV (tlV (tlV (f0 i_312.toNat))))) i)) (jv4 (f0 i_312.toNat)) (jv5 (f0 i_312.toNat)) != 0) (.ret (V.tup [vi i_312,vi (jF (am (hdV (tlV (f0 i_312.toNat)))) (fun i=>ae tp1 (atV (hdV (tlV (f0 i_312.toNat))) i)) (am (hdV (tlV (tlV (f0 i_312.toNat))))) (fun i=>ae tp1 (atV (hdV (tlV (tlV (f0 i_312.toNat)))) i)) (am (hdV (tlV (tlV (tlV (f0 i_312.toNat)))))) (fun i=>ae [Ty.sl tp1] (atV (hdV (tlV (tlV (tlV (f0 i_312.toNat))))) i)) (jv4 (f0 i_312.toNat)) (jv5 (f0 i_312.toNat)))])) (.next [some (some 0)] (jW.L0 (i64.wrap (i_312+1))) [])))
def Co (n0:Nat) (f0:FnV):RT jW:=.asm (true=true->n0<=9223372036854775807) (.enter [some (some 0)] (jW.L0 (0)) [])
theorem K1 (n0:Nat) (f0:FnV):dw tf u0 (Ww n0 f0) (aN JJ tf u0 Ll [V.sl n0 (elV [Ty.str,Ty.sl tp1,Ty.sl tp1,Ty.sl [Ty.sl tp1],Ty.int i64,Ty.int i64] f0),V.fn 128 [] [],V.fn 129 [] []]) (Co n0 f0) (lQ n0 f0):=⟨⟨by kernel_rfl,by kernel_rfl⟩,fun s=>match s with | .L0 i_100=>⟨by kernel_rfl,by kernel_rfl⟩ | .L2 i_300 i_301 n_302 s_303 n_304 f_305 n_306 f_307 n_308 f_309 i_310 i_311 i_312=>⟨by kernel_rfl,by kernel_rfl⟩⟩
def tI (f0:FnV) (a:Nat):Int:=jF (am (hdV (tlV (f0 a)))) (fun i=>ae tp1 (atV (hdV (tlV (f0 a))) i)) (am (hdV (tlV (tlV (f0 a))))) (fun i=>ae tp1 (atV (hdV (tlV (tlV (f0 a)))) i)) (am (hdV (tlV (tlV (tlV (f0 a)))))) (fun i=>ae [Ty.sl tp1] (atV (hdV (tlV (tlV (tlV (f0 a))))) i)) (jv4 (f0 a)) (jv5 (f0 a))
def tC (f0:FnV) (i j:Nat):Bool:=(sv (hdV (f0 (0+j)))).toList == (sv (hdV (f0 i))).toList
def fX (f0:FnV) (i:Nat):Int:=bif !fS (sv (hdV (f0 i))) then 6 else bif exB i (tC f0 i) then 5 else tI f0 i
def dJ (n0:Nat) (f0:FnV):Int:=dM n0 (fX f0)
def cK (n0:Nat) (f0:FnV):Int:=cj n0 (fX f0)
theorem TT (n0:Nat) (f0:FnV) (hn:n0<=9223372036854775807) (a:Nat) (hi:a < n0) (hj:∀ j,j < a->(fX f0 j != 0)=false) (h1:fS (sv (hdV (f0 a)))=true) (hx:(fX f0 a != 0)=false->Ev (lQ n0 f0) (.L0 (i64.wrap ((a:Int)+1))) (.tup [.int .i64 (dJ n0 f0),.int .i64 (cK n0 f0)])):Ev (lQ n0 f0) (.L2 0 ((↑(a - 0):Int)) (a - 0) (sv (hdV (f0 a))) (am (hdV (tlV (f0 a)))) (fun i=>ae tp1 (atV (hdV (tlV (f0 a))) i)) (am (hdV (tlV (tlV (f0 a))))) (fun i=>ae tp1 (atV (hdV (tlV (tlV (f0 a)))) i)) (am (hdV (tlV (tlV (tlV (f0 a)))))) (fun i=>ae [Ty.sl tp1] (atV (hdV (tlV (tlV (tlV (f0 a))))) i)) (jv4 (f0 a)) (jv5 (f0 a)) ((a:Int))) (.tup [.int .i64 (dJ n0 f0),.int .i64 (cK n0 f0)]):=by
 refine fL (n:=a) (by omega) (tC f0 a) (P:=fun x=>Ev (lQ n0 f0) (.L2 x ((↑(a - 0):Int)) (a - 0) (sv (hdV (f0 a))) (am (hdV (tlV (f0 a)))) (fun i=>ae tp1 (atV (hdV (tlV (f0 a))) i)) (am (hdV (tlV (tlV (f0 a))))) (fun i=>ae tp1 (atV (hdV (tlV (tlV (f0 a)))) i)) (am (hdV (tlV (tlV (tlV (f0 a)))))) (fun i=>ae [Ty.sl tp1] (atV (hdV (tlV (tlV (tlV (f0 a))))) i)) (jv4 (f0 a)) (jv5 (f0 a)) ((a:Int))) (.tup [.int .i64 (dJ n0 f0),.int .i64 (cK n0 f0)])) (fun j hlt hq next=>Ev.of rfl (bK hlt (yac hlt (ao (ac (ao (ac (aw (fun hb=>j6 (dqt (Int.natCast_nonneg j)) (dY (ah ?_))) (fun hb=>aR (next hb)))))))))) (fun hq=>Ev.of rfl (bu (jJ (aw (fun hb=>ah ?_) (fun hb=>aR (hx ?_))))))
 ·have hc:fX f0 a=5:=by unfold fX; rw [h1,bC j hlt hb]; rfl
  unfold dJ cK; rw [(bH hi (by rw [hc]; rfl) hj).1,(bH hi (by rw [hc]; rfl) hj).2,hc]
 ·have hc:fX f0 a=tI f0 a:=by unfold fX; rw [h1,bm hq]; rfl
  unfold dJ cK; rw [(bH hi (by rw [hc]; exact hb) hj).1,(bH hi (by rw [hc]; exact hb) hj).2,hc]; rfl
 ·have hc:fX f0 a=tI f0 a:=by unfold fX; rw [h1,bm hq]; rfl
  rw [hc]; exact hb
theorem Fz (n0:Nat) (f0:FnV) (hp:aI n0 f0):evR (Ev (lQ n0 f0)) (Co n0 f0) (.tup [.int .i64 (dJ n0 f0),.int .i64 (cK n0 f0)]):=by
 refine yab fun hn=>aD (fL hn (fun i=>fX f0 i != 0) (P:=fun x=>Ev (lQ n0 f0) (.L0 x) (.tup [.int .i64 (dJ n0 f0),.int .i64 (cK n0 f0)])) (fun i hlt hj next=>Ev.of rfl (bK hlt (yac hlt (ao (ac (ao (ac (aO (hp i hlt) (ac (aw (fun hb=>dY (ah ?_)) (fun hb=>aH (dqt (by omega)) (aE fun _=>aD (TT n0 f0 hn i hlt hj (tnT hb) next))))))))))))) (fun hj=>Ev.of rfl (bu (ah ?_))))
 ·have hc:fX f0 i=6:=by unfold fX; rw [show (!fS (sv (hdV (f0 i))))=true from hb]; rfl
  unfold dJ cK; rw [(bH hlt (by rw [hc]; rfl) hj).1,(bH hlt (by rw [hc]; rfl) hj).2,hc]
 ·unfold dJ cK; rw [(eq hj).1,(eq hj).2]
theorem yaV (n0:Nat) (f0:FnV) (hp:aI n0 (elV [.str,.sl tp1,.sl tp1,.sl [.sl tp1],.int .i64,.int .i64] f0)):evR (Ev (lQ n0 f0)) (Co n0 f0) (.tup [.int .i64 (dJ n0 (elV [.str,.sl tp1,.sl tp1,.sl [.sl tp1],.int .i64,.int .i64] f0)),.int .i64 (cK n0 (elV [.str,.sl tp1,.sl tp1,.sl [.sl tp1],.int .i64,.int .i64] f0))]):=Fz n0 f0 hp
def Ln:ap:=mkC [.sl [.str,.sl tp1,.sl tp1,.sl [.sl tp1],.int .i64,.int .i64],.fn 128 [] [],.fn 129 [] []] (fun
 | [.sl n0 f0,.fn _ [] [],.fn _ [] []]=>aI n0 f0
 | _=>False) fun
 | [.sl n0 f0,.fn _ [] [],.fn _ [] []]=>.tup [.int .i64 (dJ n0 f0),.int .i64 (cK n0 f0)]
 | _=>.any
theorem Rp:(vP Ln).Ok Tryz.prog 127:=mkE NM Tryz.func127 (by kernel_rfl) fun ds hp=>rfs (K1 ..) (yaV _ _ hp)
inductive jQ where
 | L0 (i_100:Int)
 | L2 (i_300 i_301:Int) (n_302:Nat) (s_303:ByteArray) (i_304 i_305 i_306 i_307 i_308 i_309 i_310 i_311 i_312 i_313 i_314 i_315 i_316 i_317:Int)
def o5 (n0:Nat) (f0:FnV) (n2:Nat) (f2:FnV) (n4:Nat) (f4:FnV):jQ->Env × List O × Option Ex
 | .L0 i_100=>([(14,vi i_100),(13,vi (↑n0:Int)),(12,V.sl n0 (elV [Ty.str,Ty.int i64,Ty.int i64,Ty.int i64,Ty.int i64,Ty.int i64,Ty.int i64,Ty.int i64,Ty.int i64,Ty.int i64,Ty.int i64,Ty.int i64,Ty.int i64,Ty.int i64] f0)),(4,V.pl 0 0),(0,V.sl n0 (elV [Ty.str,Ty.int i64,Ty.int i64,Ty.int i64,Ty.int i64,Ty.int i64,Ty.int i64,Ty.int i64,Ty.int i64,Ty.int i64,Ty.int i64,Ty.int i64,Ty.int i64,Ty.int i64] f0)),(2,V.fn 132 [] [V.pd [V.sl n2 (elV [Ty.str,Ty.sl tp1,Ty.sl tp1,Ty.sl [Ty.sl tp1],Ty.int i64,Ty.int i64] f2),V.sl n4 (elV [Ty.str,Ty.int i64,Ty.int i64,Ty.int i64,Ty.int i64,Ty.int i64,Ty.int i64,Ty.int i64,Ty.int i64,Ty.int i64,Ty.int i64,Ty.int i64,Ty.int i64,Ty.int i64] f4)]])],[O.cells [V.fn 131 [] []] 197],none)
 | .L2 i_300 i_301 n_302 s_303 i_304 i_305 i_306 i_307 i_308 i_309 i_310 i_311 i_312 i_313 i_314 i_315 i_316 i_317=>([(8,vi i_300),(7,vi i_301),(0,V.sl n_302 fun i=>elV [Ty.str,Ty.int i64,Ty.int i64,Ty.int i64,Ty.int i64,Ty.int i64,Ty.int i64,Ty.int i64,Ty.int i64,Ty.int i64,Ty.int i64,Ty.int i64,Ty.int i64,Ty.int i64] f0 (0+i)),(1,V.fn 202 [] [V.pl 0 0,V.pl 1 0])],[O.cells [V.fn 131 [] []] 197,O.cells [V.str s_303,vi i_304,vi i_305,vi i_306,vi i_307,vi i_308,vi i_309,vi i_310,vi i_311,vi i_312,vi i_313,vi i_314,vi i_315,vi i_316] 128],none)
def SD:jQ->JJ
 | .L0 i_100=>(0,[])
 | .L2 i_300 i_301 n_302 s_303 i_304 i_305 i_306 i_307 i_308 i_309 i_310 i_311 i_312 i_313 i_314 i_315 i_316 i_317=>(2,[Cx.i i_317])
def qq (n0:Nat) (f0:FnV) (n2:Nat) (f2:FnV) (n4:Nat) (f4:FnV) (cx:List Cx):Lp JJ:=lpT (atT (aN JJ tf u0 LA [V.sl n0 (elV [Ty.str,Ty.int i64,Ty.int i64,Ty.int i64,Ty.int i64,Ty.int i64,Ty.int i64,Ty.int i64,Ty.int i64,Ty.int i64,Ty.int i64,Ty.int i64,Ty.int i64,Ty.int i64] f0),V.fn 131 [] [],V.fn 132 [] [V.pd [V.sl n2 (elV [Ty.str,Ty.sl tp1,Ty.sl tp1,Ty.sl [Ty.sl tp1],Ty.int i64,Ty.int i64] f2),V.sl n4 (elV [Ty.str,Ty.int i64,Ty.int i64,Ty.int i64,Ty.int i64,Ty.int i64,Ty.int i64,Ty.int i64,Ty.int i64,Ty.int i64,Ty.int i64,Ty.int i64,Ty.int i64,Ty.int i64] f4)]]]) [])
def DJ (n0:Nat) (f0:FnV) (n2:Nat) (f2:FnV) (n4:Nat) (f4:FnV) (cx:List Cx):Lp JJ:=lpT (atT (rdT tf u0 (0,[]) (qq n0 f0 n2 f2 n4 f4 []) (o5 n0 f0 n2 f2 n4 f4 (.L0 (cxi cx 0))).1 (o5 n0 f0 n2 f2 n4 f4 (.L0 (cxi cx 0))).2.1 (o5 n0 f0 n2 f2 n4 f4 (.L0 (cxi cx 0))).2.2) [true,false])
def OA (n0:Nat) (f0:FnV) (n2:Nat) (f2:FnV) (n4:Nat) (f4:FnV):JJ->Lp JJ
 | (0,cx)=>qq n0 f0 n2 f2 n4 f4 cx
 | (2,cx)=>DJ n0 f0 n2 f2 n4 f4 cx
 | (_,cx)=>qq n0 f0 n2 f2 n4 f4 cx
def Up (n0:Nat) (f0:FnV) (n2:Nat) (f2:FnV) (n4:Nat) (f4:FnV):LD JJ jQ:=⟨SD,OA n0 f0 n2 f2 n4 f4,o5 n0 f0 n2 f2 n4 f4⟩
def lJ (n0:Nat) (f0:FnV) (n2:Nat) (f2:FnV) (n4:Nat) (f4:FnV):jQ->RT jQ
 | .L0 i_100=>.br (decide (i_100 < (↑n0:Int))) (.ob (decide (0<=i_100/\i_100 < (↑n0:Int))) (.obc (.obt (.obc (.obt (.obp ((sv (hdV (f0 i_100.toNat))).size<=(9223372036854775807:Nat)) (.obt (.br (!fS (sv (hdV (f0 i_100.toNat)))) (.brt (.ret (V.tup [vi i_100,vi 6]))) (.ob (decide (0<=i_100/\i_100<=(↑n0:Int))) (.asm (true=true->i_100.toNat - 0<=9223372036854775807) (.enter [some (some 0),some (some 1)] (jQ.L2 (0) ((↑(i_100.toNat - 0):Int)) (i_100.toNat - 0) (sv (hdV (f0 i_100.toNat))) (jv1 (f0 i_100.toNat)) (jv2 (f0 i_100.toNat)) (jv3 (f0 i_100.toNat)) (jv4 (f0 i_100.toNat)) (jv5 (f0 i_100.toNat)) (jv5 (tlV (f0 i_100.toNat))) (jv5 (tlV (tlV (f0 i_100.toNat)))) (jv5 (tlV (tlV (tlV (f0 i_100.toNat))))) (jv5 (tlV (tlV (tlV (tlV (f0 i_100.toNat)))))) (jv5 (tlV (tlV (tlV (tlV (tlV (f0 i_100.toNat))))))) (jv5 (tlV (tlV (tlV (tlV (tlV (tlV (f0 i_100.toNat)))))))) (jv5 (tlV (tlV (tlV (tlV (tlV (tlV (tlV (f0 i_100.toNat))))))))) (jv5 (tlV (tlV (tlV (tlV (tlV (tlV (tlV (tlV (f0 i_100.toNat)))))))))) (i_100)) []))))))))))) (.ret (V.tup [vi 0,vi 0]))
 | .L2 i_300 i_301 n_302 s_303 i_304 i_305 i_306 i_307 i_308 i_309 i_310 i_311 i_312 i_313 i_314 i_315 i_316 i_317=>.br (decide (i_300 < i_301)) (.ob (decide (0<=i_300/\i_300 < (↑n_302:Int))) (.obc (.obt (.obc (.obt (.br ((sv (hdV (f0 (0+i_300.toNat)))).toList == s_303.toList) (.br (decide (0<=i_300)) (.brt (.ret (V.tup [vi i_317,vi 5]))) (.br (kP (jv1 (f0 i_317.toNat)) (jv2 (f0 i_317.toNat)) (jv3 (f0 i_317.toNat)) (jv4 (f0 i_317.toNat)) (jv5 (f0 i_317.toNat)) (jv5 (tlV (f0 i_317.toNat))) (jv5 (tlV (tlV (f0 i_317.toNat)))) (jv5 (tlV (tlV (tlV (f0 i_317.toNat))))) (jv5 (tlV (tlV (tlV (tlV (f0 i_317.toNat)))))) (jv5 (tlV (tlV (tlV (tlV (tlV (f0 i_317.toNat))))))) (jv5 (tlV (tlV (tlV (tlV (tlV (tlV (f0 i_317.toNat)))))))) (jv5 (tlV (tlV (tlV (tlV (tlV (tlV (tlV (f0 i_317.toNat))))))))) (jv5 (tlV (tlV (tlV (tlV (tlV (tlV (tlV (tlV (f0 i_317.toNat)))))))))) n2 != 0) (.ret (V.tup [vi i_317,vi (kP (jv1 (f0 i_317.toNat)) (jv2 (f0 i_317.toNat)) (jv3 (f0 i_317.toNat)) (jv4 (f0 i_317.toNat)) (jv5 (f0 i_317.toNat)) (jv5 (tlV (f0 i_317.toNat))) (jv5 (tlV (tlV (f0 i_317.toNat)))) (jv5 (tlV (tlV (tlV (f0 i_317.toNat))))) (jv5 (tlV (tlV (tlV (tlV (f0 i_317.toNat)))))) (jv5 (tlV (tlV (tlV (tlV (tlV (f0 i_317.toNat))))))) (jv5 (tlV (tlV (tlV (tlV (tlV (tlV (f0 i_317.toNat)))))))) (jv5 (tlV (tlV (tlV (tlV (tlV (tlV (tlV (f0 i_317.toNat))))))))) (jv5 (tlV (tlV (tlV (tlV (tlV (tlV (tlV (tlV (f0 i_317.toNat)))))))))) n2)])) (.next [some (some 0)] (jQ.L0 (i64.wrap (i_317+1))) []))) (.next [some (some 0),some (some 1)] (jQ.L2 (i64.wrap (i_300+1)) (i_301) (n_302) (s_303) (i_304) (i_305) (i_306) (i_307) (i_308) (i_309) (i_310) (i_311) (i_312) (i_313) (i_314) (i_315) (i_316) (i_317)) []))))))) (.brf (.br (kP (jv1 (f0 i_317.toNat)) (jv2 (f0 i_317.toNat)) (jv3 (f0 i_317.toNat)) (jv4 (f0 i_317.toNat)) (jv5 (f0 i_317.toNat)) (jv5 (tlV (f0 i_317.toNat))) (jv5 (tlV (tlV (f0 i_317.toNat)))) (jv5 (tlV (tlV (tlV (f0 i_317.toNat))))) (jv5 (tlV (tlV (tlV (tlV (f0 i_317.toNat)))))) (jv5 (tlV (tlV (tlV (tlV (tlV (f0 i_317.toNat))))))) (jv5 (tlV (tlV (tlV (tlV (tlV (tlV (f0 i_317.toNat)))))))) (jv5 (tlV (tlV (tlV (tlV (tlV (tlV (tlV (f0 i_317.toNat))))))))) (jv5 (tlV (tlV (tlV (tlV (tlV (tlV (tlV (tlV (f0 i_317.toNat)))))))))) n2 != 0) (.ret (V.tup [vi i_317,vi (kP (jv1 (f0 i_317.toNat)) (jv2 (f0 i_317.toNat)) (jv3 (f0 i_317.toNat)) (jv4 (f0 i_317.toNat)) (jv5 (f0 i_317.toNat)) (jv5 (tlV (f0 i_317.toNat))) (jv5 (tlV (tlV (f0 i_317.toNat)))) (jv5 (tlV (tlV (tlV (f0 i_317.toNat))))) (jv5 (tlV (tlV (tlV (tlV (f0 i_317.toNat)))))) (jv5 (tlV (tlV (tlV (tlV (tlV (f0 i_317.toNat))))))) (jv5 (tlV (tlV (tlV (tlV (tlV (tlV (f0 i_317.toNat)))))))) (jv5 (tlV (tlV (tlV (tlV (tlV (tlV (tlV (f0 i_317.toNat))))))))) (jv5 (tlV (tlV (tlV (tlV (tlV (tlV (tlV (tlV (f0 i_317.toNat)))))))))) n2)])) (.next [some (some 0)] (jQ.L0 (i64.wrap (i_317+1))) [])))
def DD (n0:Nat) (f0:FnV) (n2:Nat) (f2:FnV) (n4:Nat) (f4:FnV):RT jQ:=.asm (true=true->n0<=9223372036854775807) (.enter [some (some 0)] (jQ.L0 (0)) [])
theorem Jt (n0:Nat) (f0:FnV) (n2:Nat) (f2:FnV) (n4:Nat) (f4:FnV):dw tf u0 (Up n0 f0 n2 f2 n4 f4) (aN JJ tf u0 LA [V.sl n0 (elV [Ty.str,Ty.int i64,Ty.int i64,Ty.int i64,Ty.int i64,Ty.int i64,Ty.int i64,Ty.int i64,Ty.int i64,Ty.int i64,Ty.int i64,Ty.int i64,Ty.int i64,Ty.int i64] f0),V.fn 131 [] [],V.fn 132 [] [V.pd [V.sl n2 (elV [Ty.str,Ty.sl tp1,Ty.sl tp1,Ty.sl [Ty.sl tp1],Ty.int i64,Ty.int i64] f2),V.sl n4 (elV [Ty.str,Ty.int i64,Ty.int i64,Ty.int i64,Ty.int i64,Ty.int i64,Ty.int i64,Ty.int i64,Ty.int i64,Ty.int i64,Ty.int i64,Ty.int i64,Ty.int i64,Ty.int i64] f4)]]]) (DD n0 f0 n2 f2 n4 f4) (lJ n0 f0 n2 f2 n4 f4):=⟨⟨by kernel_rfl,by kernel_rfl⟩,fun s=>match s with | .L0 i_100=>⟨by kernel_rfl,by kernel_rfl⟩ | .L2 i_300 i_301 n_302 s_303 i_304 i_305 i_306 i_307 i_308 i_309 i_310 i_311 i_312 i_313 i_314 i_315 i_316 i_317=>⟨by kernel_rfl,by kernel_rfl⟩⟩
def tv (f0:FnV) (n2 a:Nat):Int:=kP (jv1 (f0 a)) (jv2 (f0 a)) (jv3 (f0 a)) (jv4 (f0 a)) (jv5 (f0 a)) (jv5 (tlV (f0 a))) (jv5 (tlV (tlV (f0 a)))) (jv5 (tlV (tlV (tlV (f0 a))))) (jv5 (tlV (tlV (tlV (tlV (f0 a)))))) (jv5 (tlV (tlV (tlV (tlV (tlV (f0 a))))))) (jv5 (tlV (tlV (tlV (tlV (tlV (tlV (f0 a)))))))) (jv5 (tlV (tlV (tlV (tlV (tlV (tlV (tlV (f0 a))))))))) (jv5 (tlV (tlV (tlV (tlV (tlV (tlV (tlV (tlV (f0 a)))))))))) n2
def s4 (f0:FnV) (i j:Nat):Bool:=(sv (hdV (f0 (0+j)))).toList == (sv (hdV (f0 i))).toList
def fV (f0:FnV) (n2 i:Nat):Int:=bif !fS (sv (hdV (f0 i))) then 6 else bif exB i (s4 f0 i) then 5 else tv f0 n2 i
def dH (n0:Nat) (f0:FnV) (n2:Nat):Int:=dM n0 (fV f0 n2)
def cI (n0:Nat) (f0:FnV) (n2:Nat):Int:=cj n0 (fV f0 n2)
theorem VB (n0:Nat) (f0:FnV) (n2:Nat) (f2:FnV) (n4:Nat) (f4:FnV) (hn:n0<=9223372036854775807) (a:Nat) (hi:a < n0) (hj:∀ j,j < a->(fV f0 n2 j != 0)=false) (h1:fS (sv (hdV (f0 a)))=true) (hx:(fV f0 n2 a != 0)=false->Ev (lJ n0 f0 n2 f2 n4 f4) (.L0 (i64.wrap ((a:Int)+1))) (.tup [.int .i64 (dH n0 f0 n2),.int .i64 (cI n0 f0 n2)])):Ev (lJ n0 f0 n2 f2 n4 f4) (.L2 0 ((↑(a - 0):Int)) (a - 0) (sv (hdV (f0 a))) (jv1 (f0 a)) (jv2 (f0 a)) (jv3 (f0 a)) (jv4 (f0 a)) (jv5 (f0 a)) (jv5 (tlV (f0 a))) (jv5 (tlV (tlV (f0 a)))) (jv5 (tlV (tlV (tlV (f0 a))))) (jv5 (tlV (tlV (tlV (tlV (f0 a)))))) (jv5 (tlV (tlV (tlV (tlV (tlV (f0 a))))))) (jv5 (tlV (tlV (tlV (tlV (tlV (tlV (f0 a)))))))) (jv5 (tlV (tlV (tlV (tlV (tlV (tlV (tlV (f0 a))))))))) (jv5 (tlV (tlV (tlV (tlV (tlV (tlV (tlV (tlV (f0 a)))))))))) ((a:Int))) (.tup [.int .i64 (dH n0 f0 n2),.int .i64 (cI n0 f0 n2)]):=by
 refine fL (n:=a) (by omega) (s4 f0 a) (P:=fun x=>Ev (lJ n0 f0 n2 f2 n4 f4) (.L2 x ((↑(a - 0):Int)) (a - 0) (sv (hdV (f0 a))) (jv1 (f0 a)) (jv2 (f0 a)) (jv3 (f0 a)) (jv4 (f0 a)) (jv5 (f0 a)) (jv5 (tlV (f0 a))) (jv5 (tlV (tlV (f0 a)))) (jv5 (tlV (tlV (tlV (f0 a))))) (jv5 (tlV (tlV (tlV (tlV (f0 a)))))) (jv5 (tlV (tlV (tlV (tlV (tlV (f0 a))))))) (jv5 (tlV (tlV (tlV (tlV (tlV (tlV (f0 a)))))))) (jv5 (tlV (tlV (tlV (tlV (tlV (tlV (tlV (f0 a))))))))) (jv5 (tlV (tlV (tlV (tlV (tlV (tlV (tlV (tlV (f0 a)))))))))) ((a:Int))) (.tup [.int .i64 (dH n0 f0 n2),.int .i64 (cI n0 f0 n2)])) (fun j hlt hq next=>Ev.of rfl (bK hlt (yac hlt (ao (ac (ao (ac (aw (fun hb=>j6 (dqt (Int.natCast_nonneg j)) (dY (ah ?_))) (fun hb=>aR (next hb)))))))))) (fun hq=>Ev.of rfl (bu (jJ (aw (fun hb=>ah ?_) (fun hb=>aR (hx ?_))))))
 ·have hc:fV f0 n2 a=5:=by unfold fV; rw [h1,bC j hlt hb]; rfl
  unfold dH cI; rw [(bH hi (by rw [hc]; rfl) hj).1,(bH hi (by rw [hc]; rfl) hj).2,hc]
 ·have hc:fV f0 n2 a=tv f0 n2 a:=by unfold fV; rw [h1,bm hq]; rfl
  unfold dH cI; rw [(bH hi (by rw [hc]; exact hb) hj).1,(bH hi (by rw [hc]; exact hb) hj).2,hc]; rfl
 ·have hc:fV f0 n2 a=tv f0 n2 a:=by unfold fV; rw [h1,bm hq]; rfl
  rw [hc]; exact hb
theorem ET (n0:Nat) (f0:FnV) (n2:Nat) (f2:FnV) (n4:Nat) (f4:FnV) (hp:aI n0 f0):evR (Ev (lJ n0 f0 n2 f2 n4 f4)) (DD n0 f0 n2 f2 n4 f4) (.tup [.int .i64 (dH n0 f0 n2),.int .i64 (cI n0 f0 n2)]):=by
 refine yab fun hn=>aD (fL hn (fun i=>fV f0 n2 i != 0) (P:=fun x=>Ev (lJ n0 f0 n2 f2 n4 f4) (.L0 x) (.tup [.int .i64 (dH n0 f0 n2),.int .i64 (cI n0 f0 n2)])) (fun i hlt hj next=>Ev.of rfl (bK hlt (yac hlt (ao (ac (ao (ac (aO (hp i hlt) (ac (aw (fun hb=>dY (ah ?_)) (fun hb=>aH (dqt (by omega)) (aE fun _=>aD (VB n0 f0 n2 f2 n4 f4 hn i hlt hj (tnT hb) next))))))))))))) (fun hj=>Ev.of rfl (bu (ah ?_))))
 ·have hc:fV f0 n2 i=6:=by unfold fV; rw [show (!fS (sv (hdV (f0 i))))=true from hb]; rfl
  unfold dH cI; rw [(bH hlt (by rw [hc]; rfl) hj).1,(bH hlt (by rw [hc]; rfl) hj).2,hc]
 ·unfold dH cI; rw [(eq hj).1,(eq hj).2]
theorem yaT (n0:Nat) (f0:FnV) (n2:Nat) (f2:FnV) (n4:Nat) (f4:FnV) (hp:aI n0 (elV [.str,.int .i64,.int .i64,.int .i64,.int .i64,.int .i64,.int .i64,.int .i64,.int .i64,.int .i64,.int .i64,.int .i64,.int .i64,.int .i64] f0)):evR (Ev (lJ n0 f0 n2 f2 n4 f4)) (DD n0 f0 n2 f2 n4 f4) (.tup [.int .i64 (dH n0 (elV [.str,.int .i64,.int .i64,.int .i64,.int .i64,.int .i64,.int .i64,.int .i64,.int .i64,.int .i64,.int .i64,.int .i64,.int .i64,.int .i64] f0) n2),.int .i64 (cI n0 (elV [.str,.int .i64,.int .i64,.int .i64,.int .i64,.int .i64,.int .i64,.int .i64,.int .i64,.int .i64,.int .i64,.int .i64,.int .i64,.int .i64] f0) n2)]):=ET n0 f0 n2 f2 n4 f4 hp
def MU:ap:=mkC [.sl [.str,.int .i64,.int .i64,.int .i64,.int .i64,.int .i64,.int .i64,.int .i64,.int .i64,.int .i64,.int .i64,.int .i64,.int .i64,.int .i64],.fn 131 [] [],.fn 132 [] [.pd [.sl [.str,.sl tp1,.sl tp1,.sl [.sl tp1],.int .i64,.int .i64],.sl [.str,.int .i64,.int .i64,.int .i64,.int .i64,.int .i64,.int .i64,.int .i64,.int .i64,.int .i64,.int .i64,.int .i64,.int .i64,.int .i64]]]] (fun
 | [.sl n0 f0,.fn _ [] [],.fn _ [] [.pd [.sl n2 f2,.sl n4 f4]]]=>aI n0 f0
 | _=>False) fun
 | [.sl n0 f0,.fn _ [] [],.fn _ [] [.pd [.sl n2 f2,.sl n4 f4]]]=>.tup [.int .i64 (dH n0 f0 n2),.int .i64 (cI n0 f0 n2)]
 | _=>.any
theorem S5:(vP MU).Ok Tryz.prog 130:=mkE NM Tryz.func130 (by kernel_rfl) fun ds hp=>rfs (Jt ..) (yaT _ _ _ _ _ _ hp)
end
noncomputable section
def ju:aY:=(127,.con Ln)::(130,.con MU)::(132,.con E5)::Iq
theorem sP:aQ Tryz.prog eqs its ju:=.con Rp (.con S5 (.con Bs (Gv)))
def LZ (n0:Nat) (f0:FnV) (n2:Nat) (f2:FnV):RT Empty:=.asm (true=true->n0<=9223372036854775807) (.obi (.obi (.asm ((!decide (10 < (↑n0:Int)))=true->n2<=9223372036854775807) (.obi (.obi (.br (bif decide (10 < (↑n0:Int)) then true else decide (20 < (↑n2:Int))) (.ret (V.tup [vi 0,vi 0,vi 3])) (.obp (∀ (i:Nat),i < n0->(sv (hdV (f0 i))).size<=(9223372036854775807:Nat)) (.obt (.br (cK n0 (elV [Ty.str,Ty.sl tp1,Ty.sl tp1,Ty.sl [Ty.sl tp1],Ty.int i64,Ty.int i64] f0) != 0) (.ret (V.tup [vi 1,vi (dJ n0 (elV [Ty.str,Ty.sl tp1,Ty.sl tp1,Ty.sl [Ty.sl tp1],Ty.int i64,Ty.int i64] f0)),vi (cK n0 (elV [Ty.str,Ty.sl tp1,Ty.sl tp1,Ty.sl [Ty.sl tp1],Ty.int i64,Ty.int i64] f0))])) (.obp (∀ (i:Nat),i < n2->(sv (hdV (f2 i))).size<=(9223372036854775807:Nat)) (.obt (.br (cI n2 (elV [Ty.str,Ty.int i64,Ty.int i64,Ty.int i64,Ty.int i64,Ty.int i64,Ty.int i64,Ty.int i64,Ty.int i64,Ty.int i64,Ty.int i64,Ty.int i64,Ty.int i64,Ty.int i64] f2) n0 != 0) (.ret (V.tup [vi 2,vi (dH n2 (elV [Ty.str,Ty.int i64,Ty.int i64,Ty.int i64,Ty.int i64,Ty.int i64,Ty.int i64,Ty.int i64,Ty.int i64,Ty.int i64,Ty.int i64,Ty.int i64,Ty.int i64,Ty.int i64] f2) n0),vi (cI n2 (elV [Ty.str,Ty.int i64,Ty.int i64,Ty.int i64,Ty.int i64,Ty.int i64,Ty.int i64,Ty.int i64,Ty.int i64,Ty.int i64,Ty.int i64,Ty.int i64,Ty.int i64,Ty.int i64] f2) n0)])) (.ret (V.tup [vi 0,vi 0,vi 0]))))))))))))))
theorem Ie (n0:Nat) (f0:FnV) (n2:Nat) (f2:FnV):Fit noD (aN JJ ju u0 UF [V.agg [V.sl n0 (elV [Ty.str,Ty.sl tp1,Ty.sl tp1,Ty.sl [Ty.sl tp1],Ty.int i64,Ty.int i64] f0),V.sl n2 (elV [Ty.str,Ty.int i64,Ty.int i64,Ty.int i64,Ty.int i64,Ty.int i64,Ty.int i64,Ty.int i64,Ty.int i64,Ty.int i64,Ty.int i64,Ty.int i64,Ty.int i64,Ty.int i64] f2)]]) (LZ n0 f0 n2 f2):=⟨by kernel_rfl,by kernel_rfl⟩
def jc (n0:Nat) (f0:FnV) (n2:Nat) (f2:FnV):Int:=bif bif decide (10 < (↑n0:Int)) then true else decide (20 < (↑n2:Int)) then 0 else bif cK n0 (elV [Ty.str,Ty.sl tp1,Ty.sl tp1,Ty.sl [Ty.sl tp1],Ty.int i64,Ty.int i64] f0) != 0 then 1 else bif cI n2 (elV [Ty.str,Ty.int i64,Ty.int i64,Ty.int i64,Ty.int i64,Ty.int i64,Ty.int i64,Ty.int i64,Ty.int i64,Ty.int i64,Ty.int i64,Ty.int i64,Ty.int i64,Ty.int i64] f2) n0 != 0 then 2 else 0
def iY (n0:Nat) (f0:FnV) (n2:Nat) (f2:FnV):Int:=bif bif decide (10 < (↑n0:Int)) then true else decide (20 < (↑n2:Int)) then 0 else bif cK n0 (elV [Ty.str,Ty.sl tp1,Ty.sl tp1,Ty.sl [Ty.sl tp1],Ty.int i64,Ty.int i64] f0) != 0 then dJ n0 (elV [Ty.str,Ty.sl tp1,Ty.sl tp1,Ty.sl [Ty.sl tp1],Ty.int i64,Ty.int i64] f0) else bif cI n2 (elV [Ty.str,Ty.int i64,Ty.int i64,Ty.int i64,Ty.int i64,Ty.int i64,Ty.int i64,Ty.int i64,Ty.int i64,Ty.int i64,Ty.int i64,Ty.int i64,Ty.int i64,Ty.int i64] f2) n0 != 0 then dH n2 (elV [Ty.str,Ty.int i64,Ty.int i64,Ty.int i64,Ty.int i64,Ty.int i64,Ty.int i64,Ty.int i64,Ty.int i64,Ty.int i64,Ty.int i64,Ty.int i64,Ty.int i64,Ty.int i64] f2) n0 else 0
def e7 (n0:Nat) (f0:FnV) (n2:Nat) (f2:FnV):Int:=bif bif decide (10 < (↑n0:Int)) then true else decide (20 < (↑n2:Int)) then 3 else bif cK n0 (elV [Ty.str,Ty.sl tp1,Ty.sl tp1,Ty.sl [Ty.sl tp1],Ty.int i64,Ty.int i64] f0) != 0 then cK n0 (elV [Ty.str,Ty.sl tp1,Ty.sl tp1,Ty.sl [Ty.sl tp1],Ty.int i64,Ty.int i64] f0) else bif cI n2 (elV [Ty.str,Ty.int i64,Ty.int i64,Ty.int i64,Ty.int i64,Ty.int i64,Ty.int i64,Ty.int i64,Ty.int i64,Ty.int i64,Ty.int i64,Ty.int i64,Ty.int i64,Ty.int i64] f2) n0 != 0 then cI n2 (elV [Ty.str,Ty.int i64,Ty.int i64,Ty.int i64,Ty.int i64,Ty.int i64,Ty.int i64,Ty.int i64,Ty.int i64,Ty.int i64,Ty.int i64,Ty.int i64,Ty.int i64,Ty.int i64] f2) n0 else 0
def rY (n0:Nat) (f0:FnV) (n2:Nat) (f2:FnV):V:=.tup [.int i64 (jc n0 f0 n2 f2),.int i64 (iY n0 f0 n2 f2),.int i64 (e7 n0 f0 n2 f2)]
theorem Ql (n0:Nat) (f0:FnV) (n2:Nat) (f2:FnV) (hp:aI n0 f0/\aI n2 f2):evR noE (LZ n0 f0 n2 f2) (rY n0 f0 n2 f2):=aE (fun a0=>ak (ak (aE (fun a0=>ak (ak (aw (fun h0=>ah (by unfold rY jc iY e7; try rw [h0]; rfl)) (fun h0=>aO (by first | assumption | (first | exact hp.1 | exact hp.2)) (ac (aw (fun h1=>ah (by unfold rY jc iY e7; try rw [h0]; try rw [h1]; rfl)) (fun h1=>aO (by first | assumption | (first | exact hp.1 | exact hp.2)) (ac (aw (fun h2=>ah (by unfold rY jc iY e7; try rw [h0]; try rw [h1]; try rw [h2]; rfl)) (fun h2=>ah (by unfold rY jc iY e7; try rw [h0]; try rw [h1]; try rw [h2]; rfl))))))))))))))
def MB:ap:=mkC [.agg [.sl [.str,.sl tp1,.sl tp1,.sl [.sl tp1],.int .i64,.int .i64],.sl [.str,.int .i64,.int .i64,.int .i64,.int .i64,.int .i64,.int .i64,.int .i64,.int .i64,.int .i64,.int .i64,.int .i64,.int .i64,.int .i64]]] (fun
 | [.agg [.sl n0 f0,.sl n2 f2]]=>aI n0 f0/\aI n2 f2
 | _=>False) fun
 | [.agg [.sl n0 f0,.sl n2 f2]]=>rY n0 f0 n2 f2
 | _=>.any
theorem F5:(vP MB).Ok Tryz.prog 59:=mkE sP Tryz.func59 (by kernel_rfl) fun ds hp=>rf0 (Ie ..) (Ql _ _ _ _ hp)
inductive fW where
 | L0 (i_100:Int)
 | L1 (i_200:Int) (b_201:Bool) (i_202:Int)
 | L2 (i_300 i_301:Int) (b_302:Bool) (i_303:Int)
 | L3 (i_400 i_401 i_402:Int) (b_403:Bool) (i_404:Int)
def e9 (n0:Nat) (f0:FnV) (n2:Nat) (f2:FnV) (x4:Int):fW->Env × List O × Option Ex
 | .L0 i_100=>([(6,vi i_100),(5,V.pl 0 0),(2,V.pl 1 0),(1,vi x4)],[O.cells [V.str (sv (hdV (f0 x4.toNat))),V.sl (am (hdV (tlV (f0 x4.toNat)))) fun i=>ae tp1 (atV (hdV (tlV (f0 x4.toNat))) i),V.sl (am (hdV (tlV (tlV (f0 x4.toNat))))) fun i=>ae tp1 (atV (hdV (tlV (tlV (f0 x4.toNat)))) i),V.sl (am (hdV (tlV (tlV (tlV (f0 x4.toNat)))))) fun i=>ae [Ty.sl tp1] (atV (hdV (tlV (tlV (tlV (f0 x4.toNat))))) i),vi (jv4 (f0 x4.toNat)),vi (jv5 (f0 x4.toNat))] 126,O.cells [V.sl n0 (elV [Ty.str,Ty.sl tp1,Ty.sl tp1,Ty.sl [Ty.sl tp1],Ty.int i64,Ty.int i64] f0),V.sl n2 (elV [Ty.str,Ty.int i64,Ty.int i64,Ty.int i64,Ty.int i64,Ty.int i64,Ty.int i64,Ty.int i64,Ty.int i64,Ty.int i64,Ty.int i64,Ty.int i64,Ty.int i64,Ty.int i64] f2)] 25],none)
 | .L1 i_200 b_201 i_202=>([(14,vi i_200),(13,V.bool b_201),(6,vi i_202),(5,V.pl 0 0),(2,V.pl 1 0),(1,vi x4)],[O.cells [V.str (sv (hdV (f0 x4.toNat))),V.sl (am (hdV (tlV (f0 x4.toNat)))) fun i=>ae tp1 (atV (hdV (tlV (f0 x4.toNat))) i),V.sl (am (hdV (tlV (tlV (f0 x4.toNat))))) fun i=>ae tp1 (atV (hdV (tlV (tlV (f0 x4.toNat)))) i),V.sl (am (hdV (tlV (tlV (tlV (f0 x4.toNat)))))) fun i=>ae [Ty.sl tp1] (atV (hdV (tlV (tlV (tlV (f0 x4.toNat))))) i),vi (jv4 (f0 x4.toNat)),vi (jv5 (f0 x4.toNat))] 126,O.cells [V.sl n0 (elV [Ty.str,Ty.sl tp1,Ty.sl tp1,Ty.sl [Ty.sl tp1],Ty.int i64,Ty.int i64] f0),V.sl n2 (elV [Ty.str,Ty.int i64,Ty.int i64,Ty.int i64,Ty.int i64,Ty.int i64,Ty.int i64,Ty.int i64,Ty.int i64,Ty.int i64,Ty.int i64,Ty.int i64,Ty.int i64,Ty.int i64] f2)] 25],none)
 | .L2 i_300 i_301 b_302 i_303=>([(15,vi i_300),(14,vi i_301),(13,V.bool b_302),(6,vi i_303),(5,V.pl 0 0),(2,V.pl 1 0),(1,vi x4)],[O.cells [V.str (sv (hdV (f0 x4.toNat))),V.sl (am (hdV (tlV (f0 x4.toNat)))) fun i=>ae tp1 (atV (hdV (tlV (f0 x4.toNat))) i),V.sl (am (hdV (tlV (tlV (f0 x4.toNat))))) fun i=>ae tp1 (atV (hdV (tlV (tlV (f0 x4.toNat)))) i),V.sl (am (hdV (tlV (tlV (tlV (f0 x4.toNat)))))) fun i=>ae [Ty.sl tp1] (atV (hdV (tlV (tlV (tlV (f0 x4.toNat))))) i),vi (jv4 (f0 x4.toNat)),vi (jv5 (f0 x4.toNat))] 126,O.cells [V.sl n0 (elV [Ty.str,Ty.sl tp1,Ty.sl tp1,Ty.sl [Ty.sl tp1],Ty.int i64,Ty.int i64] f0),V.sl n2 (elV [Ty.str,Ty.int i64,Ty.int i64,Ty.int i64,Ty.int i64,Ty.int i64,Ty.int i64,Ty.int i64,Ty.int i64,Ty.int i64,Ty.int i64,Ty.int i64,Ty.int i64,Ty.int i64] f2)] 25],none)
 | .L3 i_400 i_401 i_402 b_403 i_404=>([(16,vi i_400),(15,vi i_401),(14,vi i_402),(13,V.bool b_403),(6,vi i_404),(5,V.pl 0 0),(2,V.pl 1 0),(1,vi x4)],[O.cells [V.str (sv (hdV (f0 x4.toNat))),V.sl (am (hdV (tlV (f0 x4.toNat)))) fun i=>ae tp1 (atV (hdV (tlV (f0 x4.toNat))) i),V.sl (am (hdV (tlV (tlV (f0 x4.toNat))))) fun i=>ae tp1 (atV (hdV (tlV (tlV (f0 x4.toNat)))) i),V.sl (am (hdV (tlV (tlV (tlV (f0 x4.toNat)))))) fun i=>ae [Ty.sl tp1] (atV (hdV (tlV (tlV (tlV (f0 x4.toNat))))) i),vi (jv4 (f0 x4.toNat)),vi (jv5 (f0 x4.toNat))] 126,O.cells [V.sl n0 (elV [Ty.str,Ty.sl tp1,Ty.sl tp1,Ty.sl [Ty.sl tp1],Ty.int i64,Ty.int i64] f0),V.sl n2 (elV [Ty.str,Ty.int i64,Ty.int i64,Ty.int i64,Ty.int i64,Ty.int i64,Ty.int i64,Ty.int i64,Ty.int i64,Ty.int i64,Ty.int i64,Ty.int i64,Ty.int i64,Ty.int i64] f2)] 25],none)
def PZ:fW->JJ
 | .L0 i_100=>(0,[])
 | .L1 i_200 b_201 i_202=>(1,[])
 | .L2 i_300 i_301 b_302 i_303=>(2,[])
 | .L3 i_400 i_401 i_402 b_403 i_404=>(3,[])
def qp (n0:Nat) (f0:FnV) (n2:Nat) (f2:FnV) (x4:Int) (cx:List Cx):Lp JJ:=lpT (atT (aN JJ ju u0 Lj [V.agg [V.sl n0 (elV [Ty.str,Ty.sl tp1,Ty.sl tp1,Ty.sl [Ty.sl tp1],Ty.int i64,Ty.int i64] f0),V.sl n2 (elV [Ty.str,Ty.int i64,Ty.int i64,Ty.int i64,Ty.int i64,Ty.int i64,Ty.int i64,Ty.int i64,Ty.int i64,Ty.int i64,Ty.int i64,Ty.int i64,Ty.int i64,Ty.int i64] f2)],vi x4]) [false])
def vJ (n0:Nat) (f0:FnV) (n2:Nat) (f2:FnV) (x4:Int) (cx:List Cx):Lp JJ:=lpT (atT (rdT ju u0 (0,[]) (qp n0 f0 n2 f2 x4 []) (e9 n0 f0 n2 f2 x4 (.L0 (0:Int))).1 (e9 n0 f0 n2 f2 x4 (.L0 (0:Int))).2.1 (e9 n0 f0 n2 f2 x4 (.L0 (0:Int))).2.2) [false,false,false,false,false,true])
def ve (n0:Nat) (f0:FnV) (n2:Nat) (f2:FnV) (x4:Int) (cx:List Cx):Lp JJ:=lpT (atT (rdT ju u0 (1,[]) (vJ n0 f0 n2 f2 x4 []) (e9 n0 f0 n2 f2 x4 (.L1 (0:Int) false (0:Int))).1 (e9 n0 f0 n2 f2 x4 (.L1 (0:Int) false (0:Int))).2.1 (e9 n0 f0 n2 f2 x4 (.L1 (0:Int) false (0:Int))).2.2) [false])
def ED (n0:Nat) (f0:FnV) (n2:Nat) (f2:FnV) (x4:Int) (cx:List Cx):Lp JJ:=lpT (atT (rdT ju u0 (2,[]) (ve n0 f0 n2 f2 x4 []) (e9 n0 f0 n2 f2 x4 (.L2 (0:Int) (0:Int) false (0:Int))).1 (e9 n0 f0 n2 f2 x4 (.L2 (0:Int) (0:Int) false (0:Int))).2.1 (e9 n0 f0 n2 f2 x4 (.L2 (0:Int) (0:Int) false (0:Int))).2.2) [true])
def P7 (n0:Nat) (f0:FnV) (n2:Nat) (f2:FnV) (x4:Int):JJ->Lp JJ
 | (0,cx)=>qp n0 f0 n2 f2 x4 cx
 | (1,cx)=>vJ n0 f0 n2 f2 x4 cx
 | (2,cx)=>ve n0 f0 n2 f2 x4 cx
 | (3,cx)=>ED n0 f0 n2 f2 x4 cx
 | (_,cx)=>qp n0 f0 n2 f2 x4 cx
def UM (n0:Nat) (f0:FnV) (n2:Nat) (f2:FnV) (x4:Int):LD JJ fW:=⟨PZ,P7 n0 f0 n2 f2 x4,e9 n0 f0 n2 f2 x4⟩
def eT (n0:Nat) (f0:FnV) (n2:Nat) (f2:FnV) (x4:Int):fW->RT fW
 | .L0 i_100=>.br (decide (i_100 < x4)) (.ob (decide (0<=i_100/\i_100 < (↑n0:Int))) (.br ((sv (hdV (f0 i_100.toNat))).toList == (sv (hdV (f0 x4.toNat))).toList) (.ret (vi 5)) (.next [some (some 0),some (some 1)] (fW.L0 (i64.wrap (i_100+1))) []))) (.obc (.obt (.obc (.obt (.obi (.obi (.br (bif !yaa (↑(am (hdV (tlV (f0 x4.toNat)))):Int) 2 12 then true else !yaa (↑(am (hdV (tlV (tlV (f0 x4.toNat))))):Int) 2 12) (.ret (vi 3)) (.obi (.obi (.br (bif !ia (am (hdV (tlV (f0 x4.toNat)))) fun i=>ae tp1 (atV (hdV (tlV (f0 x4.toNat))) i) then true else !ia (am (hdV (tlV (tlV (f0 x4.toNat))))) fun i=>ae tp1 (atV (hdV (tlV (tlV (f0 x4.toNat)))) i)) (.ret (vi 7)) (.obi (.obi (.br (bif !cW (am (hdV (tlV (f0 x4.toNat)))) fun i=>ae tp1 (atV (hdV (tlV (f0 x4.toNat))) i) then true else !cW (am (hdV (tlV (tlV (f0 x4.toNat))))) fun i=>ae tp1 (atV (hdV (tlV (tlV (f0 x4.toNat)))) i)) (.ret (vi 2)) (.asm (true=true->am (hdV (tlV (tlV (tlV (f0 x4.toNat)))))<=9223372036854775807) (.asm (true=true->am (hdV (tlV (f0 x4.toNat)))<=9223372036854775807) (.br ((↑(am (hdV (tlV (tlV (tlV (f0 x4.toNat)))))):Int) != (↑(am (hdV (tlV (f0 x4.toNat)))):Int)) (.ret (vi 6)) (.obc (.obt (.obi (.br (yaa (jv4 (f0 x4.toNat)) 0 10000000) (.ob (yaa (jv4 (f0 x4.toNat)) 0 10000000) (.obc (.obt (.enter [some (some 0),some (some 1)] (fW.L1 (0) (yaa (jv5 (f0 x4.toNat)) 0 10000000) (i_100)) [])))) (.enter [some (some 0),some (some 1)] (fW.L1 (0) (false) (i_100)) [])))))))))))))))))))))
 | .L1 i_200 b_201 i_202=>.asm (true=true->am (hdV (tlV (tlV (tlV (f0 x4.toNat)))))<=9223372036854775807) (.br (decide (i_200 < (↑(am (hdV (tlV (tlV (tlV (f0 x4.toNat)))))):Int))) (.ob (decide (0<=i_200/\i_200 < (↑(am (hdV (tlV (tlV (tlV (f0 x4.toNat)))))):Int))) (.asm (true=true->am (hdV (atV (hdV (tlV (tlV (tlV (f0 x4.toNat))))) i_200.toNat))<=9223372036854775807) (.asm (true=true->am (hdV (tlV (tlV (f0 x4.toNat))))<=9223372036854775807) (.br ((↑(am (hdV (atV (hdV (tlV (tlV (tlV (f0 x4.toNat))))) i_200.toNat))):Int) != (↑(am (hdV (tlV (tlV (f0 x4.toNat))))):Int)) (.ret (vi 6)) (.next [some (some 0),some (some 1)] (fW.L1 (i64.wrap (i_200+1)) (b_201) (i_202)) []))))) (.enter [some (some 0),some (some 1)] (fW.L2 (0) (i_200) (b_201) (i_202)) []))
 | .L2 i_300 i_301 b_302 i_303=>.asm (true=true->am (hdV (tlV (tlV (tlV (f0 x4.toNat)))))<=9223372036854775807) (.br (decide (i_300 < (↑(am (hdV (tlV (tlV (tlV (f0 x4.toNat)))))):Int))) (.enter [some (some 0),some (some 1)] (fW.L3 (0) (i_300) (i_301) (b_302) (i_303)) []) (.br (!b_302) (.ret (vi 7)) (.ret (vi 0))))
 | .L3 i_400 i_401 i_402 b_403 i_404=>.asm (true=true->am (hdV (tlV (tlV (f0 x4.toNat))))<=9223372036854775807) (.br (decide (i_400 < (↑(am (hdV (tlV (tlV (f0 x4.toNat))))):Int))) (.obi (.obi (.obi (.obj (b_403) (decide (0<=i_401/\i_401 < (↑(am (hdV (tlV (tlV (tlV (f0 x4.toNat)))))):Int))) (.obi (.obi (.obi (.obj (b_403) (decide (0<=i_400/\i_400 < (↑(am (hdV (atV (hdV (tlV (tlV (tlV (f0 x4.toNat))))) i_401.toNat))):Int))) (.obi (.br (b_403) (.ob (b_403) (.obc (.obt (.next [some (some 0),some (some 1)] (fW.L3 (i64.wrap (i_400+1)) (i_401) (i_402) (yaa (jv0 (atV (hdV (atV (hdV (tlV (tlV (tlV (f0 x4.toNat))))) i_401.toNat)) i_400.toNat)) 0 10000000) (i_404)) [])))) (.next [some (some 0),some (some 1)] (fW.L3 (i64.wrap (i_400+1)) (i_401) (i_402) (false) (i_404)) []))))))))))) (.next [some (some 0),some (some 1)] (fW.L2 (i64.wrap (i_401+1)) (i_402) (b_403) (i_404)) []))
def Gc (n0:Nat) (f0:FnV) (n2:Nat) (f2:FnV) (x4:Int):RT fW:=.ob (decide (0<=x4/\x4 < (↑n0:Int))) (.obp ((sv (hdV (f0 x4.toNat))).size<=(9223372036854775807:Nat)) (.obt (.br (!gy (sv (hdV (f0 x4.toNat)))) (.ret (vi 6)) (.enter [some (some 1),some (some 0)] (fW.L0 (0)) []))))
theorem IL (n0:Nat) (f0:FnV) (n2:Nat) (f2:FnV) (x4:Int):dw ju u0 (UM n0 f0 n2 f2 x4) (aN JJ ju u0 Lj [V.agg [V.sl n0 (elV [Ty.str,Ty.sl tp1,Ty.sl tp1,Ty.sl [Ty.sl tp1],Ty.int i64,Ty.int i64] f0),V.sl n2 (elV [Ty.str,Ty.int i64,Ty.int i64,Ty.int i64,Ty.int i64,Ty.int i64,Ty.int i64,Ty.int i64,Ty.int i64,Ty.int i64,Ty.int i64,Ty.int i64,Ty.int i64,Ty.int i64] f2)],vi x4]) (Gc n0 f0 n2 f2 x4) (eT n0 f0 n2 f2 x4):=⟨⟨by kernel_rfl,by kernel_rfl⟩,fun s=>match s with | .L0 i_100=>⟨by kernel_rfl,by kernel_rfl⟩ | .L1 i_200 b_201 i_202=>⟨by kernel_rfl,by kernel_rfl⟩ | .L2 i_300 i_301 b_302 i_303=>⟨by kernel_rfl,by kernel_rfl⟩ | .L3 i_400 i_401 i_402 b_403 i_404=>⟨by kernel_rfl,by kernel_rfl⟩⟩
def mL (n3:Nat) (f5:FnV) (i:Nat):Bool:=(am (hdV (f5 i)):Int) != (n3:Int)
def jK (f5:FnV) (i j:Nat):Bool:=yaa (jv0 (atV (hdV (f5 i)) j)) 0 10000000
def eP (n3:Nat) (f5:FnV) (i:Nat):Bool:=bL n3 (jK f5 i)
def iu (x7 x8:Int):Bool:=bif yaa x7 0 10000000 then yaa x8 0 10000000 else false
def or2 (a b:Bool):Bool:=bif !a then true else !b
def AD (n1:Nat) (f1:FnV) (n3:Nat) (f3:FnV) (n5:Nat) (f5:FnV) (x7 x8:Int):Int :=
 bif or2 (yaa (n1:Int) 2 12) (yaa (n3:Int) 2 12) then 3 else bif or2 (ia n1 f1) (ia n3 f3) then 7 else bif or2 (cW n1 f1) (cW n3 f3) then 2 else bif (n5:Int) != (n1:Int) then 6 else bif exB n5 (mL n3 f5) then 6 else bif !(iu x7 x8 && bL n5 (eP n3 f5)) then 7 else 0
def vn (f0:FnV) (a j:Nat):Bool:=(sv (hdV (f0 j))).toList == (sv (hdV (f0 a))).toList
def gx (f0:FnV) (a:Nat):Int:=bif !gy (sv (hdV (f0 a))) then 6 else bif exB a (vn f0 a) then 5 else AD (am (hdV (tlV (f0 a)))) (fun i=>ae tp1 (atV (hdV (tlV (f0 a))) i)) (am (hdV (tlV (tlV (f0 a))))) (fun i=>ae tp1 (atV (hdV (tlV (tlV (f0 a)))) i)) (am (hdV (tlV (tlV (tlV (f0 a)))))) (atV (hdV (tlV (tlV (tlV (f0 a)))))) (jv4 (f0 a)) (jv5 (f0 a))
def t44 (f0:FnV) (a:Nat) (g:Bool):Int:=bif !(g && bL (am (hdV (tlV (tlV (tlV (f0 a)))))) (eP (am (hdV (tlV (tlV (f0 a))))) (atV (hdV (tlV (tlV (tlV (f0 a)))))))) then 7 else 0
theorem Hb (n0:Nat) (f0:FnV) (n2:Nat) (f2:FnV) (a:Nat) (r:V) (i:Nat) (hi:i < (am (hdV (tlV (tlV (tlV (f0 a))))))) (h3:(am (hdV (tlV (tlV (f0 a)))))<=9223372036854775807) (hrow:∀ i,i < (am (hdV (tlV (tlV (tlV (f0 a))))))->(am (hdV ((atV (hdV (tlV (tlV (tlV (f0 a)))))) i)):Int)=((am (hdV (tlV (tlV (f0 a))))):Int)) (g:Bool) (t t':Int) (hx:Ev (eT n0 f0 n2 f2 (a:Int)) (.L2 (i64.wrap ((i:Int)+1)) t (g && eP (am (hdV (tlV (tlV (f0 a))))) (atV (hdV (tlV (tlV (tlV (f0 a)))))) i) t') r):Ev (eT n0 f0 n2 f2 (a:Int)) (.L3 0 i t g t') r:=by
 have key:=wX h3 (P:=fun x=>Ev (eT n0 f0 n2 f2 (a:Int)) (.L3 x i t (g && bL x.toNat (jK (atV (hdV (tlV (tlV (tlV (f0 a)))))) i)) t') r) (fun j hlt nx=>?_) (Ev.of rfl (aE fun _=>bu (aR hx)))
 ·simpa [bL] using key
 ·have hj:(j:Int) < (am (hdV ((atV (hdV (tlV (tlV (tlV (f0 a)))))) i)):Int):=by rw [hrow i hi]; omega
  simp only [Int.toNat_natCast]
  rw [show (i64.wrap ((j:Int)+1)).toNat=j+1 by rw [iE hlt h3]; rfl] at nx
  refine Ev.of rfl (aE fun _=>bK hlt (ak (ak (ak (oH (fun _=>dqt ⟨by omega,by show (i:Int) < ((am (hdV (tlV (tlV (tlV (f0 a)))))):Int); omega⟩) (ak (ak (ak (oH (fun _=>dqt ⟨by omega,hj⟩) (ak (aw (fun hb=>aH hb (ao (ac (aR ?_)))) (fun hb=>aR ?_))))))))))))
  ·have e:(g && bL (j+1) (jK (atV (hdV (tlV (tlV (tlV (f0 a)))))) i))=jK (atV (hdV (tlV (tlV (tlV (f0 a)))))) i j:=by
    have hb':(g && bL j (jK (atV (hdV (tlV (tlV (tlV (f0 a)))))) i))=true:=hb
    show (g && (bL j (jK (atV (hdV (tlV (tlV (tlV (f0 a)))))) i) && jK (atV (hdV (tlV (tlV (tlV (f0 a)))))) i j))=_
    rw [← Bool.and_assoc,hb',Bool.true_and]
   rw [e] at nx; exact nx
  ·have e:(g && bL (j+1) (jK (atV (hdV (tlV (tlV (tlV (f0 a)))))) i))=false:=by
    have hb':(g && bL j (jK (atV (hdV (tlV (tlV (tlV (f0 a)))))) i))=false:=hb
    show (g && (bL j (jK (atV (hdV (tlV (tlV (tlV (f0 a)))))) i) && jK (atV (hdV (tlV (tlV (tlV (f0 a)))))) i j))=_
    rw [← Bool.and_assoc,hb',Bool.false_and]
   rw [e] at nx; exact nx
theorem IM (n0:Nat) (f0:FnV) (n2:Nat) (f2:FnV) (a:Nat) (h5:(am (hdV (tlV (tlV (tlV (f0 a))))))<=9223372036854775807) (hrow:∀ i,i < (am (hdV (tlV (tlV (tlV (f0 a))))))->(am (hdV ((atV (hdV (tlV (tlV (tlV (f0 a)))))) i)):Int)=((am (hdV (tlV (tlV (f0 a))))):Int)) (g:Bool) (t t':Int):Ev (eT n0 f0 n2 f2 (a:Int)) (.L2 0 t g t') (.int .i64 (t44 f0 a g)):=by
 by_cases h3:(am (hdV (tlV (tlV (f0 a)))))<=9223372036854775807
 ·have key:=wX h5 (P:=fun x=>Ev (eT n0 f0 n2 f2 (a:Int)) (.L2 x t (g && bL x.toNat (eP (am (hdV (tlV (tlV (f0 a))))) (atV (hdV (tlV (tlV (tlV (f0 a)))))))) t') (.int .i64 (t44 f0 a g))) (fun i hlt nx=>?_) (Ev.of rfl (aE fun _=>bu ?_))
  ·simpa [bL] using key
  ·simp only [Int.toNat_natCast]
   rw [show (i64.wrap ((i:Int)+1)).toNat=i+1 by rw [iE hlt h5]; rfl] at nx
   refine Ev.of rfl (aE fun _=>bK hlt (aD (Hb n0 f0 n2 f2 a _ i hlt h3 hrow _ t t' ?_)))
   rw [Bool.and_assoc]; exact nx
  ·simp only [Int.toNat_natCast]
   unfold t44
   refine aw (fun h=>ah ?_) (fun h=>ah ?_)
   ·rw [show (!(g && bL (am (hdV (tlV (tlV (tlV (f0 a)))))) (eP (am (hdV (tlV (tlV (f0 a))))) (atV (hdV (tlV (tlV (tlV (f0 a)))))))))=true from h]; rfl
   ·rw [show (!(g && bL (am (hdV (tlV (tlV (tlV (f0 a)))))) (eP (am (hdV (tlV (tlV (f0 a))))) (atV (hdV (tlV (tlV (tlV (f0 a)))))))))=false from h]; rfl
 ·have key:=wX h5 (P:=fun x=>Ev (eT n0 f0 n2 f2 (a:Int)) (.L2 x t (g && bL x.toNat (eP (am (hdV (tlV (tlV (f0 a))))) (atV (hdV (tlV (tlV (tlV (f0 a)))))))) t') (.int .i64 (t44 f0 a g))) (fun i hlt nx=>?_) (Ev.of rfl (aE fun _=>bu ?_))
  ·simpa [bL] using key
  ·exact Ev.of rfl (aE fun _=>bK hlt (aD (Ev.of rfl (aE fun h=>absurd (h rfl) h3))))
  ·simp only [Int.toNat_natCast]
   unfold t44
   refine aw (fun h=>ah ?_) (fun h=>ah ?_)
   ·rw [show (!(g && bL (am (hdV (tlV (tlV (tlV (f0 a)))))) (eP (am (hdV (tlV (tlV (f0 a))))) (atV (hdV (tlV (tlV (tlV (f0 a)))))))))=true from h]; rfl
   ·rw [show (!(g && bL (am (hdV (tlV (tlV (tlV (f0 a)))))) (eP (am (hdV (tlV (tlV (f0 a))))) (atV (hdV (tlV (tlV (tlV (f0 a)))))))))=false from h]; rfl
theorem Ae (n0:Nat) (f0:FnV) (n2:Nat) (f2:FnV) (a:Nat) (g:Bool) (t':Int):Ev (eT n0 f0 n2 f2 (a:Int)) (.L1 0 g t') (.int .i64 (bif exB (am (hdV (tlV (tlV (tlV (f0 a)))))) (mL (am (hdV (tlV (tlV (f0 a))))) (atV (hdV (tlV (tlV (tlV (f0 a))))))) then 6 else t44 f0 a g)):=by
 by_cases h5:(am (hdV (tlV (tlV (tlV (f0 a))))))<=9223372036854775807
 ·refine fL h5 (mL (am (hdV (tlV (tlV (f0 a))))) (atV (hdV (tlV (tlV (tlV (f0 a))))))) (P:=fun x=>Ev (eT n0 f0 n2 f2 (a:Int)) (.L1 x g t') (.int .i64 (bif exB (am (hdV (tlV (tlV (tlV (f0 a)))))) (mL (am (hdV (tlV (tlV (f0 a))))) (atV (hdV (tlV (tlV (tlV (f0 a))))))) then 6 else t44 f0 a g))) (fun i hlt hj next=>Ev.of rfl (aE fun _=>bK hlt (yac hlt (aE fun _=>aE fun _=>aw (fun hb=>ah ?_) (fun hb=>aR (next hb)))))) (fun hj=>Ev.of rfl (aE fun _=>bu (aD ?_)))
  ·rw [bC i hlt hb]; rfl
  ·rw [bm hj]
   exact IM n0 f0 n2 f2 a h5 (fun i hi=>by have:=hj i hi; unfold mL at this; simpa using this) g _ t'
 ·exact Ev.of rfl (aE fun h=>absurd (h rfl) h5)
theorem GQ (n0:Nat) (f0:FnV) (n2:Nat) (f2:FnV) (a:Nat) (ha:a < n0) (hn:n0<=9223372036854775807):Ev (eT n0 f0 n2 f2 (a:Int)) (.L0 0) (.int .i64 (bif exB a (vn f0 a) then 5 else AD (am (hdV (tlV (f0 a)))) (fun i=>ae tp1 (atV (hdV (tlV (f0 a))) i)) (am (hdV (tlV (tlV (f0 a))))) (fun i=>ae tp1 (atV (hdV (tlV (tlV (f0 a)))) i)) (am (hdV (tlV (tlV (tlV (f0 a)))))) (atV (hdV (tlV (tlV (tlV (f0 a)))))) (jv4 (f0 a)) (jv5 (f0 a)))):=by
 refine fL (n:=a) (by omega) (vn f0 a) (P:=fun x=>Ev (eT n0 f0 n2 f2 (a:Int)) (.L0 x) _) (fun j hlt hj next=>Ev.of rfl (bK hlt (yac (by omega) (aw (fun hb=>ah ?_) (fun hb=>aR (next hb)))))) (fun hj=>Ev.of rfl (bu ?_))
 ·rw [bC j hlt hb]; rfl
 ·rw [bm hj,cond_false]
  unfold AD
  refine ao (ac (ao (ac (ak (ak (aw (fun h=>ah (by rw [show or2 (yaa ((am (hdV (tlV (f0 a)))):Int) 2 12) (yaa ((am (hdV (tlV (tlV (f0 a))))):Int) 2 12)=true from h]; rfl)) (fun h=>?_)))))))
  rw [show or2 (yaa ((am (hdV (tlV (f0 a)))):Int) 2 12) (yaa ((am (hdV (tlV (tlV (f0 a))))):Int) 2 12)=false from h]
  refine ak (ak (aw (fun h=>ah (by rw [show or2 (ia (am (hdV (tlV (f0 a)))) (fun i=>ae tp1 (atV (hdV (tlV (f0 a))) i))) (ia (am (hdV (tlV (tlV (f0 a))))) (fun i=>ae tp1 (atV (hdV (tlV (tlV (f0 a)))) i)))=true from h]; rfl)) (fun h=>?_)))
  rw [show or2 (ia (am (hdV (tlV (f0 a)))) (fun i=>ae tp1 (atV (hdV (tlV (f0 a))) i))) (ia (am (hdV (tlV (tlV (f0 a))))) (fun i=>ae tp1 (atV (hdV (tlV (tlV (f0 a)))) i)))=false from h]
  refine ak (ak (aw (fun h=>ah (by rw [show or2 (cW (am (hdV (tlV (f0 a)))) (fun i=>ae tp1 (atV (hdV (tlV (f0 a))) i))) (cW (am (hdV (tlV (tlV (f0 a))))) (fun i=>ae tp1 (atV (hdV (tlV (tlV (f0 a)))) i)))=true from h]; rfl)) (fun h=>?_)))
  rw [show or2 (cW (am (hdV (tlV (f0 a)))) (fun i=>ae tp1 (atV (hdV (tlV (f0 a))) i))) (cW (am (hdV (tlV (tlV (f0 a))))) (fun i=>ae tp1 (atV (hdV (tlV (tlV (f0 a)))) i)))=false from h]
  refine aE fun _=>aE fun _=>aw (fun h=>ah (by rw [show (((am (hdV (tlV (tlV (tlV (f0 a)))))):Int) != ((am (hdV (tlV (f0 a)))):Int))=true from h]; rfl)) (fun h=>?_)
  rw [show (((am (hdV (tlV (tlV (tlV (f0 a)))))):Int) != ((am (hdV (tlV (f0 a)))):Int))=false from h]
  refine ao (ac (ak (aw (fun hg=>aH hg (ao (ac (aD ?_)))) (fun hg=>aD ?_))))
  ·have e:iu (jv4 (f0 a)) (jv5 (f0 a))=yaa (jv5 (f0 a)) 0 10000000:=by unfold iu; rw [show yaa (jv4 (f0 a)) 0 10000000=true from hg]; rfl
   rw [e]; exact Ae n0 f0 n2 f2 a _ _
  ·have e:iu (jv4 (f0 a)) (jv5 (f0 a))=false:=by unfold iu; rw [show yaa (jv4 (f0 a)) 0 10000000=false from hg]; rfl
   rw [e]; exact Ae n0 f0 n2 f2 a _ _
theorem BE (n0:Nat) (f0:FnV) (n2:Nat) (f2:FnV) (x4:Int) (hp:0<=x4/\x4 < n0/\n0<=9223372036854775807/\aI n0 f0):evR (Ev (eT n0 f0 n2 f2 x4)) (Gc n0 f0 n2 f2 x4) (.int .i64 (gx f0 x4.toNat)):=by
 obtain ⟨h0,h1,h2,h3⟩:=hp
 obtain ⟨a,rfl⟩:∃ a:Nat,x4=(a:Int):=⟨x4.toNat,by omega⟩
 have ha:a < n0:=by omega
 unfold gx
 simp only [Int.toNat_natCast]
 refine yac ha (aO (h3 a ha) (ac (aw (fun h=>ah (by rw [show (!gy (sv (hdV (f0 a))))=true from h]; rfl)) (fun h=>aD ?_))))
 rw [show (!gy (sv (hdV (f0 a))))=false from h]
 exact GQ n0 f0 n2 f2 a ha h2
theorem Sg (n0:Nat) (f0:FnV) (n2:Nat) (f2:FnV) (x4:Int) (hp:0<=x4/\x4 < n0/\n0<=9223372036854775807/\aI n0 (elV [.str,.sl tp1,.sl tp1,.sl [.sl tp1],.int .i64,.int .i64] f0)):evR (Ev (eT n0 f0 n2 f2 x4)) (Gc n0 f0 n2 f2 x4) (.int .i64 (gx (elV [.str,.sl tp1,.sl tp1,.sl [.sl tp1],.int .i64,.int .i64] f0) x4.toNat)):=BE n0 f0 n2 f2 x4 hp
def Oc:ap:=mkC [.agg [.sl [.str,.sl tp1,.sl tp1,.sl [.sl tp1],.int .i64,.int .i64],.sl [.str,.int .i64,.int .i64,.int .i64,.int .i64,.int .i64,.int .i64,.int .i64,.int .i64,.int .i64,.int .i64,.int .i64,.int .i64,.int .i64]],.int .i64] (fun
 | [.agg [.sl n0 f0,.sl n2 f2],.int _ x4]=>0<=x4/\x4 < n0/\n0<=9223372036854775807/\aI n0 f0
 | _=>False) fun
 | [.agg [.sl n0 f0,.sl n2 f2],.int _ x4]=>.int .i64 (gx f0 x4.toNat)
 | _=>.any
theorem PO:(vP Oc).Ok Tryz.prog 144:=mkE sP Tryz.func144 (by kernel_rfl) fun ds hp=>rfs (IL ..) (Sg _ _ _ _ _ hp)
inductive oN where
 | L0 (i_100:Int)
def KV (n0:Nat) (f0:FnV) (n2:Nat) (f2:FnV) (x4:Int):oN->Env × List O × Option Ex
 | .L0 i_100=>([(6,vi i_100),(5,V.pl 0 0),(2,V.pl 1 0),(1,vi x4)],[O.cells [V.str (sv (hdV (f2 x4.toNat))),vi (jv1 (f2 x4.toNat)),vi (jv2 (f2 x4.toNat)),vi (jv3 (f2 x4.toNat)),vi (jv4 (f2 x4.toNat)),vi (jv5 (f2 x4.toNat)),vi (jv5 (tlV (f2 x4.toNat))),vi (jv5 (tlV (tlV (f2 x4.toNat)))),vi (jv5 (tlV (tlV (tlV (f2 x4.toNat))))),vi (jv5 (tlV (tlV (tlV (tlV (f2 x4.toNat)))))),vi (jv5 (tlV (tlV (tlV (tlV (tlV (f2 x4.toNat))))))),vi (jv5 (tlV (tlV (tlV (tlV (tlV (tlV (f2 x4.toNat)))))))),vi (jv5 (tlV (tlV (tlV (tlV (tlV (tlV (tlV (f2 x4.toNat))))))))),vi (jv5 (tlV (tlV (tlV (tlV (tlV (tlV (tlV (tlV (f2 x4.toNat))))))))))] 128,O.cells [V.sl n0 (elV [Ty.str,Ty.sl tp1,Ty.sl tp1,Ty.sl [Ty.sl tp1],Ty.int i64,Ty.int i64] f0),V.sl n2 (elV [Ty.str,Ty.int i64,Ty.int i64,Ty.int i64,Ty.int i64,Ty.int i64,Ty.int i64,Ty.int i64,Ty.int i64,Ty.int i64,Ty.int i64,Ty.int i64,Ty.int i64,Ty.int i64] f2)] 25],none)
def R0:oN->JJ
 | .L0 i_100=>(0,[])
def vw (n0:Nat) (f0:FnV) (n2:Nat) (f2:FnV) (x4:Int) (cx:List Cx):Lp JJ:=lpT (atT (aN JJ ju u0 Lm [V.agg [V.sl n0 (elV [Ty.str,Ty.sl tp1,Ty.sl tp1,Ty.sl [Ty.sl tp1],Ty.int i64,Ty.int i64] f0),V.sl n2 (elV [Ty.str,Ty.int i64,Ty.int i64,Ty.int i64,Ty.int i64,Ty.int i64,Ty.int i64,Ty.int i64,Ty.int i64,Ty.int i64,Ty.int i64,Ty.int i64,Ty.int i64,Ty.int i64] f2)],vi x4]) [false])
def Qm (n0:Nat) (f0:FnV) (n2:Nat) (f2:FnV) (x4:Int):JJ->Lp JJ
 | (0,cx)=>vw n0 f0 n2 f2 x4 cx
 | (_,cx)=>vw n0 f0 n2 f2 x4 cx
def Xc (n0:Nat) (f0:FnV) (n2:Nat) (f2:FnV) (x4:Int):LD JJ oN:=⟨R0,Qm n0 f0 n2 f2 x4,KV n0 f0 n2 f2 x4⟩
def pG (n0:Nat) (f0:FnV) (n2:Nat) (f2:FnV) (x4:Int):oN->RT oN
 | .L0 i_100=>.br (decide (i_100 < x4)) (.ob (decide (0<=i_100/\i_100 < (↑n2:Int))) (.br ((sv (hdV (f2 i_100.toNat))).toList == (sv (hdV (f2 x4.toNat))).toList) (.ret (vi 5)) (.next [some (some 0),some (some 1)] (oN.L0 (i64.wrap (i_100+1))) []))) (.asm (true=true->n0<=9223372036854775807) (.obc (.obt (.br (!yaa (jv1 (f2 x4.toNat)) 0 (i64.wrap ((↑n0:Int) - 1))) (.ret (vi 4)) (.obc (.obt (.br (!yaa (jv2 (f2 x4.toNat)) 1 3) (.ret (vi 2)) (.obc (.obt (.obi (.br (!!yaa (jv3 (f2 x4.toNat)) 1 1000000) (.ob (!!yaa (jv3 (f2 x4.toNat)) 1 1000000) (.obc (.obt (.obi (.obi (.br (!!yaa (jv4 (f2 x4.toNat)) 1 5000000) (.ob (!!yaa (jv4 (f2 x4.toNat)) 1 5000000) (.ob (!!yaa (jv4 (f2 x4.toNat)) 1 5000000) (.obc (.obt (.obi (.br (!!yaa (jv5 (f2 x4.toNat)) 0 (jv4 (f2 x4.toNat))) (.ob (!!yaa (jv5 (f2 x4.toNat)) 0 (jv4 (f2 x4.toNat))) (.obc (.obt (.br (!yaa (jv5 (tlV (f2 x4.toNat))) 0 1000) (.ret (vi 7)) (.obc (.obt (.obi (.br (!!c9 (jv5 (tlV (tlV (f2 x4.toNat)))) (jv5 (tlV (tlV (tlV (f2 x4.toNat))))) 0 1000) (.ob (!!c9 (jv5 (tlV (tlV (f2 x4.toNat)))) (jv5 (tlV (tlV (tlV (f2 x4.toNat))))) 0 1000) (.obc (.obt (.obi (.br (!!c9 (jv5 (tlV (tlV (tlV (tlV (f2 x4.toNat)))))) (jv5 (tlV (tlV (tlV (tlV (tlV (f2 x4.toNat))))))) 0 1000) (.ob (!!c9 (jv5 (tlV (tlV (tlV (tlV (f2 x4.toNat)))))) (jv5 (tlV (tlV (tlV (tlV (tlV (f2 x4.toNat))))))) 0 1000) (.obc (.obt (.obi (.br (!!yaa (jv5 (tlV (tlV (tlV (tlV (tlV (tlV (f2 x4.toNat)))))))) 1 200000) (.ob (!!yaa (jv5 (tlV (tlV (tlV (tlV (tlV (tlV (f2 x4.toNat)))))))) 1 200000) (.obc (.obt (.obi (.br (!!yaa (jv5 (tlV (tlV (tlV (tlV (tlV (tlV (tlV (f2 x4.toNat))))))))) 0 1000) (.ob (!!yaa (jv5 (tlV (tlV (tlV (tlV (tlV (tlV (tlV (f2 x4.toNat))))))))) 0 1000) (.obc (.obt (.br (!yaa (jv5 (tlV (tlV (tlV (tlV (tlV (tlV (tlV (tlV (f2 x4.toNat)))))))))) 0 3600) (.ret (vi 7)) (.obi (.obi (.obi (.br (bif jv2 (f2 x4.toNat) == 1 then jv5 (tlV (tlV (tlV (tlV (tlV (tlV (tlV (tlV (f2 x4.toNat))))))))) != 0 else false) (.ret (vi 2)) (.ret (vi 0)))))))))) (.ret (vi 7))))))) (.ret (vi 7))))))) (.ret (vi 7))))))) (.ret (vi 7)))))))))) (.ret (vi 7)))))))) (.ret (vi 7)))))))) (.ret (vi 7)))))))))))))
def yaA (n0:Nat) (f0:FnV) (n2:Nat) (f2:FnV) (x4:Int):RT oN:=.ob (decide (0<=x4/\x4 < (↑n2:Int))) (.obp ((sv (hdV (f2 x4.toNat))).size<=(9223372036854775807:Nat)) (.obt (.br (!gy (sv (hdV (f2 x4.toNat)))) (.ret (vi 6)) (.enter [some (some 1),some (some 0)] (oN.L0 (0)) []))))
theorem II (n0:Nat) (f0:FnV) (n2:Nat) (f2:FnV) (x4:Int):dw ju u0 (Xc n0 f0 n2 f2 x4) (aN JJ ju u0 Lm [V.agg [V.sl n0 (elV [Ty.str,Ty.sl tp1,Ty.sl tp1,Ty.sl [Ty.sl tp1],Ty.int i64,Ty.int i64] f0),V.sl n2 (elV [Ty.str,Ty.int i64,Ty.int i64,Ty.int i64,Ty.int i64,Ty.int i64,Ty.int i64,Ty.int i64,Ty.int i64,Ty.int i64,Ty.int i64,Ty.int i64,Ty.int i64,Ty.int i64] f2)],vi x4]) (yaA n0 f0 n2 f2 x4) (pG n0 f0 n2 f2 x4):=⟨⟨by kernel_rfl,by kernel_rfl⟩,fun s=>match s with | .L0 i_100=>⟨by kernel_rfl,by kernel_rfl⟩⟩
def Aa (x2 x13:Int):Bool:=bif x2 == 1 then x13 != 0 else false
def ue (f2:FnV) (a j:Nat):Bool:=(sv (hdV (f2 j))).toList == (sv (hdV (f2 a))).toList
def EB (n0:Nat) (f2:FnV) (a:Nat):Int:=AV (yaa (jv1 (f2 a)) 0 (i64.wrap ((n0:Int) - 1))) (yaa (jv2 (f2 a)) 1 3) (yaa (jv3 (f2 a)) 1 1000000 && (yaa (jv4 (f2 a)) 1 5000000 && (yaa (jv5 (f2 a)) 0 (jv4 (f2 a)) && (yaa (jv5 (tlV (f2 a))) 0 1000 && (c9 (jv5 (tlV (tlV (f2 a)))) (jv5 (tlV (tlV (tlV (f2 a))))) 0 1000 && (c9 (jv5 (tlV (tlV (tlV (tlV (f2 a)))))) (jv5 (tlV (tlV (tlV (tlV (tlV (f2 a))))))) 0 1000 && (yaa (jv5 (tlV (tlV (tlV (tlV (tlV (tlV (f2 a)))))))) 1 200000 && (yaa (jv5 (tlV (tlV (tlV (tlV (tlV (tlV (tlV (f2 a))))))))) 0 1000 && (yaa (jv5 (tlV (tlV (tlV (tlV (tlV (tlV (tlV (tlV (f2 a)))))))))) 0 3600))))))))) (Aa (jv2 (f2 a)) (jv5 (tlV (tlV (tlV (tlV (tlV (tlV (tlV (tlV (f2 a)))))))))))
def gV (n0:Nat) (f2:FnV) (a:Nat):Int:=bif !gy (sv (hdV (f2 a))) then 6 else bif exB a (ue f2 a) then 5 else EB n0 f2 a
section
variable {S:Type} {Nx:S->V->Prop} {r:V} {X Y:RT S} {c:Bool}
theorem nn1 (h:(!!c)=true):c=true:=by cases c; cases h; rfl
theorem nn0 (h:(!!c)=false):c=false:=by cases c; rfl; cases h
theorem sh (h2:(!!c)=true->evR Nx X r) (h1:(!!c)=false->evR Nx Y r):evR Nx (.br (!!c) (.ob (!!c) X) Y) r:=aw (fun h=>aH h (h2 h)) h1
theorem Vi (h2:(!!c)=true->evR Nx X r) (h1:(!!c)=false->evR Nx Y r):evR Nx (.br (!!c) (.ob (!!c) (.ob (!!c) X)) Y) r:=aw (fun h=>aH h (aH h (h2 h))) h1
end
theorem Hh (n0:Nat) (f0:FnV) (n2:Nat) (f2:FnV) (a:Nat) (ha:a < n2) (hn:n2<=9223372036854775807):Ev (pG n0 f0 n2 f2 (a:Int)) (.L0 0) (.int .i64 (bif exB a (ue f2 a) then 5 else EB n0 f2 a)):=by
 refine fL (n:=a) (by omega) (ue f2 a) (P:=fun x=>Ev (pG n0 f0 n2 f2 (a:Int)) (.L0 x) _) (fun j hlt hj next=>Ev.of rfl (bK hlt (yac (by omega) (aw (fun hb=>ah ?_) (fun hb=>aR (next hb)))))) (fun hj=>Ev.of rfl (bu ?_))
 ·rw [bC j hlt hb]; rfl
 rw [bm hj,cond_false]
 unfold EB
 refine aE fun _=>ao (ac (aw (fun h=>ah (by rw [show yaa (jv1 (f2 a)) 0 (i64.wrap ((n0:Int) - 1))=false from tnF h]; rfl)) (fun h=>?_)))
 rw [show yaa (jv1 (f2 a)) 0 (i64.wrap ((n0:Int) - 1))=true from tnT h]
 refine ao (ac (aw (fun h=>ah (by rw [show yaa (jv2 (f2 a)) 1 3=false from tnF h]; rfl)) (fun h=>?_)))
 rw [show yaa (jv2 (f2 a)) 1 3=true from tnT h]
 refine ao (ac ?_)
 repeat refine ak ?_
 refine sh (fun h=>?_) (fun h=>ah (by rw [show yaa (jv3 (f2 a)) 1 1000000=false from nn0 h]; rfl))
 rw [show yaa (jv3 (f2 a)) 1 1000000=true from nn1 h]
 refine ao (ac ?_)
 repeat refine ak ?_
 refine Vi (fun h=>?_) (fun h=>ah (by rw [show yaa (jv4 (f2 a)) 1 5000000=false from nn0 h]; rfl))
 rw [show yaa (jv4 (f2 a)) 1 5000000=true from nn1 h]
 refine ao (ac ?_)
 repeat refine ak ?_
 refine sh (fun h=>?_) (fun h=>ah (by rw [show yaa (jv5 (f2 a)) 0 (jv4 (f2 a))=false from nn0 h]; rfl))
 rw [show yaa (jv5 (f2 a)) 0 (jv4 (f2 a))=true from nn1 h]
 refine ao (ac ?_)
 refine aw (fun h=>ah (by rw [show yaa (jv5 (tlV (f2 a))) 0 1000=false from tnF h]; rfl)) (fun h=>?_)
 rw [show yaa (jv5 (tlV (f2 a))) 0 1000=true from tnT h]
 refine ao (ac ?_)
 repeat refine ak ?_
 refine sh (fun h=>?_) (fun h=>ah (by rw [show c9 (jv5 (tlV (tlV (f2 a)))) (jv5 (tlV (tlV (tlV (f2 a))))) 0 1000=false from nn0 h]; rfl))
 rw [show c9 (jv5 (tlV (tlV (f2 a)))) (jv5 (tlV (tlV (tlV (f2 a))))) 0 1000=true from nn1 h]
 refine ao (ac ?_)
 repeat refine ak ?_
 refine sh (fun h=>?_) (fun h=>ah (by rw [show c9 (jv5 (tlV (tlV (tlV (tlV (f2 a)))))) (jv5 (tlV (tlV (tlV (tlV (tlV (f2 a))))))) 0 1000=false from nn0 h]; rfl))
 rw [show c9 (jv5 (tlV (tlV (tlV (tlV (f2 a)))))) (jv5 (tlV (tlV (tlV (tlV (tlV (f2 a))))))) 0 1000=true from nn1 h]
 refine ao (ac ?_)
 repeat refine ak ?_
 refine sh (fun h=>?_) (fun h=>ah (by rw [show yaa (jv5 (tlV (tlV (tlV (tlV (tlV (tlV (f2 a)))))))) 1 200000=false from nn0 h]; rfl))
 rw [show yaa (jv5 (tlV (tlV (tlV (tlV (tlV (tlV (f2 a)))))))) 1 200000=true from nn1 h]
 refine ao (ac ?_)
 repeat refine ak ?_
 refine sh (fun h=>?_) (fun h=>ah (by rw [show yaa (jv5 (tlV (tlV (tlV (tlV (tlV (tlV (tlV (f2 a))))))))) 0 1000=false from nn0 h]; rfl))
 rw [show yaa (jv5 (tlV (tlV (tlV (tlV (tlV (tlV (tlV (f2 a))))))))) 0 1000=true from nn1 h]
 refine ao (ac ?_)
 refine aw (fun h=>ah (by rw [show yaa (jv5 (tlV (tlV (tlV (tlV (tlV (tlV (tlV (tlV (f2 a)))))))))) 0 3600=false from tnF h]; rfl)) (fun h=>?_)
 rw [show yaa (jv5 (tlV (tlV (tlV (tlV (tlV (tlV (tlV (tlV (f2 a)))))))))) 0 3600=true from tnT h]
 repeat refine ak ?_
 exact aw (fun h=>ah (by rw [show Aa (jv2 (f2 a)) (jv5 (tlV (tlV (tlV (tlV (tlV (tlV (tlV (tlV (f2 a))))))))))=true from h]; rfl)) (fun h=>ah (by rw [show Aa (jv2 (f2 a)) (jv5 (tlV (tlV (tlV (tlV (tlV (tlV (tlV (tlV (f2 a))))))))))=false from h]; rfl))
theorem C5 (n0:Nat) (f0:FnV) (n2:Nat) (f2:FnV) (x4:Int) (hp:0<=x4/\x4 < n2/\n2<=9223372036854775807/\aI n2 f2):evR (Ev (pG n0 f0 n2 f2 x4)) (yaA n0 f0 n2 f2 x4) (.int .i64 (gV n0 f2 x4.toNat)):=by
 obtain ⟨h0,h1,h2,h3⟩:=hp
 obtain ⟨a,rfl⟩:∃ a:Nat,x4=(a:Int):=⟨x4.toNat,by omega⟩
 have ha:a < n2:=by omega
 unfold gV
 simp only [Int.toNat_natCast]
 refine yac ha (aO (h3 a ha) (ac (aw (fun h=>ah (by rw [show (!gy (sv (hdV (f2 a))))=true from h]; rfl)) (fun h=>aD ?_))))
 rw [show (!gy (sv (hdV (f2 a))))=false from h]
 exact Hh n0 f0 n2 f2 a ha h2
theorem yaX (n0:Nat) (f0:FnV) (n2:Nat) (f2:FnV) (x4:Int) (hp:0<=x4/\x4 < n2/\n2<=9223372036854775807/\aI n2 (elV [.str,.int .i64,.int .i64,.int .i64,.int .i64,.int .i64,.int .i64,.int .i64,.int .i64,.int .i64,.int .i64,.int .i64,.int .i64,.int .i64] f2)):evR (Ev (pG n0 f0 n2 f2 x4)) (yaA n0 f0 n2 f2 x4) (.int .i64 (gV n0 (elV [.str,.int .i64,.int .i64,.int .i64,.int .i64,.int .i64,.int .i64,.int .i64,.int .i64,.int .i64,.int .i64,.int .i64,.int .i64,.int .i64] f2) x4.toNat)):=C5 n0 f0 n2 f2 x4 hp
def MW:ap:=mkC [.agg [.sl [.str,.sl tp1,.sl tp1,.sl [.sl tp1],.int .i64,.int .i64],.sl [.str,.int .i64,.int .i64,.int .i64,.int .i64,.int .i64,.int .i64,.int .i64,.int .i64,.int .i64,.int .i64,.int .i64,.int .i64,.int .i64]],.int .i64] (fun
 | [.agg [.sl n0 f0,.sl n2 f2],.int _ x4]=>0<=x4/\x4 < n2/\n2<=9223372036854775807/\aI n2 f2
 | _=>False) fun
 | [.agg [.sl n0 f0,.sl n2 f2],.int _ x4]=>.int .i64 (gV n0 f2 x4.toNat)
 | _=>.any
theorem RZ:(vP MW).Ok Tryz.prog 145:=mkE sP Tryz.func145 (by kernel_rfl) fun ds hp=>rfs (II ..) (yaX _ _ _ _ _ hp)
end
noncomputable section
def rI:aY:=(59,.con MB)::(144,.con Oc)::(145,.con MW)::ju
theorem Ft:aQ Tryz.prog eqs its rI:=.con F5 (.con PO (.con RZ (sP)))
inductive lq where
 | L0 (i_100:Int)
 | L1 (i_200 i_201:Int)
def pc (n0:Nat) (f0:FnV) (n2:Nat) (f2:FnV):lq->Env × List O × Option Ex
 | .L0 i_100=>([(5,vi i_100),(1,V.pl 0 0)],[O.cells [V.sl n0 (elV [Ty.str,Ty.sl tp1,Ty.sl tp1,Ty.sl [Ty.sl tp1],Ty.int i64,Ty.int i64] f0),V.sl n2 (elV [Ty.str,Ty.int i64,Ty.int i64,Ty.int i64,Ty.int i64,Ty.int i64,Ty.int i64,Ty.int i64,Ty.int i64,Ty.int i64,Ty.int i64,Ty.int i64,Ty.int i64,Ty.int i64] f2)] 25],none)
 | .L1 i_200 i_201=>([(7,vi i_200),(5,vi i_201),(1,V.pl 0 0)],[O.cells [V.sl n0 (elV [Ty.str,Ty.sl tp1,Ty.sl tp1,Ty.sl [Ty.sl tp1],Ty.int i64,Ty.int i64] f0),V.sl n2 (elV [Ty.str,Ty.int i64,Ty.int i64,Ty.int i64,Ty.int i64,Ty.int i64,Ty.int i64,Ty.int i64,Ty.int i64,Ty.int i64,Ty.int i64,Ty.int i64,Ty.int i64,Ty.int i64] f2)] 25],none)
def PL:lq->JJ
 | .L0 i_100=>(0,[])
 | .L1 i_200 i_201=>(1,[])
def ql (n0:Nat) (f0:FnV) (n2:Nat) (f2:FnV) (cx:List Cx):Lp JJ:=lpT (atT (aN JJ rI u0 M7 [V.agg [V.sl n0 (elV [Ty.str,Ty.sl tp1,Ty.sl tp1,Ty.sl [Ty.sl tp1],Ty.int i64,Ty.int i64] f0),V.sl n2 (elV [Ty.str,Ty.int i64,Ty.int i64,Ty.int i64,Ty.int i64,Ty.int i64,Ty.int i64,Ty.int i64,Ty.int i64,Ty.int i64,Ty.int i64,Ty.int i64,Ty.int i64,Ty.int i64] f2)]]) [false])
def Gl (n0:Nat) (f0:FnV) (n2:Nat) (f2:FnV) (cx:List Cx):Lp JJ:=lpT (atT (rdT rI u0 (0,[]) (ql n0 f0 n2 f2 []) (pc n0 f0 n2 f2 (.L0 (0:Int))).1 (pc n0 f0 n2 f2 (.L0 (0:Int))).2.1 (pc n0 f0 n2 f2 (.L0 (0:Int))).2.2) [false])
def OX (n0:Nat) (f0:FnV) (n2:Nat) (f2:FnV):JJ->Lp JJ
 | (0,cx)=>ql n0 f0 n2 f2 cx
 | (1,cx)=>Gl n0 f0 n2 f2 cx
 | (_,cx)=>ql n0 f0 n2 f2 cx
def WT (n0:Nat) (f0:FnV) (n2:Nat) (f2:FnV):LD JJ lq:=⟨PL,OX n0 f0 n2 f2,pc n0 f0 n2 f2⟩
def lI (n0:Nat) (f0:FnV) (n2:Nat) (f2:FnV):lq->RT lq
 | .L0 i_100=>.asm (true=true->n0<=9223372036854775807) (.br (decide (i_100 < (↑n0:Int))) (.obp ((0:Int)<=i_100/\i_100 < (↑n0:Int)/\n0<=(9223372036854775807:Nat)/\∀ (i:Nat),i < n0->(sv (hdV (f0 i))).size<=(9223372036854775807:Nat)) (.obt (.br (gx (elV [Ty.str,Ty.sl tp1,Ty.sl tp1,Ty.sl [Ty.sl tp1],Ty.int i64,Ty.int i64] f0) i_100.toNat != 0) (.ret (V.tup [vi 1,vi i_100,vi (gx (elV [Ty.str,Ty.sl tp1,Ty.sl tp1,Ty.sl [Ty.sl tp1],Ty.int i64,Ty.int i64] f0) i_100.toNat)])) (.next [some (some 0)] (lq.L0 (i64.wrap (i_100+1))) [])))) (.enter [some (some 0)] (lq.L1 (0) (i_100)) []))
 | .L1 i_200 i_201=>.asm (true=true->n2<=9223372036854775807) (.br (decide (i_200 < (↑n2:Int))) (.obp ((0:Int)<=i_200/\i_200 < (↑n2:Int)/\n2<=(9223372036854775807:Nat)/\∀ (i:Nat),i < n2->(sv (hdV (f2 i))).size<=(9223372036854775807:Nat)) (.obt (.br (gV n0 (elV [Ty.str,Ty.int i64,Ty.int i64,Ty.int i64,Ty.int i64,Ty.int i64,Ty.int i64,Ty.int i64,Ty.int i64,Ty.int i64,Ty.int i64,Ty.int i64,Ty.int i64,Ty.int i64] f2) i_200.toNat != 0) (.ret (V.tup [vi 2,vi i_200,vi (gV n0 (elV [Ty.str,Ty.int i64,Ty.int i64,Ty.int i64,Ty.int i64,Ty.int i64,Ty.int i64,Ty.int i64,Ty.int i64,Ty.int i64,Ty.int i64,Ty.int i64,Ty.int i64,Ty.int i64] f2) i_200.toNat)])) (.next [some (some 0)] (lq.L1 (i64.wrap (i_200+1)) (i_201)) [])))) (.ret (V.tup [vi 0,vi 0,vi 0])))
def Ch (n0:Nat) (f0:FnV) (n2:Nat) (f2:FnV):RT lq:=.asm (true=true->n0<=9223372036854775807) (.obi (.obi (.asm ((!decide (10 < (↑n0:Int)))=true->n2<=9223372036854775807) (.obi (.obi (.br (bif decide (10 < (↑n0:Int)) then true else decide (20 < (↑n2:Int))) (.ret (V.tup [vi 0,vi 0,vi 3])) (.enter [some (some 0)] (lq.L0 (0)) [])))))))
theorem J1 (n0:Nat) (f0:FnV) (n2:Nat) (f2:FnV):dw rI u0 (WT n0 f0 n2 f2) (aN JJ rI u0 M7 [V.agg [V.sl n0 (elV [Ty.str,Ty.sl tp1,Ty.sl tp1,Ty.sl [Ty.sl tp1],Ty.int i64,Ty.int i64] f0),V.sl n2 (elV [Ty.str,Ty.int i64,Ty.int i64,Ty.int i64,Ty.int i64,Ty.int i64,Ty.int i64,Ty.int i64,Ty.int i64,Ty.int i64,Ty.int i64,Ty.int i64,Ty.int i64,Ty.int i64] f2)]]) (Ch n0 f0 n2 f2) (lI n0 f0 n2 f2):=⟨⟨by kernel_rfl,by kernel_rfl⟩,fun s=>match s with | .L0 i_100=>⟨by kernel_rfl,by kernel_rfl⟩ | .L1 i_200 i_201=>⟨by kernel_rfl,by kernel_rfl⟩⟩
def zL (n0 n2:Nat) (f2:FnV):Int × Int × Int:=r24 n2 (gV n0 (elV [Ty.str,Ty.int i64,Ty.int i64,Ty.int i64,Ty.int i64,Ty.int i64,Ty.int i64,Ty.int i64,Ty.int i64,Ty.int i64,Ty.int i64,Ty.int i64,Ty.int i64,Ty.int i64] f2)) 2 (0,0,0)
def qV (n0:Nat) (f0:FnV) (n2:Nat) (f2:FnV):Int × Int × Int:=bif (bif decide (10 < (n0:Int)) then true else decide (20 < (n2:Int))) then (0,0,3) else r24 n0 (gx (elV [Ty.str,Ty.sl tp1,Ty.sl tp1,Ty.sl [Ty.sl tp1],Ty.int i64,Ty.int i64] f0)) 1 (zL n0 n2 f2)
theorem KO (n0:Nat) (f0:FnV) (n2:Nat) (f2:FnV) (hs:aI n2 f2) (t:Int):Ev (lI n0 f0 n2 f2) (.L1 0 t) (tri (zL n0 n2 f2)):=by
 by_cases hn:n2<=9223372036854775807
 ·refine fL (n:=n2) hn (fun i=>gV n0 (elV [Ty.str,Ty.int i64,Ty.int i64,Ty.int i64,Ty.int i64,Ty.int i64,Ty.int i64,Ty.int i64,Ty.int i64,Ty.int i64,Ty.int i64,Ty.int i64,Ty.int i64,Ty.int i64] f2) i != 0) (P:=fun i=>Ev (lI n0 f0 n2 f2) (.L1 i t) _) (fun i hlt hj next=>Ev.of rfl (aE fun _=>bK hlt (aO ⟨by omega,by omega,hn,hs⟩ (ac (aw (fun hb=>ah ?_) (fun hb=>aR (next hb))))))) (fun hj=>Ev.of rfl (aE fun _=>bu (ah ?_)))
  ·unfold zL; rw [yag 2 _ hlt hb hj]; rfl
  ·unfold zL; rw [gY 2 _ hj]; rfl
 ·exact Ev.of rfl (aE fun h=>absurd (h rfl) hn)
theorem IY (n0:Nat) (f0:FnV) (n2:Nat) (f2:FnV) (h0:aI n0 f0) (hs:aI n2 f2):Ev (lI n0 f0 n2 f2) (.L0 0) (tri (r24 n0 (gx (elV [Ty.str,Ty.sl tp1,Ty.sl tp1,Ty.sl [Ty.sl tp1],Ty.int i64,Ty.int i64] f0)) 1 (zL n0 n2 f2))):=by
 by_cases hn:n0<=9223372036854775807
 ·refine fL (n:=n0) hn (fun i=>gx (elV [Ty.str,Ty.sl tp1,Ty.sl tp1,Ty.sl [Ty.sl tp1],Ty.int i64,Ty.int i64] f0) i != 0) (P:=fun i=>Ev (lI n0 f0 n2 f2) (.L0 i) _) (fun i hlt hj next=>Ev.of rfl (aE fun _=>bK hlt (aO ⟨by omega,by omega,hn,h0⟩ (ac (aw (fun hb=>ah ?_) (fun hb=>aR (next hb))))))) (fun hj=>Ev.of rfl (aE fun _=>bu (aD ?_)))
  ·rw [yag 1 _ hlt hb hj]; rfl
  ·rw [gY 1 _ hj]; exact KO n0 f0 n2 f2 hs _
 ·exact Ev.of rfl (aE fun h=>absurd (h rfl) hn)
def o6 (n0:Nat) (f0:FnV) (n2:Nat) (f2:FnV):Int:=(qV n0 f0 n2 f2).1
def o7 (n0:Nat) (f0:FnV) (n2:Nat) (f2:FnV):Int:=(qV n0 f0 n2 f2).2.1
def yae (n0:Nat) (f0:FnV) (n2:Nat) (f2:FnV):Int:=(qV n0 f0 n2 f2).2.2
theorem Dd (n0:Nat) (f0:FnV) (n2:Nat) (f2:FnV) (hp:aI n0 f0/\aI n2 f2):evR (Ev (lI n0 f0 n2 f2)) (Ch n0 f0 n2 f2) (.tup [.int .i64 (o6 n0 f0 n2 f2),.int .i64 (o7 n0 f0 n2 f2),.int .i64 (yae n0 f0 n2 f2)]):=by
 unfold o6 o7 yae qV
 refine aE fun _=>ak (ak (aE fun _=>ak (ak (aw (fun h=>ah (by rw [h]; rfl)) (fun h=>aD ?_)))))
 rw [h]
 exact IY n0 f0 n2 f2 hp.1 hp.2
theorem O0 (n0:Nat) (f0:FnV) (n2:Nat) (f2:FnV) (hp:aI n0 (elV [.str,.sl tp1,.sl tp1,.sl [.sl tp1],.int .i64,.int .i64] f0)/\aI n2 (elV [.str,.int .i64,.int .i64,.int .i64,.int .i64,.int .i64,.int .i64,.int .i64,.int .i64,.int .i64,.int .i64,.int .i64,.int .i64,.int .i64] f2)):evR (Ev (lI n0 f0 n2 f2)) (Ch n0 f0 n2 f2) (.tup [.int .i64 (o6 n0 (elV [.str,.sl tp1,.sl tp1,.sl [.sl tp1],.int .i64,.int .i64] f0) n2 (elV [.str,.int .i64,.int .i64,.int .i64,.int .i64,.int .i64,.int .i64,.int .i64,.int .i64,.int .i64,.int .i64,.int .i64,.int .i64,.int .i64] f2)),.int .i64 (o7 n0 (elV [.str,.sl tp1,.sl tp1,.sl [.sl tp1],.int .i64,.int .i64] f0) n2 (elV [.str,.int .i64,.int .i64,.int .i64,.int .i64,.int .i64,.int .i64,.int .i64,.int .i64,.int .i64,.int .i64,.int .i64,.int .i64,.int .i64] f2)),.int .i64 (yae n0 (elV [.str,.sl tp1,.sl tp1,.sl [.sl tp1],.int .i64,.int .i64] f0) n2 (elV [.str,.int .i64,.int .i64,.int .i64,.int .i64,.int .i64,.int .i64,.int .i64,.int .i64,.int .i64,.int .i64,.int .i64,.int .i64,.int .i64] f2))]):=Dd n0 f0 n2 f2 hp
def NX:ap:=mkC [.agg [.sl [.str,.sl tp1,.sl tp1,.sl [.sl tp1],.int .i64,.int .i64],.sl [.str,.int .i64,.int .i64,.int .i64,.int .i64,.int .i64,.int .i64,.int .i64,.int .i64,.int .i64,.int .i64,.int .i64,.int .i64,.int .i64]]] (fun
 | [.agg [.sl n0 f0,.sl n2 f2]]=>aI n0 f0/\aI n2 f2
 | _=>False) fun
 | [.agg [.sl n0 f0,.sl n2 f2]]=>.tup [.int .i64 (o6 n0 f0 n2 f2),.int .i64 (o7 n0 f0 n2 f2),.int .i64 (yae n0 f0 n2 f2)]
 | _=>.any
theorem OM:(vP NX).Ok Tryz.prog 63:=mkE Ft Tryz.func63 (by kernel_rfl) fun ds hp=>rfs (J1 ..) (O0 _ _ _ _ hp)
end
theorem qx {n:Nat} {p q:Nat->Bool} (h:∀ i,i < n->p i=q i):bL n p=bL n q:=by
 cases hq:bL n q with
 | true=>exact dk fun i hi=>by rw [h i hi]; exact db hq i hi
 | false =>
   cases hp:bL n p with
   | false=>rfl
   | true=>rw [dk fun i hi=>by rw [← h i hi]; exact db hp i hi] at hq; cases hq
theorem nC (n:Nat) (f:Nat->List V) (lo hi:Int):cN n f lo hi=bL n fun i=>yaa (jv0 (f i)) lo hi:=by
 show (!(decide (0<=idx n fun ii=>mo (jv0 (f ii)) lo hi)))=_
 rw [jd]
 unfold exB
 rw [Bool.not_not]
 exact qx fun i _=>by
  show (!(!au (jv0 (f i)) lo hi))=au (jv0 (f i)) lo hi
  rw [Bool.not_not]
theorem wU (a b:Bool):or2 a b=!(a && b):=by cases a <;> cases b <;> rfl
theorem ot (s:ByteArray) (i:Nat):i5 s i=true ↔ ¬ (97<=(s.data.toList.getD i 0).toNat/\(s.data.toList.getD i 0).toNat<=122)/\¬ (48<=(s.data.toList.getD i 0).toNat/\(s.data.toList.getD i 0).toNat<=57)/\(s.data.toList.getD i 0).toNat ≠ 45:=by
 have key:∀ (p1 p2 p4 p5 p6:Bool),(!bif bif bif p1 then p2 else false then true else bif p4 then p5 else false then true else p6)=true ↔ ¬ (p1=true/\p2=true)/\¬ (p4=true/\p5=true)/\¬ (p6=true):=by decide
 unfold i5
 rw [key]
 simp only [decide_eq_true_eq,beq_iff_eq]
 omega
theorem rn (s:ByteArray):rD s=false ↔ (1<=s.size/\s.size<=24)/\97<=(s.data.toList.getD 0 0).toNat/\(s.data.toList.getD 0 0).toNat<=122:=by
 have key:∀ (p1 p2 p4 p5:Bool),(bif bif bif p1 then true else p2 then true else p4 then true else p5)=false ↔ ¬ (p1=true)/\¬ (p2=true)/\¬ (p4=true)/\¬ (p5=true):=by decide
 unfold rD
 rw [key]
 simp only [decide_eq_true_eq]
 omega
theorem Ah (s:ByteArray):gy s=fS s:=by
 rw [Bool.eq_iff_iff]
 unfold gy fS
 simp only [Bool.and_eq_true,decide_eq_true_eq,nt,Bool.not_eq_true']
 constructor
 ·intro h
  cases hc:rD s with
  | true=>rw [hc] at h; cases h
  | false =>
    rw [hc,cond_false] at h
    have h1:=(rn s).1 hc
    refine ⟨fun i hi=>?_,by omega,by omega⟩
    have h2:=db h i hi
    cases hb:sG ((s.data.toList.getD i 0).toNat:Int) (i:Int) with
    | false=>rfl
    | true =>
      obtain ⟨g1,g2⟩:=(kf _ i).1 hb
      rcases g2 with e | ⟨g3,g4⟩
      ·subst e; exact (g1 h1.2).elim
      ·rw [(ot s i).2 ⟨g1,g3,g4⟩] at h2; cases h2
 ·rintro ⟨h1,h2,h3⟩
  have h0:=h1 0 h2
  have hl:97<=(s.data.toList.getD 0 0).toNat/\(s.data.toList.getD 0 0).toNat<=122:=by
   apply Classical.byContradiction
   intro hn
   rw [(kf _ 0).2 ⟨hn,.inl rfl⟩] at h0; cases h0
  rw [(rn s).2 ⟨⟨by omega,h3⟩,hl⟩,cond_false]
  refine dk fun i hi=>?_
  cases hb:i5 s i with
  | false=>rfl
  | true =>
    obtain ⟨g1,g2,g3⟩:=(ot s i).1 hb
    have:=h1 i hi
    rw [(kf _ i).2 ⟨g1,.inr ⟨g2,g3⟩⟩] at this; cases this
theorem Bq (n1:Nat) (f1:FnV) (n3:Nat) (f3:FnV) (n5:Nat) (f5:FnV) (x7 x8:Int):jF n1 f1 n3 f3 n5 f5 x7 x8=AD n1 f1 n3 f3 n5 f5 x7 x8:=by
 have e1:∀ n f,cN n f (-5000) 5000=ia n f:=fun n f=>nC n f _ _
 unfold jF AD
 rw [wU,wU,wU,e1,e1]
 have e2:(exB n5 (sho n3 f5))=exB n5 (mL n3 f5):=rfl
 rw [e2]
 cases he:exB n5 (mL n3 f5) with
 | true=>rfl
 | false =>
   have hrow:∀ i,i < n5->am (hdV (f5 i))=n3:=fun i hi=>by
    cases hb:mL n3 f5 i with
    | true=>rw [bC i hi hb] at he; cases he
    | false=>unfold mL at hb; simp at hb; omega
   have e3:exB n5 (wil f5)=!bL n5 (eP n3 f5):=by
    unfold exB
    rw [qx (q:=eP n3 f5) fun i hi=>by
     show (!(!cN (am (hdV (f5 i))) (elV tp1 fun j=>ae tp1 (atV (hdV (f5 i)) j)) 0 10000000))=_
     rw [Bool.not_not,nC,hrow i hi]; rfl]
   have e4:Jg x7 x8=!iu x7 x8:=by
    show (!cN 2 _ 0 10000000)=_
    rw [nC]
    show (!((true && yaa x7 0 10000000) && yaa x8 0 10000000))=_
    unfold iu
    cases yaa x7 0 10000000 <;> cases yaa x8 0 10000000 <;> rfl
   unfold mj
   rw [e3,e4]
   show (bif _ then _ else bif _ then _ else bif _ then _ else bif _ then _ else _)=(bif _ then _ else bif _ then _ else bif _ then _ else bif _ then _ else _)
   cases iu x7 x8 <;> cases bL n5 (eP n3 f5) <;> rfl
theorem Rl (f:Nat->List V) (a:Nat):fX f a=gx f a:=by
 unfold fX gx
 rw [Ah,show tC f a=vn f a from funext fun j=>by unfold tC vn; rw [Nat.zero_add]]
 unfold tI
 rw [Bq]
 rfl
theorem rA (x7 x8:Int):dI x7 x8 0 1000=c9 x7 x8 0 1000:=by
 unfold dI c9 yaa
 by_cases h1:(0:Int)<=x7 <;> by_cases h2:x7<=x8 <;> by_cases h3:x8<=1000 <;> by_cases h4:x7<=1000 <;> by_cases h5:(0:Int)<=x8 <;> simp only [h1,h2,h3,h4,h5,decide_true,decide_false,cond_true,cond_false] <;> omega
theorem QD {a k num q q':Bool} (h:num=true->q=q'):AV a k num q=AV a k num q':=by
 cases num with
 | false=>rfl
 | true=>rw [h rfl]
theorem yaY (f:Nat->List V) (n a:Nat):fV f n a=gV n f a:=by
 unfold fV gV
 rw [Ah,show s4 f a=ue f a from funext fun j=>by unfold s4 ue; rw [Nat.zero_add]]
 unfold tv kP EB
 rw [rA,rA]
 congr 2
 refine QD fun h=>?_
 simp only [Bool.and_eq_true] at h
 have h13:=h.2.2.2.2.2.2.2.2
 unfold GK Aa
 unfold au at h13
 generalize jv5 (tlV (tlV (tlV (tlV (tlV (tlV (tlV (tlV (f a)))))))))=x at h13 ⊢
 have hx:0<=x:=by
  by_cases h0:(0:Int)<=x
  ·exact h0
  ·rw [dqf h0] at h13; cases h13
 congr 1
 by_cases e:x=0
 ·subst e; rfl
 ·rw [dqt (by omega)]; simp [e]
theorem rR (n0:Nat) (f0:FnV) (n2:Nat) (f2:FnV):(jc n0 f0 n2 f2,iY n0 f0 n2 f2,e7 n0 f0 n2 f2)=qV n0 f0 n2 f2:=by
 have e1:∀ f,fX f=gx f:=fun f=>funext fun a=>Rl f a
 have e2:∀ f n,fV f n=gV n f:=fun f n=>funext fun a=>yaY f n a
 unfold jc iY e7 qV zL r24 dJ cK dH cI
 rw [e1,e2]
 cases (bif decide (10 < (n0:Int)) then true else decide (20 < (n2:Int))) with
 | true=>rfl
 | false =>
   simp only [cond_false]
   generalize cj n0 _=x
   generalize dM n0 _=y
   generalize cj n2 _=z
   generalize dM n2 _=u
   cases x != 0 <;> cases z != 0 <;> rfl
end Go.Dx
