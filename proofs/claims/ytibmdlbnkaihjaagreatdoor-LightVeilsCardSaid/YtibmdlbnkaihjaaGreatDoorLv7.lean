/- Part 7 of a proof. No conditions. -/
import Derived.Test.YtibmdlbnkaihjaaGreatDoorLv6
set_option maxRecDepth 100000
set_option linter.unusedVariables false
set_option linter.unusedSimpArgs false
namespace Go.Dx
open Go.IntKind (i64 u64 u8)
open Go.Sx Go.Proofs
noncomputable section
def EO:bd:=(175,.con Xi)::Lz
theorem CM:aR Tryz.prog eqs its EO:=.con adq (JF)
section
variable (n0:Nat) (f0:ah) (n2:Nat)
include n0 f0 n2
def Iu (f2:ah) (x4:Int) (n5:Nat) (f5:ah) (n7:Nat) (f7:ah) (n9:Nat) (f9:ah) (n11:Nat) (f11:ah) (n13:Nat) (f13:ah) (n15:Nat) (f15:ah) (x17:Int) (s18:ByteArray) (x19 x20 x21 x22 x23 x24 x25 x26 x27 x28:Int):RT Empty:=.ob (decide (0<=x17/\x17 < (↑n13:Int))) (.ob (decide (0<=x17/\x17 < (↑n15:Int))) (.obp ((((-1000:Int)<=x22/\x22<=(1000:Int))/\((-1000:Int)<=x23/\x23<=(1000:Int))/\(x22 ≠ (0:Int) ∨ x23 ≠ (0:Int)))/\((-400000000:Int)<=x19/\x19<=(400000000:Int))/\((-400000000:Int)<=x20/\x20<=(400000000:Int))/\((-400000000:Int)<=x24/\x24<=(400000000:Int))/\((-400000000:Int)<=x25/\x25<=(400000000:Int))/\((-400000000:Int)<=x26/\x26<=(400000000:Int))/\(-400000000:Int)<=x27/\x27<=(400000000:Int)) (.obt (.obp ((∀ (i:Nat),i < n0->(sv (hdV (f0 i))).size<=(9223372036854775807:Nat))/\∀ (i:Nat),i < n2->(sv (hdV (f2 i))).size<=(9223372036854775807:Nat)) (.obt (.ret (V.agg [vi (eO n0 (aa al f0) n2 (aa am f2) (ay (f13 x17.toNat)) (ay (f15 x17.toNat)) (ba (f15 x17.toNat)) (cQ (f15 x17.toNat)) (fX x19 x20 x22 x23 x24 x25 x26 x27) (gg x19 x20 x22 x23 x24 x25 x26 x27) (gj x19 x20 x22 x23 x24 x25 x26 x27) (gm x19 x20 x22 x23 x24 x25 x26 x27) x28),vi (eM n0 (aa al f0) n2 (aa am f2) (ay (f13 x17.toNat)) (ay (f15 x17.toNat)) (ba (f15 x17.toNat)) (cQ (f15 x17.toNat)) (fX x19 x20 x22 x23 x24 x25 x26 x27) (gg x19 x20 x22 x23 x24 x25 x26 x27) (gj x19 x20 x22 x23 x24 x25 x26 x27) (gm x19 x20 x22 x23 x24 x25 x26 x27) x28)])))))))
theorem Ti (f2:ah) (x4:Int) (n5:Nat) (f5:ah) (n7:Nat) (f7:ah) (n9:Nat) (f9:ah) (n11:Nat) (f11:ah) (n13:Nat) (f13:ah) (n15:Nat) (f15:ah) (x17:Int) (s18:ByteArray) (x19 x20 x21 x22 x23 x24 x25 x26 x27 x28:Int):dh dm (aS JJ EO u0 Ey [V.agg [V.sl n0 (aa al f0),V.sl n2 (aa am f2),vi x4,V.sl n5 (aa bF f5),V.sl n7 (aa ce f7),V.sl n9 (aa ci f9),V.sl n11 (aa aT f11),V.sl n13 (aa ae f13),V.sl n15 (aa bG f15),vi x17,V.str s18,vi x19,vi x20,vi x21,vi x22,vi x23],V.agg [vi x24,vi x25,vi x26,vi x27],vi x28]) (Iu n0 f0 n2 f2 x4 n5 f5 n7 f7 n9 f9 n11 f11 n13 f13 n15 f15 x17 s18 x19 x20 x21 x22 x23 x24 x25 x26 x27 x28):=⟨by kernel_rfl,by kernel_rfl⟩
def qb (f2 f13 f15:Nat->List V) (i cx cy dx dy a b c d h:Int):Int:=fZ n0 f0 n2 f2 (ay (f13 i.toNat)) (ay (f15 i.toNat)) (ba (f15 i.toNat)) (cQ (f15 i.toNat)) (fX cx cy dx dy a b c d) (gg cx cy dx dy a b c d) (gj cx cy dx dy a b c d) (gm cx cy dx dy a b c d) h
def qn (f2 f13 f15:Nat->List V) (i cx cy dx dy a b c d h:Int):Int:=gp n0 f0 n2 f2 (ay (f13 i.toNat)) (ay (f15 i.toNat)) (ba (f15 i.toNat)) (cQ (f15 i.toNat)) (fX cx cy dx dy a b c d) (gg cx cy dx dy a b c d) (gj cx cy dx dy a b c d) (gm cx cy dx dy a b c d) h
theorem P0 (f2:ah) (x4:Int) (n5:Nat) (f5:ah) (n7:Nat) (f7:ah) (n9:Nat) (f9:ah) (n11:Nat) (f11:ah) (n13:Nat) (f13:ah) (n15:Nat) (f15:ah) (x17:Int) (s18:ByteArray) (x19 x20 x21 x22 x23 x24 x25 x26 x27 x28:Int) (hp:(0<=x17/\x17 < (n13:Int))/\(0<=x17/\x17 < (n15:Int))/\(aE n0 (aa al f0)/\aE n2 (aa am f2))/\Hd x22 x23/\jA x19/\jA x20/\jA x24/\jA x25/\jA x26/\jA x27):aN cr (Iu n0 f0 n2 f2 x4 n5 f5 n7 f7 n9 f9 n11 f11 n13 f13 n15 f15 x17 s18 x19 x20 x21 x22 x23 x24 x25 x26 x27 x28) (.agg [.int .i64 (qb n0 (aa al f0) n2 (aa am f2) (aa ae f13) (aa bG f15) x17 x19 x20 x22 x23 x24 x25 x26 x27 x28),.int .i64 (qn n0 (aa al f0) n2 (aa am f2) (aa ae f13) (aa bG f15) x17 x19 x20 x22 x23 x24 x25 x26 x27 x28)]):=by
 obtain ⟨h0,h1,hz,hd,hc⟩:=hp
 refine aM (dqt h0) (aM (dqt h1) (aC ⟨hd,hc⟩ (af (aC hz (af ?_)))))
 rw [(QD ..).1,(QD ..).2.1]
 exact evRet rfl
theorem ad4 (f2:ah) (x4:Int) (n5:Nat) (f5:ah) (n7:Nat) (f7:ah) (n9:Nat) (f9:ah) (n11:Nat) (f11:ah) (n13:Nat) (f13:ah) (n15:Nat) (f15:ah) (x17:Int) (s18:ByteArray) (x19 x20 x21 x22 x23 x24 x25 x26 x27 x28:Int) (hp:(0<=x17/\x17 < (n13:Int))/\(0<=x17/\x17 < (n15:Int))/\(aE n0 (aa al f0)/\aE n2 (aa am f2))/\Hd x22 x23/\jA x19/\jA x20/\jA x24/\jA x25/\jA x26/\jA x27):aN cr (Iu n0 f0 n2 f2 x4 n5 f5 n7 f7 n9 f9 n11 f11 n13 f13 n15 f15 x17 s18 x19 x20 x21 x22 x23 x24 x25 x26 x27 x28) (.agg [.int .i64 (qb n0 (aa al f0) n2 (aa am f2) (aa ae f13) (aa bG f15) x17 x19 x20 x22 x23 x24 x25 x26 x27 x28),.int .i64 (qn n0 (aa al f0) n2 (aa am f2) (aa ae f13) (aa bG f15) x17 x19 x20 x22 x23 x24 x25 x26 x27 x28)]):=P0 n0 f0 n2 f2 x4 n5 f5 n7 f7 n9 f9 n11 f11 n13 f13 n15 f15 x17 s18 x19 x20 x21 x22 x23 x24 x25 x26 x27 x28 hp
end
def WV:aB:=bI [.agg [.sl al,.sl am,tI,.sl bF,.sl ce,.sl ci,.sl aT,.sl ae,.sl bG,tI,.str,tI,tI,tI,tI,tI],.agg iu,tI] (fun
 | [.agg [.sl n0 f0,.sl n2 f2,.int _ x4,.sl n5 f5,.sl n7 f7,.sl n9 f9,.sl n11 f11,.sl n13 f13,.sl n15 f15,.int _ x17,.str s18,.int _ x19,.int _ x20,.int _ x21,.int _ x22,.int _ x23],.agg [.int _ x24,.int _ x25,.int _ x26,.int _ x27],.int _ x28]=>(0<=x17/\x17 < (n13:Int))/\(0<=x17/\x17 < (n15:Int))/\(aE n0 f0/\aE n2 f2)/\Hd x22 x23/\jA x19/\jA x20/\jA x24/\jA x25/\jA x26/\jA x27
 | _=>False) fun
 | [.agg [.sl n0 f0,.sl n2 f2,.int _ x4,.sl n5 f5,.sl n7 f7,.sl n9 f9,.sl n11 f11,.sl n13 f13,.sl n15 f15,.int _ x17,.str s18,.int _ x19,.int _ x20,.int _ x21,.int _ x22,.int _ x23],.agg [.int _ x24,.int _ x25,.int _ x26,.int _ x27],.int _ x28]=>.agg [.int .i64 (qb n0 f0 n2 f2 f13 f15 x17 x19 x20 x22 x23 x24 x25 x26 x27 x28),.int .i64 (qn n0 f0 n2 f2 f13 f15 x17 x19 x20 x22 x23 x24 x25 x26 x27 x28)]
 | _=>.any
theorem aaL:(vP WV).Ok Tryz.prog 112:=bY CM Tryz.func112 (by kernel_rfl) fun ds hp=>dG (Ti ..) (ad4 _ _ _ _ _ _ _ _ _ _ _ _ _ _ _ _ _ _ _ _ _ _ _ _ _ _ _ _ _ hp)
def ED (f11:ah) (x17:Int):=i64.wrap ((1000000:Int) * i64.wrap (i64.wrap (cv (f11 x17.toNat) * cv (f11 x17.toNat))+i64.wrap (be (f11 x17.toNat) * be (f11 x17.toNat))))
section
variable (n0:Nat) (f0:ah) (n2:Nat) (f2:ah)
include n0 f0 n2 f2
def IE (x4:Int) (n5:Nat) (f5:ah) (n7:Nat) (f7:ah) (n9:Nat) (f9:ah) (n11:Nat) (f11:ah) (n13:Nat) (f13:ah) (n15:Nat) (f15:ah) (x17 x18 x19 x20 x21 x22:Int):RT Empty:=.ob (decide (0<=x17/\x17 < (↑n13:Int))) (.ob (decide (0<=x17/\x17 < (↑n15:Int))) (.ob (decide (0<=x17/\x17 < (↑n11:Int))) (.obp ((b7 (ED f11 x17)=(0:Int)->False)/\(cw (ED f11 x17)=(0:Int)->False)) (.obt (.obp ((∀ (i:Nat),i < n0->(sv (hdV (f0 i))).size<=(9223372036854775807:Nat))/\∀ (i:Nat),i < n2->(sv (hdV (f2 i))).size<=(9223372036854775807:Nat)) (.obt (.ret (V.agg [vi (fZ n0 (aa al f0) n2 (aa am f2) (ay (f13 x17.toNat)) (ay (f15 x17.toNat)) (ba (f15 x17.toNat)) (cQ (f15 x17.toNat)) (fX (ba (f11 x17.toNat)) (cQ (f11 x17.toNat)) (cv (f11 x17.toNat)) (be (f11 x17.toNat)) x18 x19 x20 x21) (gg (ba (f11 x17.toNat)) (cQ (f11 x17.toNat)) (cv (f11 x17.toNat)) (be (f11 x17.toNat)) x18 x19 x20 x21) (gj (ba (f11 x17.toNat)) (cQ (f11 x17.toNat)) (cv (f11 x17.toNat)) (be (f11 x17.toNat)) x18 x19 x20 x21) (gm (ba (f11 x17.toNat)) (cQ (f11 x17.toNat)) (cv (f11 x17.toNat)) (be (f11 x17.toNat)) x18 x19 x20 x21) x22),vi (gp n0 (aa al f0) n2 (aa am f2) (ay (f13 x17.toNat)) (ay (f15 x17.toNat)) (ba (f15 x17.toNat)) (cQ (f15 x17.toNat)) (fX (ba (f11 x17.toNat)) (cQ (f11 x17.toNat)) (cv (f11 x17.toNat)) (be (f11 x17.toNat)) x18 x19 x20 x21) (gg (ba (f11 x17.toNat)) (cQ (f11 x17.toNat)) (cv (f11 x17.toNat)) (be (f11 x17.toNat)) x18 x19 x20 x21) (gj (ba (f11 x17.toNat)) (cQ (f11 x17.toNat)) (cv (f11 x17.toNat)) (be (f11 x17.toNat)) x18 x19 x20 x21) (gm (ba (f11 x17.toNat)) (cQ (f11 x17.toNat)) (cv (f11 x17.toNat)) (be (f11 x17.toNat)) x18 x19 x20 x21) x22)]))))))))
theorem SI (x4:Int) (n5:Nat) (f5:ah) (n7:Nat) (f7:ah) (n9:Nat) (f9:ah) (n11:Nat) (f11:ah) (n13:Nat) (f13:ah) (n15:Nat) (f15:ah) (x17 x18 x19 x20 x21 x22:Int):dh dm (aS JJ EO u0 akI [V.agg [V.sl n0 (aa al f0),V.sl n2 (aa am f2),vi x4,V.sl n5 (aa bF f5),V.sl n7 (aa ce f7),V.sl n9 (aa ci f9),V.sl n11 (aa aT f11),V.sl n13 (aa ae f13),V.sl n15 (aa bG f15)],vi x17,V.agg [vi x18,vi x19,vi x20,vi x21],vi x22]) (IE n0 f0 n2 f2 x4 n5 f5 n7 f7 n9 f9 n11 f11 n13 f13 n15 f15 x17 x18 x19 x20 x21 x22):=⟨by kernel_rfl,by kernel_rfl⟩
theorem O6 (x4:Int) (n5:Nat) (f5:ah) (n7:Nat) (f7:ah) (n9:Nat) (f9:ah) (n11:Nat) (f11:ah) (n13:Nat) (f13:ah) (n15:Nat) (f15:ah) (x17 x18 x19 x20 x21 x22:Int) (hp:(0<=x17/\x17 < (n13:Int))/\(0<=x17/\x17 < (n15:Int))/\(0<=x17/\x17 < (n11:Int))/\(aE n0 (aa al f0)/\aE n2 (aa am f2))/\Co (i64.wrap (i64.wrap (cv (((aa aT f11) x17.toNat)) * cv (((aa aT f11) x17.toNat)))+i64.wrap (be (((aa aT f11) x17.toNat)) * be (((aa aT f11) x17.toNat)))))):aN cr (IE n0 f0 n2 f2 x4 n5 f5 n7 f7 n9 f9 n11 f11 n13 f13 n15 f15 x17 x18 x19 x20 x21 x22) (.agg [.int .i64 (qb n0 (aa al f0) n2 (aa am f2) (aa ae f13) (aa bG f15) x17 (ba (((aa aT f11) x17.toNat))) (cQ (((aa aT f11) x17.toNat))) (cv (((aa aT f11) x17.toNat))) (be (((aa aT f11) x17.toNat))) x18 x19 x20 x21 x22),.int .i64 (qn n0 (aa al f0) n2 (aa am f2) (aa ae f13) (aa bG f15) x17 (ba (((aa aT f11) x17.toNat))) (cQ (((aa aT f11) x17.toNat))) (cv (((aa aT f11) x17.toNat))) (be (((aa aT f11) x17.toNat))) x18 x19 x20 x21 x22)]):=by
 obtain ⟨h0,h1,h2,hz,hr⟩:=hp
 exact aM (dqt h0) (aM (dqt h1) (aM (dqt h2) (aC hr (af (aC hz (af (evRet rfl)))))))
theorem abN (x4:Int) (n5:Nat) (f5:ah) (n7:Nat) (f7:ah) (n9:Nat) (f9:ah) (n11:Nat) (f11:ah) (n13:Nat) (f13:ah) (n15:Nat) (f15:ah) (x17 x18 x19 x20 x21 x22:Int) (hp:(0<=x17/\x17 < (n13:Int))/\(0<=x17/\x17 < (n15:Int))/\(0<=x17/\x17 < (n11:Int))/\(aE n0 (aa al f0)/\aE n2 (aa am f2))/\Co (i64.wrap (i64.wrap (cv (((aa aT f11) x17.toNat)) * cv (((aa aT f11) x17.toNat)))+i64.wrap (be (((aa aT f11) x17.toNat)) * be (((aa aT f11) x17.toNat)))))):aN cr (IE n0 f0 n2 f2 x4 n5 f5 n7 f7 n9 f9 n11 f11 n13 f13 n15 f15 x17 x18 x19 x20 x21 x22) (.agg [.int .i64 (qb n0 (aa al f0) n2 (aa am f2) (aa ae f13) (aa bG f15) x17 (ba (((aa aT f11) x17.toNat))) (cQ (((aa aT f11) x17.toNat))) (cv (((aa aT f11) x17.toNat))) (be (((aa aT f11) x17.toNat))) x18 x19 x20 x21 x22),.int .i64 (qn n0 (aa al f0) n2 (aa am f2) (aa ae f13) (aa bG f15) x17 (ba (((aa aT f11) x17.toNat))) (cQ (((aa aT f11) x17.toNat))) (cv (((aa aT f11) x17.toNat))) (be (((aa aT f11) x17.toNat))) x18 x19 x20 x21 x22)]):=O6 n0 f0 n2 f2 x4 n5 f5 n7 f7 n9 f9 n11 f11 n13 f13 n15 f15 x17 x18 x19 x20 x21 x22 hp
end
def WY:aB:=bI [.agg [.sl al,.sl am,tI,.sl bF,.sl ce,.sl ci,.sl aT,.sl ae,.sl bG],tI,.agg iu,tI] (fun
 | [.agg [.sl n0 f0,.sl n2 f2,.int _ x4,.sl n5 f5,.sl n7 f7,.sl n9 f9,.sl n11 f11,.sl n13 f13,.sl n15 f15],.int _ x17,.agg [.int _ x18,.int _ x19,.int _ x20,.int _ x21],.int _ x22]=>(0<=x17/\x17 < (n13:Int))/\(0<=x17/\x17 < (n15:Int))/\(0<=x17/\x17 < (n11:Int))/\(aE n0 f0/\aE n2 f2)/\Co (i64.wrap (i64.wrap (cv ((f11 x17.toNat)) * cv ((f11 x17.toNat)))+i64.wrap (be ((f11 x17.toNat)) * be ((f11 x17.toNat)))))
 | _=>False) fun
 | [.agg [.sl n0 f0,.sl n2 f2,.int _ x4,.sl n5 f5,.sl n7 f7,.sl n9 f9,.sl n11 f11,.sl n13 f13,.sl n15 f15],.int _ x17,.agg [.int _ x18,.int _ x19,.int _ x20,.int _ x21],.int _ x22]=>.agg [.int .i64 (qb n0 f0 n2 f2 f13 f15 x17 (ba ((f11 x17.toNat))) (cQ ((f11 x17.toNat))) (cv ((f11 x17.toNat))) (be ((f11 x17.toNat))) x18 x19 x20 x21 x22),.int .i64 (qn n0 f0 n2 f2 f13 f15 x17 (ba ((f11 x17.toNat))) (cQ ((f11 x17.toNat))) (cv ((f11 x17.toNat))) (be ((f11 x17.toNat))) x18 x19 x20 x21 x22)]
 | _=>.any
theorem abP:(vP WY).Ok Tryz.prog 117:=bY CM Tryz.func117 (by kernel_rfl) fun ds hp=>dG (SI ..) (abN _ _ _ _ _ _ _ _ _ _ _ _ _ _ _ _ _ _ _ _ _ _ _ hp)
def lP (a b:Int):Int:=i64.wrap (a - b)
def lM (h:Int):Int:=i64.wrap (so h - 1500)
section
variable (cx cy:Int)
include cx cy
def qY (vx vy dx dy:Int):Int:=aK dx dy (lP cx vx) (lP cy vy)
def Tz (vx vy dx dy:Int):Int:=aJ dx dy (lP cx vx) (lP cy vy)
def yU (h vx vy dx dy:Int):Int:=i64.wrap (i64.wrap (Tz cx cy vx vy dx dy * Tz cx cy vx vy dx dy)+i64.wrap (i64.wrap (lM h * lM h) * bu dx dy))
def HN (h vx vy:Int):Int:=i64.wrap (i64.wrap (i64.wrap (lP cx vx * lP cx vx)+i64.wrap (lP cy vy * lP cy vy))+i64.wrap (lM h * lM h))
def On (h vx vy dx dy:Int):Int:=max (bU (i64.wrap (1000 * cw (yU cx cy h vx vy dx dy))) (qY cx cy vx vy dx dy)) 26
def A2 (h vx vy dx dy:Int):Int:=max (dt (i64.wrap (1000 * b7 (yU cx cy h vx vy dx dy))) (qY cx cy vx vy dx dy)) 26
def Yi (h vx vy dx dy:Int):Bool:=bif bif decide (lM h<=0) then true else decide (qY cx cy vx vy dx dy<=0) then true else decide (i64.wrap (qY cx cy vx vy dx dy * qY cx cy vx vy dx dy) < yU cx cy h vx vy dx dy)
def qd (h vx vy dx dy:Int):Prop:=(-100000<=cx/\cx<=100000)/\(-100000<=cy/\cy<=100000)/\(1<=h/\h<=200)/\(-100000<=vx/\vx<=100000)/\(-100000<=vy/\vy<=100000)/\Hd dx dy
end
theorem Yo:cj=bU:=rfl
theorem Yr:cK=dt:=rfl
theorem q8 {a b:Int} {A B:Nat} (h:a.natAbs<=A) (k:b.natAbs<=B):(a * b).natAbs<=A * B:=by
 rw [Int.natAbs_mul]; exact Nat.mul_le_mul h k
theorem sq0 (b:Int):0<=b * b:=by
 rcases Int.le_total 0 b with h | h
 ·exact imn h h
 ·exact Int.mul_nonneg_of_nonpos_of_nonpos h h
theorem dnP {n d:Int} (hd:0 < d) (h1:0<=n) (h2:n<=1000 * d) (h3:d<=1000000000):0<=bU n d/\bU n d<=1000:=by
 unfold bU
 have m:=Int.tmod_nonneg d h1
 have g0:0<=n / d:=Int.ediv_nonneg h1 (by omega)
 have g1:n / d < 1001:=Int.ediv_lt_of_lt_mul hd (by omega)
 rw [jx (by omega),cond_false,Int.tdiv_eq_ediv_of_nonneg h1,wrapI (by omega) (by omega)]
 omega
theorem dnN {k d:Int} (hd:0 < d) (h1:0<=k) (h2:k<=1000 * d) (h3:d<=1000000000):-1000<=bU (0 - k) d/\bU (0 - k) d<=0:=by
 unfold bU
 rw [Int.zero_sub,Int.neg_tmod,Int.neg_tdiv,Int.tdiv_eq_ediv_of_nonneg h1,Int.tmod_eq_emod_of_nonneg h1]
 have g0:0<=k / d:=Int.ediv_nonneg h1 (by omega)
 have g1:k / d < 1001:=Int.ediv_lt_of_lt_mul hd (by omega)
 have e:=Int.mul_ediv_add_emod k d
 have r1:=Int.emod_nonneg k (by omega:d ≠ 0)
 rw [wrapI (x:=-(k / d)) (by omega) (by omega)]
 by_cases q:-(k % d) < 0
 ·rw [dqt q,cond_true,wrapI (by omega) (by omega)]
  have:k / d < 1000:=Int.ediv_lt_of_lt_mul hd (by
   rcases Int.lt_or_le k (1000 * d) with z | z
   ·omega
   ·have z:k=d * 1000:=by omega
    rw [z,Int.mul_emod_right] at q
    omega)
  omega
 ·rw [jx q,cond_false]
  omega
section
variable {cx cy h vx vy dx dy:Int} (o:qd cx cy h vx vy dx dy)
include o
theorem yaW:lP cx vx=cx - vx/\(lP cx vx).natAbs<=200000:=by
 obtain ⟨h1,h2,h3,h4,h5,h6⟩:=o
 have e:lP cx vx=cx - vx:=wrapI (by omega) (by omega)
 exact ⟨e,by rw [e]; omega⟩
theorem Vo:lP cy vy=cy - vy/\(lP cy vy).natAbs<=200000:=by
 obtain ⟨h1,h2,h3,h4,h5,h6⟩:=o
 have e:lP cy vy=cy - vy:=wrapI (by omega) (by omega)
 exact ⟨e,by rw [e]; omega⟩
theorem TG:lM h=100 * h - 1500/\(lM h).natAbs<=18500:=by
 obtain ⟨h1,h2,h3,h4,h5,h6⟩:=o
 have e:lM h=100 * h - 1500:=by
  unfold lM so
  rw [wrapI (x:=100 * h) (by omega) (by omega)]
  exact wrapI (by omega) (by omega)
 exact ⟨e,by rw [e]; omega⟩
theorem ahC:(qY cx cy vx vy dx dy).natAbs<=400000000:=by
 have hx:=(yaW o).2
 have hy:=(Vo o).2
 have hd:=o.2.2.2.2.2
 have p:(lP cx vx * dx).natAbs<=200000 * 1000:=q8 hx (by have:=hd.1; omega)
 have q:(lP cy vy * dy).natAbs<=200000 * 1000:=q8 hy (by have:=hd.2.1; omega)
 unfold qY aK
 rw [wrapI (x:=lP cx vx * dx) (by omega) (by omega),wrapI (x:=lP cy vy * dy) (by omega) (by omega),wrapI (by omega) (by omega)]
 omega
theorem akH:(Tz cx cy vx vy dx dy).natAbs<=400000000:=by
 have hx:=(yaW o).2
 have hy:=(Vo o).2
 have hd:=o.2.2.2.2.2
 have p:(lP cx vx * dy).natAbs<=200000 * 1000:=q8 hx (by have:=hd.2.1; omega)
 have q:(lP cy vy * dx).natAbs<=200000 * 1000:=q8 hy (by have:=hd.1; omega)
 unfold Tz aJ
 rw [wrapI (x:=lP cx vx * dy) (by omega) (by omega),wrapI (x:=lP cy vy * dx) (by omega) (by omega),wrapI (by omega) (by omega)]
 omega
theorem aeW:0<=yU cx cy h vx vy dx dy/\yU cx cy h vx vy dx dy<=3999999999999999999:=by
 have hb:(Tz cx cy vx vy dx dy * Tz cx cy vx vy dx dy).natAbs<=400000000 * 400000000:=q8 (akH o) (akH o)
 have hz:(lM h * lM h).natAbs<=18500 * 18500:=q8 (TG o).2 (TG o).2
 have b0:=sq0 (Tz cx cy vx vy dx dy)
 have z0:=sq0 (lM h)
 have hs:=hdS o.2.2.2.2.2
 have hw:i64.wrap (lM h * lM h)=lM h * lM h:=wrapI (by omega) (by omega)
 have hp:(lM h * lM h * bu dx dy).natAbs<=342250000 * 2000000:=q8 (by omega) (by omega)
 have p0:0<=lM h * lM h * bu dx dy:=imn z0 (by omega)
 unfold yU
 rw [hw,wrapI (x:=Tz cx cy vx vy dx dy * Tz cx cy vx vy dx dy) (by omega) (by omega),wrapI (x:=lM h * lM h * bu dx dy) (by omega) (by omega),wrapI (by omega) (by omega)]
 omega
theorem ah8 (hz:¬ lM h<=0):HN cx cy h vx vy=0->False:=by
 have hx:(lP cx vx * lP cx vx).natAbs<=200000 * 200000:=q8 (yaW o).2 (yaW o).2
 have hy:(lP cy vy * lP cy vy).natAbs<=200000 * 200000:=q8 (Vo o).2 (Vo o).2
 have hw:(lM h * lM h).natAbs<=18500 * 18500:=q8 (TG o).2 (TG o).2
 have x0:=sq0 (lP cx vx)
 have y0:=sq0 (lP cy vy)
 have z0:0 < lM h * lM h:=Int.mul_pos (by omega) (by omega)
 unfold HN
 rw [wrapI (x:=lP cx vx * lP cx vx) (by omega) (by omega),wrapI (x:=lP cy vy * lP cy vy) (by omega) (by omega),wrapI (x:=lM h * lM h) (by omega) (by omega),wrapI (x:=lP cx vx * lP cx vx+lP cy vy * lP cy vy) (by omega) (by omega),wrapI (by omega) (by omega)]
 omega
section
variable (ha:¬ qY cx cy vx vy dx dy<=0) (hn:¬ i64.wrap (qY cx cy vx vy dx dy * qY cx cy vx vy dx dy) < yU cx cy h vx vy dx dy)
include ha hn
theorem al3 :
 (0<=cw (yU cx cy h vx vy dx dy)/\cw (yU cx cy h vx vy dx dy)<=qY cx cy vx vy dx dy)/\0<=b7 (yU cx cy h vx vy dx dy)/\b7 (yU cx cy h vx vy dx dy)<=qY cx cy vx vy dx dy:=by
 have a1:=ahC o
 have hm:(qY cx cy vx vy dx dy * qY cx cy vx vy dx dy).natAbs<=400000000 * 400000000:=q8 a1 a1
 have n1:=aeW o
 rw [wrapI (by omega) (by omega)] at hn
 revert hn n1 ha a1
 generalize yU cx cy h vx vy dx dy=n
 generalize qY cx cy vx vy dx dy=a
 intro a1 ha n1 hn
 have hc:jR n=n.toNat:=by unfold jR; omega
 have sp:=(kF n.toNat).1
 have e:cw n=(ek n.toNat:Int):=by unfold cw; rw [hc]
 unfold b7
 rw [e]
 revert sp
 generalize ek n.toNat=r
 intro sp
 have sp:(r:Int) * r<=n:=by
  have:=Int.ofNat_le.2 sp
  rw [Int.natCast_mul] at this
  omega
 have ra:(r:Int)<=a:=by
  rcases Int.lt_or_le a r with q | q
  ·have g1:(a+1) * (a+1)<=(r:Int) * r:=Int.mul_le_mul (by omega) (by omega) (by omega) (by omega)
   have g2:(a+1) * (a+1)=a * a+2 * a+1:=by grind
   omega
  ·exact q
 have rr:((r:Int) * r).natAbs<=400000000 * 400000000:=q8 (by omega) (by omega)
 rw [wrapI (x:=(r:Int) * r) (by omega) (by omega)]
 refine ⟨⟨by omega,ra⟩,?_⟩
 by_cases q:(r:Int) * r < n
 ·have rs:(r:Int) < a:=by
   rcases Int.lt_or_le (r:Int) a with q2 | q2
   ·exact q2
   ·have:a=(r:Int):=by omega
    subst this
    omega
  rw [dqt q,cond_true,wrapI (by omega) (by omega)]
  omega
 ·rw [jx q,cond_false]
  exact ⟨by omega,ra⟩
theorem amg:(26<=On cx cy h vx vy dx dy/\On cx cy h vx vy dx dy<=1000)/\26<=A2 cx cy h vx vy dx dy/\A2 cx cy h vx vy dx dy<=1000:=by
 have r:=al3 o ha hn
 have a1:=ahC o
 unfold On A2 dt
 revert r a1 ha
 generalize cw (yU cx cy h vx vy dx dy)=p
 generalize b7 (yU cx cy h vx vy dx dy)=q
 generalize qY cx cy vx vy dx dy=a
 intro ha r a1
 rw [wrapI (x:=1000 * p) (by omega) (by omega),wrapI (x:=1000 * q) (by omega) (by omega),wrapI (x:=0 - 1000 * q) (by omega) (by omega)]
 have g1:=dnP (n:=1000 * p) (d:=a) (by omega) (by omega) (by omega) (by omega)
 have g2:=dnN (k:=1000 * q) (d:=a) (by omega) (by omega) (by omega) (by omega)
 rw [wrapI (x:=0 - bU (0 - 1000 * q) a) (by omega) (by omega)]
 omega
theorem ajO:(i64.wrap (A2 cx cy h vx vy dx dy * A2 cx cy h vx vy dx dy)=0->False)/\(i64.wrap (On cx cy h vx vy dx dy * On cx cy h vx vy dx dy)=0->False):=by
 have k:=amg o ha hn
 have key:∀ x:Int,26<=x/\x<=1000->i64.wrap (x * x)=0->False:=fun x hx=>by
  have h1:(x * x).natAbs<=1000 * 1000:=q8 (by omega) (by omega)
  have h2:0 < x * x:=Int.mul_pos (by omega) (by omega)
  rw [wrapI (by omega) (by omega)]
  omega
 exact ⟨key _ k.2,key _ k.1⟩
end
end
def Dt:bd:=(112,.con WV)::(117,.con WY)::EO
theorem Bw:aR Tryz.prog eqs its Dt:=.con aaL (.con abP (CM))
def lW (n0:Nat) (f0:ah) (n2:Nat) (f2 f13 f15:Nat->List V) (i cx cy h cdx cdy vx vy dx dy:Int):Int:=bif Yi cx cy h vx vy dx dy then 0 else bU (i64.wrap (10000 * bU (i64.wrap (1000000 * bU (i64.wrap (bU (i64.wrap (1000000 * qb n0 f0 n2 f2 f13 f15 i cx cy cdx cdy vx vy vx vy (lM h))) (HN cx cy h vx vy) * 707)) 1000)) (i64.wrap (A2 cx cy h vx vy dx dy * A2 cx cy h vx vy dx dy)))) 3283
def mz (n0:Nat) (f0:ah) (n2:Nat) (f2 f13 f15:Nat->List V) (i cx cy h cdx cdy vx vy dx dy:Int):Int:=bif Yi cx cy h vx vy dx dy then 0 else dt (i64.wrap (10000 * dt (i64.wrap (dt (i64.wrap (1000000 * qn n0 f0 n2 f2 f13 f15 i cx cy cdx cdy vx vy vx vy (lM h))) (HN cx cy h vx vy) * dt (i64.wrap (i64.wrap (1000000+i64.wrap (A2 cx cy h vx vy dx dy * A2 cx cy h vx vy dx dy)) * i64.wrap (1000000+i64.wrap (A2 cx cy h vx vy dx dy * A2 cx cy h vx vy dx dy)))) 1000000)) (i64.wrap (On cx cy h vx vy dx dy * On cx cy h vx vy dx dy)))) 3282
theorem YM {cx cy h vx vy dx dy:Int} (e:Yi cx cy h vx vy dx dy=false):(¬ lM h<=0)/\(¬ qY cx cy vx vy dx dy<=0)/\¬ i64.wrap (qY cx cy vx vy dx dy * qY cx cy vx vy dx dy) < yU cx cy h vx vy dx dy:=by
 unfold Yi at e
 cases h1:decide (lM h<=0) with
 | true=>rw [h1] at e; cases e
 | false =>
   rw [h1] at e
   cases h2:decide (qY cx cy vx vy dx dy<=0) with
   | true=>rw [h2] at e; cases e
   | false =>
     rw [h2] at e
     exact ⟨of_decide_eq_false h1,of_decide_eq_false h2,of_decide_eq_false e⟩
def plS (cx cy h vx vy dx dy:Int):Int:=max (cj (i64.wrap (1000 * yad (yU cx cy h vx vy dx dy))) (qY cx cy vx vy dx dy)) 26
def QJ (cx cy h vx vy dx dy:Int):Int:=max (cK (i64.wrap (1000 * cJ (yU cx cy h vx vy dx dy))) (qY cx cy vx vy dx dy)) 26
section
variable {cx cy h vx vy dx dy:Int} (o:qd cx cy h vx vy dx dy)
include cx cy h vx vy dx dy o
theorem aaJ:plS cx cy h vx vy dx dy=On cx cy h vx vy dx dy:=by
 unfold plS On
 rw [pN (aeW o).2,Yo]
theorem aeB:QJ cx cy h vx vy dx dy=A2 cx cy h vx vy dx dy:=by
 unfold QJ A2
 rw [C4 (aeW o).2,Yr]
theorem vlP:jA cx/\jA cy/\jA vx/\jA vy/\jA vx/\jA vy:=by
 obtain ⟨h1,h2,h3,h4,h5,h6⟩:=o
 unfold jA
 omega
end
section
variable (n0:Nat) (f0:ah) (n2:Nat) (f2:ah)
include n0 f0 n2 f2
def HQ (x4:Int) (n5:Nat) (f5:ah) (n7:Nat) (f7:ah) (n9:Nat) (f9:ah) (n11:Nat) (f11:ah) (n13:Nat) (f13:ah) (n15:Nat) (f15:ah) (x17:Int) (s18:ByteArray) (x19 x20 x21 x22 x23 x24 x25 x26 x27:Int):RT Empty:=.obc (.obt (.obc (.obt (.obc (.obt (.obc (.obt (.obi (.obi (.obi (.obi (.obi (.obi (.obi (.br (Yi x19 x20 x21 x24 x25 x26 x27) (.ret (V.agg [vi 0,vi 0])) (.obc (.obt (.obp (qY x19 x20 x24 x25 x26 x27=(0:Int)->False) (.obt (.obc (.obt (.obp (qY x19 x20 x24 x25 x26 x27=(0:Int)->False) (.obt (.obp (((0:Int)<=x17/\x17 < (↑n13:Int))/\((0:Int)<=x17/\x17 < (↑n15:Int))/\(aE n0 (aa al f0)/\aE n2 (aa am f2))/\Hd x22 x23/\jA x19/\jA x20/\jA x24/\jA x25/\jA x24/\jA x25) (.obt (.obp (HN x19 x20 x21 x24 x25=(0:Int)->False) (.obt (.obp ((1000:Int)=(0:Int)->False) (.obt (.obp (HN x19 x20 x21 x24 x25=(0:Int)->False) (.obt (.obp ((1000000:Int)=(0:Int)->False) (.obt (.obp (i64.wrap (QJ x19 x20 x21 x24 x25 x26 x27 * QJ x19 x20 x21 x24 x25 x26 x27)=(0:Int)->False) (.obt (.obp ((3283:Int)=(0:Int)->False) (.obt (.obp (i64.wrap (plS x19 x20 x21 x24 x25 x26 x27 * plS x19 x20 x21 x24 x25 x26 x27)=(0:Int)->False) (.obt (.obp ((3282:Int)=(0:Int)->False) (.obt (.ret (V.agg [vi (cj (i64.wrap (10000 * cj (i64.wrap (1000000 * cj (i64.wrap (707 * cj (i64.wrap (1000000 * qb n0 (aa al f0) n2 (aa am f2) (aa ae f13) (aa bG f15) x17 x19 x20 x22 x23 x24 x25 x24 x25 (lM x21))) (HN x19 x20 x21 x24 x25))) 1000)) (i64.wrap (QJ x19 x20 x21 x24 x25 x26 x27 * QJ x19 x20 x21 x24 x25 x26 x27)))) 3283),vi (cK (i64.wrap (10000 * cK (i64.wrap (cK (i64.wrap (1000000 * qn n0 (aa al f0) n2 (aa am f2) (aa ae f13) (aa bG f15) x17 x19 x20 x22 x23 x24 x25 x24 x25 (lM x21))) (HN x19 x20 x21 x24 x25) * cK (i64.wrap (i64.wrap (1000000+i64.wrap (QJ x19 x20 x21 x24 x25 x26 x27 * QJ x19 x20 x21 x24 x25 x26 x27)) * i64.wrap (1000000+i64.wrap (QJ x19 x20 x21 x24 x25 x26 x27 * QJ x19 x20 x21 x24 x25 x26 x27)))) 1000000)) (i64.wrap (plS x19 x20 x21 x24 x25 x26 x27 * plS x19 x20 x21 x24 x25 x26 x27)))) 3282)])))))))))))))))))))))))))))))))))))))))))))
theorem Uz (x4:Int) (n5:Nat) (f5:ah) (n7:Nat) (f7:ah) (n9:Nat) (f9:ah) (n11:Nat) (f11:ah) (n13:Nat) (f13:ah) (n15:Nat) (f15:ah) (x17:Int) (s18:ByteArray) (x19 x20 x21 x22 x23 x24 x25 x26 x27:Int):dh dm (aS JJ Dt u0 air [V.agg [V.sl n0 (aa al f0),V.sl n2 (aa am f2),vi x4,V.sl n5 (aa bF f5),V.sl n7 (aa ce f7),V.sl n9 (aa ci f9),V.sl n11 (aa aT f11),V.sl n13 (aa ae f13),V.sl n15 (aa bG f15),vi x17,V.str s18,vi x19,vi x20,vi x21,vi x22,vi x23],V.agg [vi x24,vi x25,vi x26,vi x27]]) (HQ n0 f0 n2 f2 x4 n5 f5 n7 f7 n9 f9 n11 f11 n13 f13 n15 f15 x17 s18 x19 x20 x21 x22 x23 x24 x25 x26 x27):=⟨by kernel_rfl,by kernel_rfl⟩
theorem M7 (x4:Int) (n5:Nat) (f5:ah) (n7:Nat) (f7:ah) (n9:Nat) (f9:ah) (n11:Nat) (f11:ah) (n13:Nat) (f13:ah) (n15:Nat) (f15:ah) (x17:Int) (s18:ByteArray) (x19 x20 x21 x22 x23 x24 x25 x26 x27:Int) (hp:(0<=x17/\x17 < (n13:Int))/\(0<=x17/\x17 < (n15:Int))/\(aE n0 (aa al f0)/\aE n2 (aa am f2))/\Hd x22 x23/\qd x19 x20 x21 x24 x25 x26 x27):aN cr (HQ n0 f0 n2 f2 x4 n5 f5 n7 f7 n9 f9 n11 f11 n13 f13 n15 f15 x17 s18 x19 x20 x21 x22 x23 x24 x25 x26 x27) (.agg [.int .i64 (lW n0 (aa al f0) n2 (aa am f2) (aa ae f13) (aa bG f15) x17 x19 x20 x21 x22 x23 x24 x25 x26 x27),.int .i64 (mz n0 (aa al f0) n2 (aa am f2) (aa ae f13) (aa bG f15) x17 x19 x20 x21 x22 x23 x24 x25 x26 x27)]):=by
 obtain ⟨h0,h1,hz,hd,o⟩:=hp
 refine av (af (av (af (av (af (av (af (evObi (evObi (evObi (evObi (evObi (evObi (evObi (evBr (fun h=>evRet ?_) (fun h=>?_))))))))))))))))
 ·unfold lW mz
  rw [h]; rfl
 ·have k:=YM h
  have ha:qY x19 x20 x24 x25 x26 x27=0->False:=fun e=>k.2.1 (by rw [e]; exact Int.le_refl 0)
  have hq:=ah8 o k.1
  have hm:=ajO o k.2.1 k.2.2
  have hs:=hm.2
  have hm:=hm.1
  rw [aeB o,aaJ o,Yo,Yr,Int.mul_comm 707]
  refine av (af (aC ha (af (av (af (aC ha (af (aC ⟨h0,h1,hz,hd,vlP o⟩ (af (aC hq (af (aC (by decide) (af (aC hq (af (aC (by decide) (af (aC hm (af (aC (by decide) (af (aC hs (af (aC (by decide) (af (evRet ?_))))))))))))))))))))))))))
  unfold lW mz
  rw [h]; rfl
theorem abn (x4:Int) (n5:Nat) (f5:ah) (n7:Nat) (f7:ah) (n9:Nat) (f9:ah) (n11:Nat) (f11:ah) (n13:Nat) (f13:ah) (n15:Nat) (f15:ah) (x17:Int) (s18:ByteArray) (x19 x20 x21 x22 x23 x24 x25 x26 x27:Int) (hp:(0<=x17/\x17 < (n13:Int))/\(0<=x17/\x17 < (n15:Int))/\(aE n0 (aa al f0)/\aE n2 (aa am f2))/\Hd x22 x23/\qd x19 x20 x21 x24 x25 x26 x27):aN cr (HQ n0 f0 n2 f2 x4 n5 f5 n7 f7 n9 f9 n11 f11 n13 f13 n15 f15 x17 s18 x19 x20 x21 x22 x23 x24 x25 x26 x27) (.agg [.int .i64 (lW n0 (aa al f0) n2 (aa am f2) (aa ae f13) (aa bG f15) x17 x19 x20 x21 x22 x23 x24 x25 x26 x27),.int .i64 (mz n0 (aa al f0) n2 (aa am f2) (aa ae f13) (aa bG f15) x17 x19 x20 x21 x22 x23 x24 x25 x26 x27)]):=M7 n0 f0 n2 f2 x4 n5 f5 n7 f7 n9 f9 n11 f11 n13 f13 n15 f15 x17 s18 x19 x20 x21 x22 x23 x24 x25 x26 x27 hp
end
def WT:aB:=bI [.agg [.sl al,.sl am,tI,.sl bF,.sl ce,.sl ci,.sl aT,.sl ae,.sl bG,tI,.str,tI,tI,tI,tI,tI],.agg iu] (fun
 | [.agg [.sl n0 f0,.sl n2 f2,.int _ x4,.sl n5 f5,.sl n7 f7,.sl n9 f9,.sl n11 f11,.sl n13 f13,.sl n15 f15,.int _ x17,.str s18,.int _ x19,.int _ x20,.int _ x21,.int _ x22,.int _ x23],.agg [.int _ x24,.int _ x25,.int _ x26,.int _ x27]]=>(0<=x17/\x17 < (n13:Int))/\(0<=x17/\x17 < (n15:Int))/\(aE n0 f0/\aE n2 f2)/\Hd x22 x23/\qd x19 x20 x21 x24 x25 x26 x27
 | _=>False) fun
 | [.agg [.sl n0 f0,.sl n2 f2,.int _ x4,.sl n5 f5,.sl n7 f7,.sl n9 f9,.sl n11 f11,.sl n13 f13,.sl n15 f15,.int _ x17,.str s18,.int _ x19,.int _ x20,.int _ x21,.int _ x22,.int _ x23],.agg [.int _ x24,.int _ x25,.int _ x26,.int _ x27]]=>.agg [.int .i64 (lW n0 f0 n2 f2 f13 f15 x17 x19 x20 x21 x22 x23 x24 x25 x26 x27),.int .i64 (mz n0 f0 n2 f2 f13 f15 x17 x19 x20 x21 x22 x23 x24 x25 x26 x27)]
 | _=>.any
theorem adT:(vP WT).Ok Tryz.prog 73:=bY Bw Tryz.func73 (by kernel_rfl) fun ds hp=>dG (Uz ..) (abn _ _ _ _ _ _ _ _ _ _ _ _ _ _ _ _ _ _ _ _ _ _ _ _ _ _ _ _ hp)
def sO (f11:ah) (x17 x18 x19 x20 x21:Int):=A2 (ba (f11 x17.toNat)) (cQ (f11 x17.toNat)) (cM (f11 x17.toNat)) x18 x19 x20 x21 * A2 (ba (f11 x17.toNat)) (cQ (f11 x17.toNat)) (cM (f11 x17.toNat)) x18 x19 x20 x21
def Db (f11:ah) (x17 x18 x19 x20 x21:Int):=On (ba (f11 x17.toNat)) (cQ (f11 x17.toNat)) (cM (f11 x17.toNat)) x18 x19 x20 x21 * On (ba (f11 x17.toNat)) (cQ (f11 x17.toNat)) (cM (f11 x17.toNat)) x18 x19 x20 x21
section
variable (n0:Nat) (f0:ah) (n2:Nat) (f2:ah)
include n0 f0 n2 f2
def NS (x4:Int) (n5:Nat) (f5:ah) (n7:Nat) (f7:ah) (n9:Nat) (f9:ah) (n11:Nat) (f11:ah) (n13:Nat) (f13:ah) (n15:Nat) (f15:ah) (x17 x18 x19 x20 x21:Int):RT Empty:=.ob (decide (0<=x17/\x17 < (↑n11:Int))) (.obi (.obi (.obi (.obi (.obi (.obi (.obi (.br (Yi (ba (f11 x17.toNat)) (cQ (f11 x17.toNat)) (cM (f11 x17.toNat)) x18 x19 x20 x21) (.ret (V.agg [vi 0,vi 0])) (.obc (.obt (.obp (qY (ba (f11 x17.toNat)) (cQ (f11 x17.toNat)) x18 x19 x20 x21=(0:Int)->False) (.obt (.obc (.obt (.obp (qY (ba (f11 x17.toNat)) (cQ (f11 x17.toNat)) x18 x19 x20 x21=(0:Int)->False) (.obt (.obp (((0:Int)<=x17/\x17 < (↑n13:Int))/\((0:Int)<=x17/\x17 < (↑n15:Int))/\((0:Int)<=x17/\x17 < (↑n11:Int))/\(aE n0 (aa al f0)/\aE n2 (aa am f2))/\Co (i64.wrap (i64.wrap (cv (f11 x17.toNat) * cv (f11 x17.toNat))+i64.wrap (be (f11 x17.toNat) * be (f11 x17.toNat))))) (.obt (.obp (HN (ba (f11 x17.toNat)) (cQ (f11 x17.toNat)) (cM (f11 x17.toNat)) x18 x19=(0:Int)->False) (.obt (.obp ((1000:Int)=(0:Int)->False) (.obt (.obp (HN (ba (f11 x17.toNat)) (cQ (f11 x17.toNat)) (cM (f11 x17.toNat)) x18 x19=(0:Int)->False) (.obt (.obp ((1000000:Int)=(0:Int)->False) (.obt (.obp (i64.wrap (sO f11 x17 x18 x19 x20 x21)=(0:Int)->False) (.obt (.obp ((3283:Int)=(0:Int)->False) (.obt (.obp (i64.wrap (Db f11 x17 x18 x19 x20 x21)=(0:Int)->False) (.obt (.obp ((3282:Int)=(0:Int)->False) (.obt (.ret (V.agg [vi (bU (i64.wrap (10000 * bU (i64.wrap (1000000 * bU (i64.wrap (bU (i64.wrap (1000000 * qb n0 (aa al f0) n2 (aa am f2) (aa ae f13) (aa bG f15) x17 (ba (f11 x17.toNat)) (cQ (f11 x17.toNat)) (cv (f11 x17.toNat)) (be (f11 x17.toNat)) x18 x19 x18 x19 (lM (cM (f11 x17.toNat))))) (HN (ba (f11 x17.toNat)) (cQ (f11 x17.toNat)) (cM (f11 x17.toNat)) x18 x19) * 707)) 1000)) (i64.wrap (sO f11 x17 x18 x19 x20 x21)))) 3283),vi (dt (i64.wrap (10000 * dt (i64.wrap (dt (i64.wrap (1000000 * qn n0 (aa al f0) n2 (aa am f2) (aa ae f13) (aa bG f15) x17 (ba (f11 x17.toNat)) (cQ (f11 x17.toNat)) (cv (f11 x17.toNat)) (be (f11 x17.toNat)) x18 x19 x18 x19 (lM (cM (f11 x17.toNat))))) (HN (ba (f11 x17.toNat)) (cQ (f11 x17.toNat)) (cM (f11 x17.toNat)) x18 x19) * dt (i64.wrap (i64.wrap (1000000+i64.wrap (sO f11 x17 x18 x19 x20 x21)) * i64.wrap (1000000+i64.wrap (sO f11 x17 x18 x19 x20 x21)))) 1000000)) (i64.wrap (Db f11 x17 x18 x19 x20 x21)))) 3282)]))))))))))))))))))))))))))))))))))))
theorem S0 (x4:Int) (n5:Nat) (f5:ah) (n7:Nat) (f7:ah) (n9:Nat) (f9:ah) (n11:Nat) (f11:ah) (n13:Nat) (f13:ah) (n15:Nat) (f15:ah) (x17 x18 x19 x20 x21:Int):dh dm (aS JJ Dt u0 akv [V.agg [V.sl n0 (aa al f0),V.sl n2 (aa am f2),vi x4,V.sl n5 (aa bF f5),V.sl n7 (aa ce f7),V.sl n9 (aa ci f9),V.sl n11 (aa aT f11),V.sl n13 (aa ae f13),V.sl n15 (aa bG f15)],vi x17,V.agg [vi x18,vi x19,vi x20,vi x21]]) (NS n0 f0 n2 f2 x4 n5 f5 n7 f7 n9 f9 n11 f11 n13 f13 n15 f15 x17 x18 x19 x20 x21):=⟨by kernel_rfl,by kernel_rfl⟩
theorem O7 (x4:Int) (n5:Nat) (f5:ah) (n7:Nat) (f7:ah) (n9:Nat) (f9:ah) (n11:Nat) (f11:ah) (n13:Nat) (f13:ah) (n15:Nat) (f15:ah) (x17 x18 x19 x20 x21:Int) (hp:(0<=x17/\x17 < (n13:Int))/\(0<=x17/\x17 < (n15:Int))/\(0<=x17/\x17 < (n11:Int))/\(aE n0 (aa al f0)/\aE n2 (aa am f2))/\Hd (cv ((aa aT f11) x17.toNat)) (be ((aa aT f11) x17.toNat))/\qd (ba ((aa aT f11) x17.toNat)) (cQ ((aa aT f11) x17.toNat)) (cM ((aa aT f11) x17.toNat)) x18 x19 x20 x21):aN cr (NS n0 f0 n2 f2 x4 n5 f5 n7 f7 n9 f9 n11 f11 n13 f13 n15 f15 x17 x18 x19 x20 x21) (.agg [.int .i64 (lW n0 (aa al f0) n2 (aa am f2) (aa ae f13) (aa bG f15) x17 (ba ((aa aT f11) x17.toNat)) (cQ ((aa aT f11) x17.toNat)) (cM ((aa aT f11) x17.toNat)) (cv ((aa aT f11) x17.toNat)) (be ((aa aT f11) x17.toNat)) x18 x19 x20 x21),.int .i64 (mz n0 (aa al f0) n2 (aa am f2) (aa ae f13) (aa bG f15) x17 (ba ((aa aT f11) x17.toNat)) (cQ ((aa aT f11) x17.toNat)) (cM ((aa aT f11) x17.toNat)) (cv ((aa aT f11) x17.toNat)) (be ((aa aT f11) x17.toNat)) x18 x19 x20 x21)]):=by
 obtain ⟨h0,h1,h2,hz,hd,o⟩:=hp
 refine aM (dqt h2) (evObi (evObi (evObi (evObi (evObi (evObi (evObi (evBr (fun h=>evRet ?_) (fun h=>?_)))))))))
 ·unfold lW mz
  rw [show Yi (ba (aa aT f11 x17.toNat)) (cQ (aa aT f11 x17.toNat)) (cM (aa aT f11 x17.toNat)) x18 x19 x20 x21=true from h]; rfl
 ·have k:=YM h
  have ha:=fun e=>k.2.1 (Int.le_of_eq e)
  have hq:=ah8 o k.1
  have hm:=ajO o k.2.1 k.2.2
  have hs:=hm.2
  have hm:=hm.1
  refine av (af (aC ha (af (av (af (aC ha (af (aC ⟨h0,h1,h2,hz,abH hd⟩ (af (aC hq (af (aC (by decide) (af (aC hq (af (aC (by decide) (af (aC hm (af (aC (by decide) (af (aC hs (af (aC (by decide) (af (evRet ?_))))))))))))))))))))))))))
  unfold lW mz
  rw [show Yi (ba (aa aT f11 x17.toNat)) (cQ (aa aT f11 x17.toNat)) (cM (aa aT f11 x17.toNat)) x18 x19 x20 x21=false from h]; rfl
theorem aaT (x4:Int) (n5:Nat) (f5:ah) (n7:Nat) (f7:ah) (n9:Nat) (f9:ah) (n11:Nat) (f11:ah) (n13:Nat) (f13:ah) (n15:Nat) (f15:ah) (x17 x18 x19 x20 x21:Int) (hp:(0<=x17/\x17 < (n13:Int))/\(0<=x17/\x17 < (n15:Int))/\(0<=x17/\x17 < (n11:Int))/\(aE n0 (aa al f0)/\aE n2 (aa am f2))/\Hd (cv ((aa aT f11) x17.toNat)) (be ((aa aT f11) x17.toNat))/\qd (ba ((aa aT f11) x17.toNat)) (cQ ((aa aT f11) x17.toNat)) (cM ((aa aT f11) x17.toNat)) x18 x19 x20 x21):aN cr (NS n0 f0 n2 f2 x4 n5 f5 n7 f7 n9 f9 n11 f11 n13 f13 n15 f15 x17 x18 x19 x20 x21) (.agg [.int .i64 (lW n0 (aa al f0) n2 (aa am f2) (aa ae f13) (aa bG f15) x17 (ba ((aa aT f11) x17.toNat)) (cQ ((aa aT f11) x17.toNat)) (cM ((aa aT f11) x17.toNat)) (cv ((aa aT f11) x17.toNat)) (be ((aa aT f11) x17.toNat)) x18 x19 x20 x21),.int .i64 (mz n0 (aa al f0) n2 (aa am f2) (aa ae f13) (aa bG f15) x17 (ba ((aa aT f11) x17.toNat)) (cQ ((aa aT f11) x17.toNat)) (cM ((aa aT f11) x17.toNat)) (cv ((aa aT f11) x17.toNat)) (be ((aa aT f11) x17.toNat)) x18 x19 x20 x21)]):=O7 n0 f0 n2 f2 x4 n5 f5 n7 f7 n9 f9 n11 f11 n13 f13 n15 f15 x17 x18 x19 x20 x21 hp
end
def Xz:aB:=bI [.agg [.sl al,.sl am,tI,.sl bF,.sl ce,.sl ci,.sl aT,.sl ae,.sl bG],tI,.agg iu] (fun
 | [.agg [.sl n0 f0,.sl n2 f2,.int _ x4,.sl n5 f5,.sl n7 f7,.sl n9 f9,.sl n11 f11,.sl n13 f13,.sl n15 f15],.int _ x17,.agg [.int _ x18,.int _ x19,.int _ x20,.int _ x21]]=>(0<=x17/\x17 < (n13:Int))/\(0<=x17/\x17 < (n15:Int))/\(0<=x17/\x17 < (n11:Int))/\(aE n0 f0/\aE n2 f2)/\Hd (cv (f11 x17.toNat)) (be (f11 x17.toNat))/\qd (ba (f11 x17.toNat)) (cQ (f11 x17.toNat)) (cM (f11 x17.toNat)) x18 x19 x20 x21
 | _=>False) fun
 | [.agg [.sl n0 f0,.sl n2 f2,.int _ x4,.sl n5 f5,.sl n7 f7,.sl n9 f9,.sl n11 f11,.sl n13 f13,.sl n15 f15],.int _ x17,.agg [.int _ x18,.int _ x19,.int _ x20,.int _ x21]]=>.agg [.int .i64 (lW n0 f0 n2 f2 f13 f15 x17 (ba (f11 x17.toNat)) (cQ (f11 x17.toNat)) (cM (f11 x17.toNat)) (cv (f11 x17.toNat)) (be (f11 x17.toNat)) x18 x19 x20 x21),.int .i64 (mz n0 f0 n2 f2 f13 f15 x17 (ba (f11 x17.toNat)) (cQ (f11 x17.toNat)) (cM (f11 x17.toNat)) (cv (f11 x17.toNat)) (be (f11 x17.toNat)) x18 x19 x20 x21)]
 | _=>.any
theorem acX:(vP Xz).Ok Tryz.prog 157:=bY Bw Tryz.func157 (by kernel_rfl) fun ds hp=>dG (S0 ..) (aaT _ _ _ _ _ _ _ _ _ _ _ _ _ _ _ _ _ _ _ _ _ _ hp)
def AY:bd:=(73,.con WT)::(157,.con Xz)::Dt
theorem CS:aR Tryz.prog eqs its AY:=.con adT (.con acX (Bw))
def Ap (p:Nat->Bool) (v:Nat->Int):Nat->Int
 | 0=>0
 | k+1=>bif p k then i64.wrap (Ap p v k+v k) else Ap p v k
theorem wS {p:Nat->Bool} {v:Nat->Int} {k:Nat} (h:p k=true):Ap p v (k+1)=i64.wrap (Ap p v k+v k):=by
 show (bif p k then _ else _)=_
 rw [h]; rfl
theorem xC {p:Nat->Bool} {v:Nat->Int} {k:Nat} (h:p k=false):Ap p v (k+1)=Ap p v k:=by
 show (bif p k then _ else _)=_
 rw [h]; rfl
def onL (f13:ah) (i:Nat):Bool:=decide (0<=ay (f13 i))
def p8 (n0:Nat) (f0:ah) (n2:Nat) (f2:ah) (n11:Nat) (f11:ah) (n13 n15:Nat):Prop:=(n13=n11/\n15=n11)/\(aE n0 f0/\aE n2 f2)/\∀ i,i < n11->abQ (f11 i)
def oB (vx vy dx dy:Int):Prop:=(-100000<=vx/\vx<=100000)/\(-100000<=vy/\vy<=100000)/\Hd dx dy
section
variable (n0:Nat) (f0:ah) (n2:Nat)
include n0 f0 n2
def dU (f2 f11 f13 f15:Nat->List V) (vx vy dx dy:Int):Nat->Int:=Ap (onL f13) fun i=>lW n0 f0 n2 f2 f13 f15 (i:Int) (ba (f11 i)) (cQ (f11 i)) (cM (f11 i)) (cv (f11 i)) (be (f11 i)) vx vy dx dy
def dT (f2 f11 f13 f15:Nat->List V) (vx vy dx dy:Int):Nat->Int:=Ap (onL f13) fun i=>mz n0 f0 n2 f2 f13 f15 (i:Int) (ba (f11 i)) (cQ (f11 i)) (cM (f11 i)) (cv (f11 i)) (be (f11 i)) vx vy dx dy
def OW (f2:ah) (x4:Int) (n5:Nat) (f5:ah) (n7:Nat) (f7:ah) (n9:Nat) (f9:ah) (n11:Nat) (f11:ah) (n13:Nat) (f13:ah) (n15:Nat) (f15:ah) (x17:Int) (s18:ByteArray) (x19 x20 x21 x22 x23 x24 x25 x26 x27:Int):RT Empty:=.obp (((0:Int)<=x17/\x17 < (↑n13:Int))/\((0:Int)<=x17/\x17 < (↑n15:Int))/\(aE n0 (aa al f0)/\aE n2 (aa am f2))/\Hd x22 x23/\qd x19 x20 x21 x24 x25 x26 x27) (.obt (.ret (V.agg [vi (lW n0 (aa al f0) n2 (aa am f2) (aa ae f13) (aa bG f15) x17 x19 x20 x21 x22 x23 x24 x25 x26 x27),vi (mz n0 (aa al f0) n2 (aa am f2) (aa ae f13) (aa bG f15) x17 x19 x20 x21 x22 x23 x24 x25 x26 x27)])))
theorem V4 (f2:ah) (x4:Int) (n5:Nat) (f5:ah) (n7:Nat) (f7:ah) (n9:Nat) (f9:ah) (n11:Nat) (f11:ah) (n13:Nat) (f13:ah) (n15:Nat) (f15:ah) (x17:Int) (s18:ByteArray) (x19 x20 x21 x22 x23 x24 x25 x26 x27:Int):dh dm (aS JJ AY u0 agL [V.agg [V.sl n0 (aa al f0),V.sl n2 (aa am f2),vi x4,V.sl n5 (aa bF f5),V.sl n7 (aa ce f7),V.sl n9 (aa ci f9),V.sl n11 (aa aT f11),V.sl n13 (aa ae f13),V.sl n15 (aa bG f15),vi x17,V.str s18,vi x19,vi x20,vi x21,vi x22,vi x23],V.pd [vi x24,vi x25,vi x26,vi x27]]) (OW n0 f0 n2 f2 x4 n5 f5 n7 f7 n9 f9 n11 f11 n13 f13 n15 f15 x17 s18 x19 x20 x21 x22 x23 x24 x25 x26 x27):=⟨by kernel_rfl,by kernel_rfl⟩
theorem PM (f2:ah) (x4:Int) (n5:Nat) (f5:ah) (n7:Nat) (f7:ah) (n9:Nat) (f9:ah) (n11:Nat) (f11:ah) (n13:Nat) (f13:ah) (n15:Nat) (f15:ah) (x17:Int) (s18:ByteArray) (x19 x20 x21 x22 x23 x24 x25 x26 x27:Int) (hp:(0<=x17/\x17 < (n13:Int))/\(0<=x17/\x17 < (n15:Int))/\(aE n0 (aa al f0)/\aE n2 (aa am f2))/\Hd x22 x23/\qd x19 x20 x21 x24 x25 x26 x27):aN cr (OW n0 f0 n2 f2 x4 n5 f5 n7 f7 n9 f9 n11 f11 n13 f13 n15 f15 x17 s18 x19 x20 x21 x22 x23 x24 x25 x26 x27) (.agg [.int .i64 (lW n0 (aa al f0) n2 (aa am f2) (aa ae f13) (aa bG f15) x17 x19 x20 x21 x22 x23 x24 x25 x26 x27),.int .i64 (mz n0 (aa al f0) n2 (aa am f2) (aa ae f13) (aa bG f15) x17 x19 x20 x21 x22 x23 x24 x25 x26 x27)]):=aC hp (af (evRet rfl))
theorem adh (f2:ah) (x4:Int) (n5:Nat) (f5:ah) (n7:Nat) (f7:ah) (n9:Nat) (f9:ah) (n11:Nat) (f11:ah) (n13:Nat) (f13:ah) (n15:Nat) (f15:ah) (x17:Int) (s18:ByteArray) (x19 x20 x21 x22 x23 x24 x25 x26 x27:Int) (hp:(0<=x17/\x17 < (n13:Int))/\(0<=x17/\x17 < (n15:Int))/\(aE n0 (aa al f0)/\aE n2 (aa am f2))/\Hd x22 x23/\qd x19 x20 x21 x24 x25 x26 x27):aN cr (OW n0 f0 n2 f2 x4 n5 f5 n7 f7 n9 f9 n11 f11 n13 f13 n15 f15 x17 s18 x19 x20 x21 x22 x23 x24 x25 x26 x27) (.agg [.int .i64 (lW n0 (aa al f0) n2 (aa am f2) (aa ae f13) (aa bG f15) x17 x19 x20 x21 x22 x23 x24 x25 x26 x27),.int .i64 (mz n0 (aa al f0) n2 (aa am f2) (aa ae f13) (aa bG f15) x17 x19 x20 x21 x22 x23 x24 x25 x26 x27)]):=PM n0 f0 n2 f2 x4 n5 f5 n7 f7 n9 f9 n11 f11 n13 f13 n15 f15 x17 s18 x19 x20 x21 x22 x23 x24 x25 x26 x27 hp
end
def XW:aB:=bI [.agg [.sl al,.sl am,tI,.sl bF,.sl ce,.sl ci,.sl aT,.sl ae,.sl bG,tI,.str,tI,tI,tI,tI,tI],.pd iu] (fun
 | [.agg [.sl n0 f0,.sl n2 f2,.int _ x4,.sl n5 f5,.sl n7 f7,.sl n9 f9,.sl n11 f11,.sl n13 f13,.sl n15 f15,.int _ x17,.str s18,.int _ x19,.int _ x20,.int _ x21,.int _ x22,.int _ x23],.pd [.int _ x24,.int _ x25,.int _ x26,.int _ x27]]=>(0<=x17/\x17 < (n13:Int))/\(0<=x17/\x17 < (n15:Int))/\(aE n0 f0/\aE n2 f2)/\Hd x22 x23/\qd x19 x20 x21 x24 x25 x26 x27
 | _=>False) fun
 | [.agg [.sl n0 f0,.sl n2 f2,.int _ x4,.sl n5 f5,.sl n7 f7,.sl n9 f9,.sl n11 f11,.sl n13 f13,.sl n15 f15,.int _ x17,.str s18,.int _ x19,.int _ x20,.int _ x21,.int _ x22,.int _ x23],.pd [.int _ x24,.int _ x25,.int _ x26,.int _ x27]]=>.agg [.int .i64 (lW n0 f0 n2 f2 f13 f15 x17 x19 x20 x21 x22 x23 x24 x25 x26 x27),.int .i64 (mz n0 f0 n2 f2 f13 f15 x17 x19 x20 x21 x22 x23 x24 x25 x26 x27)]
 | _=>.any
theorem aa3:(vP XW).Ok Tryz.prog 72:=bY CS Tryz.func72 (by kernel_rfl) fun ds hp=>dG (V4 ..) (adh _ _ _ _ _ _ _ _ _ _ _ _ _ _ _ _ _ _ _ _ _ _ _ _ _ _ _ _ hp)
inductive pn where
 | L0 (ia0 ia1 ia2:Int)
def SE (n0:Nat) (f0:ah) (n2:Nat) (f2:ah) (x4:Int) (n5:Nat) (f5:ah) (n7:Nat) (f7:ah) (n9:Nat) (f9:ah) (n11:Nat) (f11:ah) (n13:Nat) (f13:ah) (n15:Nat) (f15:ah) (x17 x18 x19 x20:Int):pn->bp × List O × Option Ex
 | .L0 ia0 ia1 ia2=>([(6,vi ia0),(5,V.pl 0 0),(4,V.pl 1 0),(3,V.pl 2 0),(2,V.pl 3 0),(0,V.agg [V.sl n0 (aa al f0),V.sl n2 (aa am f2),vi x4,V.sl n5 (aa bF f5),V.sl n7 (aa ce f7),V.sl n9 (aa ci f9),V.sl n11 (aa aT f11),V.sl n13 (aa ae f13),V.sl n15 (aa bG f15)]),(1,V.agg [vi x17,vi x18,vi x19,vi x20])],[O.cells [vi ia1,vi ia2] 39,O.cells [vi 0,vi 0] 39,O.cells [vi x17,vi x18,vi x19,vi x20] 60,O.cells [V.sl n0 (aa al f0),V.sl n2 (aa am f2),vi x4,V.sl n5 (aa bF f5),V.sl n7 (aa ce f7),V.sl n9 (aa ci f9),V.sl n11 (aa aT f11),V.sl n13 (aa ae f13),V.sl n15 (aa bG f15)] 35],none)
def abt:pn->JJ
 | .L0 ia0 ia1 ia2=>(0,[])
section
variable (n0:Nat) (f0:ah) (n2:Nat) (f2:ah) (x4:Int) (n5:Nat) (f5:ah) (n7:Nat) (f7:ah) (n9:Nat) (f9:ah) (n11:Nat) (f11:ah) (n13:Nat) (f13:ah) (n15:Nat) (f15:ah) (x17 x18 x19 x20:Int)
include n0 f0 n2 f2 x4 n5 f5 n7 f7 n9 f9 n11 f11 n13 f13 n15 f15 x17 x18 x19 x20
def Ou:T (bN JJ):=aS JJ AY u0 akA [V.agg [V.sl n0 (aa al f0),V.sl n2 (aa am f2),vi x4,V.sl n5 (aa bF f5),V.sl n7 (aa ce f7),V.sl n9 (aa ci f9),V.sl n11 (aa aT f11),V.sl n13 (aa ae f13),V.sl n15 (aa bG f15)],V.agg [vi x17,vi x18,vi x19,vi x20]]
def Ah (cx:List Cx):Lp JJ:=fb (eL (Ou n0 f0 n2 f2 x4 n5 f5 n7 f7 n9 f9 n11 f11 n13 f13 n15 f15 x17 x18 x19 x20) [])
def aba:JJ->Lp JJ
 | (0,cx)=>Ah n0 f0 n2 f2 x4 n5 f5 n7 f7 n9 f9 n11 f11 n13 f13 n15 f15 x17 x18 x19 x20 cx
 | (_,cx)=>Ah n0 f0 n2 f2 x4 n5 f5 n7 f7 n9 f9 n11 f11 n13 f13 n15 f15 x17 x18 x19 x20 cx
def aj0:LD JJ pn:=⟨abt,aba n0 f0 n2 f2 x4 n5 f5 n7 f7 n9 f9 n11 f11 n13 f13 n15 f15 x17 x18 x19 x20,SE n0 f0 n2 f2 x4 n5 f5 n7 f7 n9 f9 n11 f11 n13 f13 n15 f15 x17 x18 x19 x20⟩
end
def xI (n0:Nat) (f0:ah) (n2:Nat) (f2:ah) (x4:Int) (n5:Nat) (f5:ah) (n7:Nat) (f7:ah) (n9:Nat) (f9:ah) (n11:Nat) (f11:ah) (n13:Nat) (f13:ah) (n15:Nat) (f15:ah) (x17 x18 x19 x20:Int):pn->RT pn
 | .L0 ia0 ia1 ia2=>.asm (true=true->n13<=9223372036854775807) (.br (decide (ia0 < (↑n13:Int))) (.ob (decide (0<=ia0/\ia0 < (↑n13:Int))) (.br (decide (0<=ay (f13 ia0.toNat))) (.obp (((0:Int)<=ia0/\ia0 < (↑n13:Int))/\((0:Int)<=ia0/\ia0 < (↑n15:Int))/\((0:Int)<=ia0/\ia0 < (↑n11:Int))/\(aE n0 (aa al f0)/\aE n2 (aa am f2))/\Hd (cv (f11 ia0.toNat)) (be (f11 ia0.toNat))/\qd (ba (f11 ia0.toNat)) (cQ (f11 ia0.toNat)) (cM (f11 ia0.toNat)) x17 x18 x19 x20) (.obt (.next (iR 0 4 []) (pn.L0 (i64.wrap (ia0+1)) (i64.wrap (ia1+lW n0 (aa al f0) n2 (aa am f2) (aa ae f13) (aa bG f15) ia0 (ba (f11 ia0.toNat)) (cQ (f11 ia0.toNat)) (cM (f11 ia0.toNat)) (cv (f11 ia0.toNat)) (be (f11 ia0.toNat)) x17 x18 x19 x20)) (i64.wrap (ia2+mz n0 (aa al f0) n2 (aa am f2) (aa ae f13) (aa bG f15) ia0 (ba (f11 ia0.toNat)) (cQ (f11 ia0.toNat)) (cM (f11 ia0.toNat)) (cv (f11 ia0.toNat)) (be (f11 ia0.toNat)) x17 x18 x19 x20))) []))) (.next (iR 0 4 []) (pn.L0 (i64.wrap (ia0+1)) (ia1) (ia2)) []))) (.ret (V.agg [vi ia1,vi ia2])))
def Nl (n0:Nat) (f0:ah) (n2:Nat) (f2:ah) (x4:Int) (n5:Nat) (f5:ah) (n7:Nat) (f7:ah) (n9:Nat) (f9:ah) (n11:Nat) (f11:ah) (n13:Nat) (f13:ah) (n15:Nat) (f15:ah) (x17 x18 x19 x20:Int):RT pn:=.enter [some (some 3),some (some 2),some (some 1),some (some 0)] (pn.L0 (0) (0) (0)) []
section
variable (n0:Nat) (f0:ah) (n2:Nat) (f2:ah) (x4:Int) (n5:Nat) (f5:ah) (n7:Nat) (f7:ah) (n9:Nat) (f9:ah) (n11:Nat) (f11:ah) (n13:Nat) (f13:ah) (n15:Nat) (f15:ah) (x17 x18 x19 x20:Int)
include n0 f0 n2 f2 x4 n5 f5 n7 f7 n9 f9 n11 f11 n13 f13 n15 f15 x17 x18 x19 x20
theorem Rv:dR AY u0 (aj0 n0 f0 n2 f2 x4 n5 f5 n7 f7 n9 f9 n11 f11 n13 f13 n15 f15 x17 x18 x19 x20) (Ou n0 f0 n2 f2 x4 n5 f5 n7 f7 n9 f9 n11 f11 n13 f13 n15 f15 x17 x18 x19 x20) (Nl n0 f0 n2 f2 x4 n5 f5 n7 f7 n9 f9 n11 f11 n13 f13 n15 f15 x17 x18 x19 x20) (xI n0 f0 n2 f2 x4 n5 f5 n7 f7 n9 f9 n11 f11 n13 f13 n15 f15 x17 x18 x19 x20):=⟨⟨by kernel_rfl,by kernel_rfl⟩,fun s=>by cases s <;> exact ⟨by kernel_rfl,by kernel_rfl⟩⟩
theorem ajQ (hp:p8 n0 (aa al f0) n2 (aa am f2) n11 (aa aT f11) n13 n15/\oB x17 x18 x19 x20):∀ k,k<=n13->Ev (xI n0 f0 n2 f2 x4 n5 f5 n7 f7 n9 f9 n11 f11 n13 f13 n15 f15 x17 x18 x19 x20) (.L0 (k:Int) (dU n0 (aa al f0) n2 (aa am f2) (aa aT f11) (aa ae f13) (aa bG f15) x17 x18 x19 x20 k) (dT n0 (aa al f0) n2 (aa am f2) (aa aT f11) (aa ae f13) (aa bG f15) x17 x18 x19 x20 k)) (.agg [.int .i64 (dU n0 (aa al f0) n2 (aa am f2) (aa aT f11) (aa ae f13) (aa bG f15) x17 x18 x19 x20 n13),.int .i64 (dT n0 (aa al f0) n2 (aa am f2) (aa aT f11) (aa ae f13) (aa bG f15) x17 x18 x19 x20 n13)]):=by
 obtain ⟨⟨⟨h1,h2⟩,hz,hc⟩,hv⟩:=hp
 refine dH fun k hk ih=>Ev.of rfl (bk fun hn=>?_)
 by_cases hlt:k < n13
 ·have hw:i64.wrap ((k:Int)+1)=((k+1:Nat):Int):=by rw [wrapI (by omega) (by omega)]; omega
  have ih:=ih hlt
  rw [← hw] at ih
  have c:=hc k (by omega)
  refine fA (dqt (by omega)) (aM (dqt (by omega)) (evBr (fun h=>aC ⟨by omega,by omega,by omega,hz,c.hd,c.px,c.py,c.ph,hv.1,hv.2.1,hv.2.2⟩ (af (aQ ?_))) (fun h=>aQ ?_)))
  ·have h:onL (aa ae f13) k=true:=h
   unfold dU dT at ih
   rw [wS h,wS h] at ih
   exact ih
  ·have h:onL (aa ae f13) k=false:=h
   unfold dU dT at ih
   rw [xC h,xC h] at ih
   exact ih
 ·have e:k=n13:=by omega
  refine ft (jx (by omega)) ?_
  rw [e]
  exact evRet rfl
theorem OS (hp:p8 n0 (aa al f0) n2 (aa am f2) n11 (aa aT f11) n13 n15/\oB x17 x18 x19 x20):aN (Ev (xI n0 f0 n2 f2 x4 n5 f5 n7 f7 n9 f9 n11 f11 n13 f13 n15 f15 x17 x18 x19 x20)) (Nl n0 f0 n2 f2 x4 n5 f5 n7 f7 n9 f9 n11 f11 n13 f13 n15 f15 x17 x18 x19 x20) (.agg [.int .i64 (dU n0 (aa al f0) n2 (aa am f2) (aa aT f11) (aa ae f13) (aa bG f15) x17 x18 x19 x20 n13),.int .i64 (dT n0 (aa al f0) n2 (aa am f2) (aa aT f11) (aa ae f13) (aa bG f15) x17 x18 x19 x20 n13)]):=aH (ajQ n0 f0 n2 f2 x4 n5 f5 n7 f7 n9 f9 n11 f11 n13 f13 n15 f15 x17 x18 x19 x20 hp 0 (Nat.zero_le _))
theorem afk (hp:p8 n0 (aa al f0) n2 (aa am f2) n11 (aa aT f11) n13 n15/\oB x17 x18 x19 x20):aN (Ev (xI n0 f0 n2 f2 x4 n5 f5 n7 f7 n9 f9 n11 f11 n13 f13 n15 f15 x17 x18 x19 x20)) (Nl n0 f0 n2 f2 x4 n5 f5 n7 f7 n9 f9 n11 f11 n13 f13 n15 f15 x17 x18 x19 x20) (.agg [.int .i64 (dU n0 (aa al f0) n2 (aa am f2) (aa aT f11) (aa ae f13) (aa bG f15) x17 x18 x19 x20 n13),.int .i64 (dT n0 (aa al f0) n2 (aa am f2) (aa aT f11) (aa ae f13) (aa bG f15) x17 x18 x19 x20 n13)]):=OS n0 f0 n2 f2 x4 n5 f5 n7 f7 n9 f9 n11 f11 n13 f13 n15 f15 x17 x18 x19 x20 hp
end
def YT:aB:=bI [.agg [.sl al,.sl am,tI,.sl bF,.sl ce,.sl ci,.sl aT,.sl ae,.sl bG],.agg iu] (fun
 | [.agg [.sl n0 f0,.sl n2 f2,.int _ x4,.sl n5 f5,.sl n7 f7,.sl n9 f9,.sl n11 f11,.sl n13 f13,.sl n15 f15],.agg [.int _ x17,.int _ x18,.int _ x19,.int _ x20]]=>p8 n0 f0 n2 f2 n11 f11 n13 n15/\oB x17 x18 x19 x20
 | _=>False) fun
 | [.agg [.sl n0 f0,.sl n2 f2,.int _ x4,.sl n5 f5,.sl n7 f7,.sl n9 f9,.sl n11 f11,.sl n13 f13,.sl n15 f15],.agg [.int _ x17,.int _ x18,.int _ x19,.int _ x20]]=>.agg [.int .i64 (dU n0 f0 n2 f2 f11 f13 f15 x17 x18 x19 x20 n13),.int .i64 (dT n0 f0 n2 f2 f11 f13 f15 x17 x18 x19 x20 n13)]
 | _=>.any
theorem acQ:(vP YT).Ok Tryz.prog 75:=bY CS Tryz.func75 (by kernel_rfl) fun ds hp=>jE (Rv ..) (afk _ _ _ _ _ _ _ _ _ _ _ _ _ _ _ _ _ _ _ _ _ hp)
def Gr:bd:=(79,.inl WO u0)::(72,.con XW)::(75,.con YT)::AY
theorem MI:aR Tryz.prog eqs its Gr:=fU Tryz.func79 (by kernel_rfl) (.con aa3 (.con acQ (CS)))
inductive kL where
 | L0 (ia0:Int) (na1:Nat) (ia2 ia3:Int)
def Np (n0:Nat) (f0:ah) (n2:Nat) (f2:ah) (x4:Int) (n5:Nat) (f5:ah) (n7:Nat) (f7:ah) (n9:Nat) (f9:ah) (n11:Nat) (f11:ah) (n13:Nat) (f13:ah) (n15:Nat) (f15:ah) (x17 x18 x19 x20:Int):kL->bp × List O × Option Ex
 | .L0 ia0 na1 ia2 ia3=>([(8,vi ia0),(7,vi (↑n13:Int)),(6,V.sl n13 (aa ae f13)),(5,V.pl 4 7),(0,V.yl na1),(1,V.pl 4 0)],[O.cells [V.sl n0 (aa al f0),V.sl n2 (aa am f2),vi x4,V.sl n5 (aa bF f5),V.sl n7 (aa ce f7),V.sl n9 (aa ci f9),V.sl n11 (aa aT f11),V.sl n13 (aa ae f13),V.sl n15 (aa bG f15)] 35,O.cells [V.fn 72 [] [V.pd [vi x17,vi x18,vi x19,vi x20]]] 111,O.cells [vi 0,vi 0] 39,O.cells [vi ia2,vi ia3] 39,O.cells [V.sl n0 (aa al f0),V.sl n2 (aa am f2),vi x4,V.sl n5 (aa bF f5),V.sl n7 (aa ce f7),V.sl n9 (aa ci f9),V.sl n11 (aa aT f11),V.sl n13 (aa ae f13),V.sl n15 (aa bG f15)] 35],none)
def Q6:kL->JJ
 | .L0 ia0 na1 ia2 ia3=>(0,[Cx.n na1])
section
variable (n0:Nat) (f0:ah) (n2:Nat) (f2:ah) (x4:Int) (n5:Nat) (f5:ah) (n7:Nat) (f7:ah) (n9:Nat) (f9:ah) (n11:Nat) (f11:ah) (n13:Nat) (f13:ah) (n15:Nat) (f15:ah) (x17 x18 x19 x20:Int)
include n0 f0 n2 f2 x4 n5 f5 n7 f7 n9 f9 n11 f11 n13 f13 n15 f15 x17 x18 x19 x20
def FF:T (bN JJ):=aS JJ Gr u0 WG [V.agg [V.sl n0 (aa al f0),V.sl n2 (aa am f2),vi x4,V.sl n5 (aa bF f5),V.sl n7 (aa ce f7),V.sl n9 (aa ci f9),V.sl n11 (aa aT f11),V.sl n13 (aa ae f13),V.sl n15 (aa bG f15)],V.fn 72 [] [V.pd [vi x17,vi x18,vi x19,vi x20]]]
def ww (cx:List Cx):Lp JJ:=fb (eL (afT (eL (FF n0 f0 n2 f2 x4 n5 f5 n7 f7 n9 f9 n11 f11 n13 f13 n15 f15 x17 x18 x19 x20) []) (yG cx 0)) [])
def TE:JJ->Lp JJ
 | (0,cx)=>ww n0 f0 n2 f2 x4 n5 f5 n7 f7 n9 f9 n11 f11 n13 f13 n15 f15 x17 x18 x19 x20 cx
 | (_,cx)=>ww n0 f0 n2 f2 x4 n5 f5 n7 f7 n9 f9 n11 f11 n13 f13 n15 f15 x17 x18 x19 x20 cx
def acm:LD JJ kL:=⟨Q6,TE n0 f0 n2 f2 x4 n5 f5 n7 f7 n9 f9 n11 f11 n13 f13 n15 f15 x17 x18 x19 x20,Np n0 f0 n2 f2 x4 n5 f5 n7 f7 n9 f9 n11 f11 n13 f13 n15 f15 x17 x18 x19 x20⟩
end
def su (n0:Nat) (f0:ah) (n2:Nat) (f2:ah) (x4:Int) (n5:Nat) (f5:ah) (n7:Nat) (f7:ah) (n9:Nat) (f9:ah) (n11:Nat) (f11:ah) (n13:Nat) (f13:ah) (n15:Nat) (f15:ah) (x17 x18 x19 x20:Int):kL->RT kL
 | .L0 ia0 na1 ia2 ia3=>.br (decide (ia0 < (↑n13:Int))) (.ob (decide (0<=ia0/\ia0 < (↑n13:Int))) (.obi (.obi (.obi (.obi (.obj (decide (0<=ay (f13 ia0.toNat))) (decide (0<=ia0/\ia0 < (↑n11:Int))) (.obi (.obi (.obi (.obi (.br (decide (0<=ay (f13 ia0.toNat))) (.ob (decide (0<=ay (f13 ia0.toNat))) (.ob (decide (0<=ay (f13 ia0.toNat))) (.obp (((0:Int)<=ia0/\ia0 < (↑n13:Int))/\((0:Int)<=ia0/\ia0 < (↑n15:Int))/\(aE n0 (aa al f0)/\aE n2 (aa am f2))/\Hd (cv (f11 ia0.toNat)) (be (f11 ia0.toNat))/\qd (ba (f11 ia0.toNat)) (cQ (f11 ia0.toNat)) (cM (f11 ia0.toNat)) x17 x18 x19 x20) (.obt (.next (iR 0 5 []) (kL.L0 (i64.wrap (ia0+1)) (na1) (i64.wrap (ia2+lW n0 (aa al f0) n2 (aa am f2) (aa ae f13) (aa bG f15) ia0 (ba (f11 ia0.toNat)) (cQ (f11 ia0.toNat)) (cM (f11 ia0.toNat)) (cv (f11 ia0.toNat)) (be (f11 ia0.toNat)) x17 x18 x19 x20)) (i64.wrap (ia3+mz n0 (aa al f0) n2 (aa am f2) (aa ae f13) (aa bG f15) ia0 (ba (f11 ia0.toNat)) (cQ (f11 ia0.toNat)) (cM (f11 ia0.toNat)) (cv (f11 ia0.toNat)) (be (f11 ia0.toNat)) x17 x18 x19 x20))) []))))) (.next (iR 0 5 []) (kL.L0 (i64.wrap (ia0+1)) (na1) (ia2) (ia3)) [])))))))))))) (.ret (V.agg [vi ia2,vi ia3]))
def BE (n0:Nat) (f0:ah) (n2:Nat) (f2:ah) (x4:Int) (n5:Nat) (f5:ah) (n7:Nat) (f7:ah) (n9:Nat) (f9:ah) (n11:Nat) (f11:ah) (n13:Nat) (f13:ah) (n15:Nat) (f15:ah) (x17 x18 x19 x20:Int):RT kL:=.all (fun l_13003=>.asm (true=true->n13<=9223372036854775807) (.enter (iR 0 5 []) (kL.L0 (0) (l_13003) (0) (0)) []))
section
variable (n0:Nat) (f0:ah) (n2:Nat) (f2:ah) (x4:Int) (n5:Nat) (f5:ah) (n7:Nat) (f7:ah) (n9:Nat) (f9:ah) (n11:Nat) (f11:ah) (n13:Nat) (f13:ah) (n15:Nat) (f15:ah) (x17 x18 x19 x20:Int)
include n0 f0 n2 f2 x4 n5 f5 n7 f7 n9 f9 n11 f11 n13 f13 n15 f15 x17 x18 x19 x20
theorem JE:dR Gr u0 (acm n0 f0 n2 f2 x4 n5 f5 n7 f7 n9 f9 n11 f11 n13 f13 n15 f15 x17 x18 x19 x20) (FF n0 f0 n2 f2 x4 n5 f5 n7 f7 n9 f9 n11 f11 n13 f13 n15 f15 x17 x18 x19 x20) (BE n0 f0 n2 f2 x4 n5 f5 n7 f7 n9 f9 n11 f11 n13 f13 n15 f15 x17 x18 x19 x20) (su n0 f0 n2 f2 x4 n5 f5 n7 f7 n9 f9 n11 f11 n13 f13 n15 f15 x17 x18 x19 x20):=⟨⟨by kernel_rfl,by kernel_rfl⟩,fun s=>by cases s <;> exact ⟨by kernel_rfl,by kernel_rfl⟩⟩
theorem aai (hp:p8 n0 (aa al f0) n2 (aa am f2) n11 (aa aT f11) n13 n15/\oB x17 x18 x19 x20) (hn:n13<=9223372036854775807) (l:Nat):∀ k,k<=n13->Ev (su n0 f0 n2 f2 x4 n5 f5 n7 f7 n9 f9 n11 f11 n13 f13 n15 f15 x17 x18 x19 x20) (.L0 (k:Int) l (dU n0 (aa al f0) n2 (aa am f2) (aa aT f11) (aa ae f13) (aa bG f15) x17 x18 x19 x20 k) (dT n0 (aa al f0) n2 (aa am f2) (aa aT f11) (aa ae f13) (aa bG f15) x17 x18 x19 x20 k)) (.agg [.int .i64 (dU n0 (aa al f0) n2 (aa am f2) (aa aT f11) (aa ae f13) (aa bG f15) x17 x18 x19 x20 n13),.int .i64 (dT n0 (aa al f0) n2 (aa am f2) (aa aT f11) (aa ae f13) (aa bG f15) x17 x18 x19 x20 n13)]):=by
 obtain ⟨⟨⟨h1,h2⟩,hz,hc⟩,hv⟩:=hp
 refine dH fun k hk ih=>Ev.of rfl ?_
 by_cases hlt:k < n13
 ·have hw:i64.wrap ((k:Int)+1)=((k+1:Nat):Int):=by rw [wrapI (by omega) (by omega)]; omega
  have ih:=ih hlt
  rw [← hw] at ih
  have c:=hc k (by omega)
  refine fA (dqt (by omega)) (aM (dqt (by omega)) (evObi (evObi (evObi (evObi (evObj (fun _=>dqt (by omega)) (evObi (evObi (evObi (evObi (evBr (fun h=>aM h (aM h (aC ⟨by omega,by omega,hz,c.hd,c.px,c.py,c.ph,hv.1,hv.2.1,hv.2.2⟩ (af (aQ ?_))))) (fun h=>aQ ?_))))))))))))
  ·have h:onL (aa ae f13) k=true:=h
   unfold dU dT at ih
   rw [wS h,wS h] at ih
   exact ih
  ·have h:onL (aa ae f13) k=false:=h
   unfold dU dT at ih
   rw [xC h,xC h] at ih
   exact ih
 ·have e:k=n13:=by omega
  refine ft (jx (by omega)) ?_
  rw [e]
  exact evRet rfl
theorem GQ (hp:p8 n0 (aa al f0) n2 (aa am f2) n11 (aa aT f11) n13 n15/\oB x17 x18 x19 x20):aN (Ev (su n0 f0 n2 f2 x4 n5 f5 n7 f7 n9 f9 n11 f11 n13 f13 n15 f15 x17 x18 x19 x20)) (BE n0 f0 n2 f2 x4 n5 f5 n7 f7 n9 f9 n11 f11 n13 f13 n15 f15 x17 x18 x19 x20) (.agg [.int .i64 (dU n0 (aa al f0) n2 (aa am f2) (aa aT f11) (aa ae f13) (aa bG f15) x17 x18 x19 x20 n13),.int .i64 (dT n0 (aa al f0) n2 (aa am f2) (aa aT f11) (aa ae f13) (aa bG f15) x17 x18 x19 x20 n13)]):=zf fun l=>bk fun hn=>aH (aai n0 f0 n2 f2 x4 n5 f5 n7 f7 n9 f9 n11 f11 n13 f13 n15 f15 x17 x18 x19 x20 hp hn l 0 (Nat.zero_le _))
theorem Sl (hp:p8 n0 (aa al f0) n2 (aa am f2) n11 (aa aT f11) n13 n15/\oB x17 x18 x19 x20):aN (Ev (su n0 f0 n2 f2 x4 n5 f5 n7 f7 n9 f9 n11 f11 n13 f13 n15 f15 x17 x18 x19 x20)) (BE n0 f0 n2 f2 x4 n5 f5 n7 f7 n9 f9 n11 f11 n13 f13 n15 f15 x17 x18 x19 x20) (.agg [.int .i64 (dU n0 (aa al f0) n2 (aa am f2) (aa aT f11) (aa ae f13) (aa bG f15) x17 x18 x19 x20 n13),.int .i64 (dT n0 (aa al f0) n2 (aa am f2) (aa aT f11) (aa ae f13) (aa bG f15) x17 x18 x19 x20 n13)]):=GQ n0 f0 n2 f2 x4 n5 f5 n7 f7 n9 f9 n11 f11 n13 f13 n15 f15 x17 x18 x19 x20 hp
end
def JC:aB:=bI [.agg [.sl al,.sl am,tI,.sl bF,.sl ce,.sl ci,.sl aT,.sl ae,.sl bG],.fn 72 [] [.pd iu]] (fun
 | [.agg [.sl n0 f0,.sl n2 f2,.int _ x4,.sl n5 f5,.sl n7 f7,.sl n9 f9,.sl n11 f11,.sl n13 f13,.sl n15 f15],.fn _ [] [.pd [.int _ x17,.int _ x18,.int _ x19,.int _ x20]]]=>p8 n0 f0 n2 f2 n11 f11 n13 n15/\oB x17 x18 x19 x20
 | _=>False) fun
 | [.agg [.sl n0 f0,.sl n2 f2,.int _ x4,.sl n5 f5,.sl n7 f7,.sl n9 f9,.sl n11 f11,.sl n13 f13,.sl n15 f15],.fn _ [] [.pd [.int _ x17,.int _ x18,.int _ x19,.int _ x20]]]=>.agg [.int .i64 (dU n0 f0 n2 f2 f11 f13 f15 x17 x18 x19 x20 n13),.int .i64 (dT n0 f0 n2 f2 f11 f13 f15 x17 x18 x19 x20 n13)]
 | _=>.any
theorem TQ:(vP JC).Ok Tryz.prog 48:=bY MI Tryz.func48 (by kernel_rfl) fun ds hp=>jE (JE ..) (Sl _ _ _ _ _ _ _ _ _ _ _ _ _ _ _ _ _ _ _ _ _ hp)
def Dp:bd:=(48,.con JC)::Gr
theorem Bo:aR Tryz.prog eqs its Dp:=.con TQ (MI)
def yr (n0:Nat) (f0:ah) (n2:Nat) (f2:ah) (x4:Int) (n5:Nat) (f5:ah) (n7:Nat) (f7:ah) (n9:Nat) (f9:ah) (n11:Nat) (f11:ah) (n13:Nat) (f13:ah) (n15:Nat) (f15:ah):Int:=kE n0 (aa al f0) n2 (aa am f2) x4 n5 (aa bF f5) n7 (aa ce f7) n9 (aa ci f9) n11 (aa aT f11) n13 (aa ae f13) n15 (aa bG f15)
def lB (e vx vy dx dy:Int):Int:=bif e == 0 then bif !(cL vx && cL vy) then 7 else bif !fi dx dy then 2 else 0 else e
theorem ox {e z a b:Int} (h:e=z) (h0:z ≠ 0):cn (V.tup [V.agg [V.int .i64 0,V.int .i64 0],V.int .i64 z])=cn (V.tup [V.agg [V.int .i64 (rX e a),V.int .i64 (rX e b)],V.int .i64 e]):=by
 subst h
 unfold rX
 rw [show (e == 0)=false from by simpa using h0]; rfl
theorem agB {x:Int} (h:(x != 0)=true):x ≠ 0:=by simpa using h
theorem anf {x:Int} (h:(x == 0)=false):x ≠ 0:=by simpa using h
theorem Xg {e a b:Int} (h:e=0):cn (V.tup [V.agg [V.int .i64 a,V.int .i64 b],V.int .i64 0])=cn (V.tup [V.agg [V.int .i64 (rX e a),V.int .i64 (rX e b)],V.int .i64 e]):=by
 subst h; rfl
theorem Xy {e vx vy dx dy:Int} (h:e ≠ 0):lB e vx vy dx dy=e:=by
 unfold lB
 rw [show (e == 0)=false from by simpa using h]; rfl
theorem Ms {vx vy dx dy:Int} (h:(cL vx && cL vy)=false):lB 0 vx vy dx dy=7:=by unfold lB; rw [h]; rfl
theorem XJ {vx vy dx dy:Int} (h:(cL vx && cL vy)=true) (k:fi dx dy=false):lB 0 vx vy dx dy=2:=by unfold lB; rw [h,k]; rfl
theorem Yt {vx vy dx dy:Int} (h:(cL vx && cL vy)=true) (k:fi dx dy=true):lB 0 vx vy dx dy=0:=by unfold lB; rw [h,k]; rfl
theorem pl2 (a b:Int):sP 2 (aa ae (bQ [vi a,vi b] 0 1))=(cL a && cL b):=by
 show (!(decide (0<=vV 2 fun ii=>mN (ay (aa ae (aa ae (bQ [vi a,vi b] 0 1)) ii)))))=_
 rw [yah]
 show (!(!(cq 2 fun ii=>!mN (ay (aa ae (aa ae (bQ [vi a,vi b] 0 1)) ii)))))=_
 rw [Bool.not_not]
 show ((true && !(!cL a)) && !(!cL b))=_
 rw [Bool.not_not,Bool.not_not,Bool.true_and]
theorem UP (a b:Int):mJ a b=fi a b:=by
 unfold mJ fi
 show (bif bz a (-1000) 1000 then bif bz b (-1000) 1000 then !(a == 0 && (b == 0 && true)) else false else false)=_
 rw [bne,bne]
 cases bz a (-1000) 1000 <;> cases bz b (-1000) 1000 <;> cases (a == 0) <;> cases (b == 0) <;> rfl
theorem alG {a b:Int} (h:fi a b=true):Hd a b:=by
 unfold fi at h
 cases h1:bz a (-1000) 1000 with
 | false=>rw [h1] at h; cases h
 | true =>
   rw [h1] at h
   cases h2:bz b (-1000) 1000 with
   | false=>rw [h2] at h; cases h
   | true =>
     rw [h2] at h
     refine ⟨u7 h1,u7 h2,?_⟩
     cases h3:a != 0 with
     | true=>exact .inl (by simpa using h3)
     | false =>
       rw [h3] at h
       exact .inr (by simpa using (show (b != 0)=true from h))
theorem agl {vx vy dx dy:Int} (h:(cL vx && cL vy)=true) (k:fi dx dy=true):oB vx vy dx dy:=by
 obtain ⟨h1,h2⟩:=QZ h
 exact ⟨u7 h1,u7 h2,alG k⟩
section
variable (n0:Nat) (f0:ah) (n2:Nat) (f2:ah) (x4:Int) (n5:Nat) (f5:ah) (n7:Nat) (f7:ah) (n9:Nat) (f9:ah) (n11:Nat) (f11:ah) (n13:Nat) (f13:ah) (n15:Nat) (f15:ah) (x17 x18 x19 x20:Int)
include n0 f0 n2 f2 x4 n5 f5 n7 f7 n9 f9 n11 f11 n13 f13 n15 f15 x17 x18 x19 x20
def KL:RT Empty:=.obp (aE n0 (aa al f0)/\aE n2 (aa am f2)/\aE n5 (aa bF f5)/\aE n11 (aa aT f11)) (.obt (.br (yr n0 f0 n2 f2 x4 n5 f5 n7 f7 n9 f9 n11 f11 n13 f13 n15 f15 != 0) (.ret (V.tup [V.agg [vi 0,vi 0],vi (yr n0 f0 n2 f2 x4 n5 f5 n7 f7 n9 f9 n11 f11 n13 f13 n15 f15)])) (.obc (.obt (.br (!sP 2 (aa ae (bQ [vi x17,vi x18] 0 1))) (.ret (V.tup [V.agg [vi 0,vi 0],vi 7])) (.obc (.obt (.br (!mJ x19 x20) (.ret (V.tup [V.agg [vi 0,vi 0],vi 2])) (.obp (p8 n0 (aa al f0) n2 (aa am f2) n11 (aa aT f11) n13 n15/\oB x17 x18 x19 x20) (.obt (.ret (V.tup [V.agg [vi (dU n0 (aa al f0) n2 (aa am f2) (aa aT f11) (aa ae f13) (aa bG f15) x17 x18 x19 x20 n13),vi (dT n0 (aa al f0) n2 (aa am f2) (aa aT f11) (aa ae f13) (aa bG f15) x17 x18 x19 x20 n13)],vi 0]))))))))))))
theorem To:dh dm (aS JJ Dp u0 afE [V.agg [V.sl n0 (aa al f0),V.sl n2 (aa am f2),vi x4,V.sl n5 (aa bF f5),V.sl n7 (aa ce f7),V.sl n9 (aa ci f9),V.sl n11 (aa aT f11),V.sl n13 (aa ae f13),V.sl n15 (aa bG f15)],V.agg [vi x17,vi x18,vi x19,vi x20]]) (KL n0 f0 n2 f2 x4 n5 f5 n7 f7 n9 f9 n11 f11 n13 f13 n15 f15 x17 x18 x19 x20):=⟨by kernel_rfl,by kernel_rfl⟩
theorem Nq (hp:aE n0 (aa al f0)/\aE n2 (aa am f2)/\aE n5 (aa bF f5)/\aE n11 (aa aT f11)):aN cr (KL n0 f0 n2 f2 x4 n5 f5 n7 f7 n9 f9 n11 f11 n13 f13 n15 f15 x17 x18 x19 x20) (.tup [.agg [.int .i64 (rX (lB (kE n0 (aa al f0) n2 (aa am f2) x4 n5 (aa bF f5) n7 (aa ce f7) n9 (aa ci f9) n11 (aa aT f11) n13 (aa ae f13) n15 (aa bG f15)) x17 x18 x19 x20) (dU n0 (aa al f0) n2 (aa am f2) (aa aT f11) (aa ae f13) (aa bG f15) x17 x18 x19 x20 n13)),.int .i64 (rX (lB (kE n0 (aa al f0) n2 (aa am f2) x4 n5 (aa bF f5) n7 (aa ce f7) n9 (aa ci f9) n11 (aa aT f11) n13 (aa ae f13) n15 (aa bG f15)) x17 x18 x19 x20) (dT n0 (aa al f0) n2 (aa am f2) (aa aT f11) (aa ae f13) (aa bG f15) x17 x18 x19 x20 n13))],.int .i64 (lB (kE n0 (aa al f0) n2 (aa am f2) x4 n5 (aa bF f5) n7 (aa ce f7) n9 (aa ci f9) n11 (aa aT f11) n13 (aa ae f13) n15 (aa bG f15)) x17 x18 x19 x20)]):=by
 refine aC hp (af (evBr (fun h=>evRet (ox (Xy (agB h)) (agB h))) (fun h=>?_)))
 have h0:(kE n0 (aa al f0) n2 (aa am f2) x4 n5 (aa bF f5) n7 (aa ce f7) n9 (aa ci f9) n11 (aa aT f11) n13 (aa ae f13) n15 (aa bG f15))=0:=uK h
 have G:=Xb h0
 rw [h0,pl2,UP]
 refine av (af (evBr (fun h1=>evRet (ox (Ms (Al h1)) (by decide))) (fun h1=>av (af (evBr (fun h2=>evRet (ox (XJ (notf h1) (Al h2)) (by decide))) (fun h2=>aC ⟨⟨⟨G.ll,G.lu⟩,⟨hp.1,hp.2.1⟩,G.cl⟩,agl (notf h1) (notf h2)⟩ (af (evRet (Xg (Yt (notf h1) (notf h2)))))))))))
theorem aef (hp:aE n0 (aa al f0)/\aE n2 (aa am f2)/\aE n5 (aa bF f5)/\aE n11 (aa aT f11)):aN cr (KL n0 f0 n2 f2 x4 n5 f5 n7 f7 n9 f9 n11 f11 n13 f13 n15 f15 x17 x18 x19 x20) (.tup [.agg [.int .i64 (rX (lB (kE n0 (aa al f0) n2 (aa am f2) x4 n5 (aa bF f5) n7 (aa ce f7) n9 (aa ci f9) n11 (aa aT f11) n13 (aa ae f13) n15 (aa bG f15)) x17 x18 x19 x20) (dU n0 (aa al f0) n2 (aa am f2) (aa aT f11) (aa ae f13) (aa bG f15) x17 x18 x19 x20 n13)),.int .i64 (rX (lB (kE n0 (aa al f0) n2 (aa am f2) x4 n5 (aa bF f5) n7 (aa ce f7) n9 (aa ci f9) n11 (aa aT f11) n13 (aa ae f13) n15 (aa bG f15)) x17 x18 x19 x20) (dT n0 (aa al f0) n2 (aa am f2) (aa aT f11) (aa ae f13) (aa bG f15) x17 x18 x19 x20 n13))],.int .i64 (lB (kE n0 (aa al f0) n2 (aa am f2) x4 n5 (aa bF f5) n7 (aa ce f7) n9 (aa ci f9) n11 (aa aT f11) n13 (aa ae f13) n15 (aa bG f15)) x17 x18 x19 x20)]):=Nq n0 f0 n2 f2 x4 n5 f5 n7 f7 n9 f9 n11 f11 n13 f13 n15 f15 x17 x18 x19 x20 hp
end
def XO:aB:=bI [.agg [.sl al,.sl am,tI,.sl bF,.sl ce,.sl ci,.sl aT,.sl ae,.sl bG],.agg iu] (fun
 | [.agg [.sl n0 f0,.sl n2 f2,.int _ x4,.sl n5 f5,.sl n7 f7,.sl n9 f9,.sl n11 f11,.sl n13 f13,.sl n15 f15],.agg [.int _ x17,.int _ x18,.int _ x19,.int _ x20]]=>aE n0 f0/\aE n2 f2/\aE n5 f5/\aE n11 f11
 | _=>False) fun
 | [.agg [.sl n0 f0,.sl n2 f2,.int _ x4,.sl n5 f5,.sl n7 f7,.sl n9 f9,.sl n11 f11,.sl n13 f13,.sl n15 f15],.agg [.int _ x17,.int _ x18,.int _ x19,.int _ x20]]=>.tup [.agg [.int .i64 (rX (lB (kE n0 f0 n2 f2 x4 n5 f5 n7 f7 n9 f9 n11 f11 n13 f13 n15 f15) x17 x18 x19 x20) (dU n0 f0 n2 f2 f11 f13 f15 x17 x18 x19 x20 n13)),.int .i64 (rX (lB (kE n0 f0 n2 f2 x4 n5 f5 n7 f7 n9 f9 n11 f11 n13 f13 n15 f15) x17 x18 x19 x20) (dT n0 f0 n2 f2 f11 f13 f15 x17 x18 x19 x20 n13))],.int .i64 (lB (kE n0 f0 n2 f2 x4 n5 f5 n7 f7 n9 f9 n11 f11 n13 f13 n15 f15) x17 x18 x19 x20)]
 | _=>.any
theorem aeK:(vP XO).Ok Tryz.prog 26:=bY Bo Tryz.func26 (by kernel_rfl) fun ds hp=>dG (To ..) (aef _ _ _ _ _ _ _ _ _ _ _ _ _ _ _ _ _ _ _ _ _ hp)
section
variable (n0:Nat) (f0:ah) (n2:Nat) (f2:ah) (x4:Int) (n5:Nat) (f5:ah) (n7:Nat) (f7:ah) (n9:Nat) (f9:ah) (n11:Nat) (f11:ah) (n13:Nat) (f13:ah) (n15:Nat) (f15:ah) (x17 x18 x19 x20:Int)
include n0 f0 n2 f2 x4 n5 f5 n7 f7 n9 f9 n11 f11 n13 f13 n15 f15 x17 x18 x19 x20
def JV:RT Empty:=.obp (aE n0 (aa al f0)/\aE n2 (aa am f2)/\aE n5 (aa bF f5)/\aE n11 (aa aT f11)) (.obt (.obi (.br (yr n0 f0 n2 f2 x4 n5 f5 n7 f7 n9 f9 n11 f11 n13 f13 n15 f15 == 0) (.ob (yr n0 f0 n2 f2 x4 n5 f5 n7 f7 n9 f9 n11 f11 n13 f13 n15 f15 == 0) (.obc (.obt (.obi (.br (!!cL x17) (.ob (!!cL x17) (.obc (.obt (.br (!cL x18) (.obi (.obi (.brf (.brt (.ret (V.tup [V.agg [vi 0,vi 0],vi 7])))))) (.obi (.obi (.br (yr n0 f0 n2 f2 x4 n5 f5 n7 f7 n9 f9 n11 f11 n13 f13 n15 f15 == 0) (.ob (yr n0 f0 n2 f2 x4 n5 f5 n7 f7 n9 f9 n11 f11 n13 f13 n15 f15 == 0) (.ob (yr n0 f0 n2 f2 x4 n5 f5 n7 f7 n9 f9 n11 f11 n13 f13 n15 f15 == 0) (.obc (.obt (.br (!fi x19 x20) (.brt (.ret (V.tup [V.agg [vi 0,vi 0],vi 2]))) (.br (yr n0 f0 n2 f2 x4 n5 f5 n7 f7 n9 f9 n11 f11 n13 f13 n15 f15 != 0) (.ret (V.tup [V.agg [vi 0,vi 0],vi (yr n0 f0 n2 f2 x4 n5 f5 n7 f7 n9 f9 n11 f11 n13 f13 n15 f15)])) (.obp (p8 n0 (aa al f0) n2 (aa am f2) n11 (aa aT f11) n13 n15/\oB x17 x18 x19 x20) (.obt (.ret (V.tup [V.agg [vi (dU n0 (aa al f0) n2 (aa am f2) (aa aT f11) (aa ae f13) (aa bG f15) x17 x18 x19 x20 n13),vi (dT n0 (aa al f0) n2 (aa am f2) (aa aT f11) (aa ae f13) (aa bG f15) x17 x18 x19 x20 n13)],vi 0])))))))))) (.br (yr n0 f0 n2 f2 x4 n5 f5 n7 f7 n9 f9 n11 f11 n13 f13 n15 f15 != 0) (.ret (V.tup [V.agg [vi 0,vi 0],vi (yr n0 f0 n2 f2 x4 n5 f5 n7 f7 n9 f9 n11 f11 n13 f13 n15 f15)])) (.obp (p8 n0 (aa al f0) n2 (aa am f2) n11 (aa aT f11) n13 n15/\oB x17 x18 x19 x20) (.obt (.ret (V.tup [V.agg [vi (dU n0 (aa al f0) n2 (aa am f2) (aa aT f11) (aa ae f13) (aa bG f15) x17 x18 x19 x20 n13),vi (dT n0 (aa al f0) n2 (aa am f2) (aa aT f11) (aa ae f13) (aa bG f15) x17 x18 x19 x20 n13)],vi 0])))))))))))) (.obi (.obi (.brf (.brt (.ret (V.tup [V.agg [vi 0,vi 0],vi 7]))))))))))) (.obi (.obi (.br (yr n0 f0 n2 f2 x4 n5 f5 n7 f7 n9 f9 n11 f11 n13 f13 n15 f15 == 0) (.ob (yr n0 f0 n2 f2 x4 n5 f5 n7 f7 n9 f9 n11 f11 n13 f13 n15 f15 == 0) (.ob (yr n0 f0 n2 f2 x4 n5 f5 n7 f7 n9 f9 n11 f11 n13 f13 n15 f15 == 0) (.obc (.obt (.br (!fi x19 x20) (.brt (.ret (V.tup [V.agg [vi 0,vi 0],vi 2]))) (.br (yr n0 f0 n2 f2 x4 n5 f5 n7 f7 n9 f9 n11 f11 n13 f13 n15 f15 != 0) (.ret (V.tup [V.agg [vi 0,vi 0],vi (yr n0 f0 n2 f2 x4 n5 f5 n7 f7 n9 f9 n11 f11 n13 f13 n15 f15)])) (.obp (p8 n0 (aa al f0) n2 (aa am f2) n11 (aa aT f11) n13 n15/\oB x17 x18 x19 x20) (.obt (.ret (V.tup [V.agg [vi (dU n0 (aa al f0) n2 (aa am f2) (aa aT f11) (aa ae f13) (aa bG f15) x17 x18 x19 x20 n13),vi (dT n0 (aa al f0) n2 (aa am f2) (aa aT f11) (aa ae f13) (aa bG f15) x17 x18 x19 x20 n13)],vi 0])))))))))) (.br (yr n0 f0 n2 f2 x4 n5 f5 n7 f7 n9 f9 n11 f11 n13 f13 n15 f15 != 0) (.ret (V.tup [V.agg [vi 0,vi 0],vi (yr n0 f0 n2 f2 x4 n5 f5 n7 f7 n9 f9 n11 f11 n13 f13 n15 f15)])) (.obp (p8 n0 (aa al f0) n2 (aa am f2) n11 (aa aT f11) n13 n15/\oB x17 x18 x19 x20) (.obt (.ret (V.tup [V.agg [vi (dU n0 (aa al f0) n2 (aa am f2) (aa aT f11) (aa ae f13) (aa bG f15) x17 x18 x19 x20 n13),vi (dT n0 (aa al f0) n2 (aa am f2) (aa aT f11) (aa ae f13) (aa bG f15) x17 x18 x19 x20 n13)],vi 0])))))))))))
theorem Wl:dh dm (aS JJ Dp u0 ais [V.agg [V.sl n0 (aa al f0),V.sl n2 (aa am f2),vi x4,V.sl n5 (aa bF f5),V.sl n7 (aa ce f7),V.sl n9 (aa ci f9),V.sl n11 (aa aT f11),V.sl n13 (aa ae f13),V.sl n15 (aa bG f15)],V.agg [vi x17,vi x18,vi x19,vi x20]]) (JV n0 f0 n2 f2 x4 n5 f5 n7 f7 n9 f9 n11 f11 n13 f13 n15 f15 x17 x18 x19 x20):=⟨by kernel_rfl,by kernel_rfl⟩
theorem Mq (hp:aE n0 (aa al f0)/\aE n2 (aa am f2)/\aE n5 (aa bF f5)/\aE n11 (aa aT f11)):aN cr (JV n0 f0 n2 f2 x4 n5 f5 n7 f7 n9 f9 n11 f11 n13 f13 n15 f15 x17 x18 x19 x20) (.tup [.agg [.int .i64 (rX (lB (kE n0 (aa al f0) n2 (aa am f2) x4 n5 (aa bF f5) n7 (aa ce f7) n9 (aa ci f9) n11 (aa aT f11) n13 (aa ae f13) n15 (aa bG f15)) x17 x18 x19 x20) (dU n0 (aa al f0) n2 (aa am f2) (aa aT f11) (aa ae f13) (aa bG f15) x17 x18 x19 x20 n13)),.int .i64 (rX (lB (kE n0 (aa al f0) n2 (aa am f2) x4 n5 (aa bF f5) n7 (aa ce f7) n9 (aa ci f9) n11 (aa aT f11) n13 (aa ae f13) n15 (aa bG f15)) x17 x18 x19 x20) (dT n0 (aa al f0) n2 (aa am f2) (aa aT f11) (aa ae f13) (aa bG f15) x17 x18 x19 x20 n13))],.int .i64 (lB (kE n0 (aa al f0) n2 (aa am f2) x4 n5 (aa bF f5) n7 (aa ce f7) n9 (aa ci f9) n11 (aa aT f11) n13 (aa ae f13) n15 (aa bG f15)) x17 x18 x19 x20)]):=by
 refine aC hp (af (evObi (evBr (fun h=>?_) (fun h=>?_))))
 ·have h0:(kE n0 (aa al f0) n2 (aa am f2) x4 n5 (aa bF f5) n7 (aa ce f7) n9 (aa ci f9) n11 (aa aT f11) n13 (aa ae f13) n15 (aa bG f15))=0:=eq_of_beq h
  have G:=Xb h0
  have hv:yr n0 f0 n2 f2 x4 n5 f5 n7 f7 n9 f9 n11 f11 n13 f13 n15 f15=0:=h0
  rw [hv,h0]
  have ok:=fun a c=>aC (Nx:=cr) (p:=p8 n0 (aa al f0) n2 (aa am f2) n11 (aa aT f11) n13 n15/\oB x17 x18 x19 x20) (x:=.obt (.ret (V.tup [V.agg [vi (dU n0 (aa al f0) n2 (aa am f2) (aa aT f11) (aa ae f13) (aa bG f15) x17 x18 x19 x20 n13),vi (dT n0 (aa al f0) n2 (aa am f2) (aa aT f11) (aa ae f13) (aa bG f15) x17 x18 x19 x20 n13)],vi 0]))) ⟨⟨⟨G.ll,G.lu⟩,⟨hp.1,hp.2.1⟩,G.cl⟩,agl a c⟩ (af (evRet (Xg (Yt a c))))
  refine aM rfl (av (af (evObi (evBr (fun h1=>aM h1 (av (af (evBr (fun h2=>evObi (evObi (jP (eg (evRet (ox (Ms ?_) (by decide))))))) (fun h2=>evObi (evObi (evBr (fun _=>aM rfl (aM rfl (av (af (evBr (fun h4=>eg (evRet (ox (XJ ?_ (Al h4)) (by decide)))) (fun h4=>evBr (fun h5=>absurd h5 (by decide)) (fun _=>ok ?_ (notf h4)))))))) (fun h3=>absurd h3 (by decide))))))))) (fun h1=>evObi (evObi (jP (eg (evRet (ox (Ms ?_) (by decide)))))))))))
  ·rw [Al h2,Bool.and_false]
  ·rw [show cL x17=true from by simpa using h1,notf h2]; rfl
  ·rw [show cL x17=true from by simpa using h1,notf h2]; rfl
  ·rw [show cL x17=false from by simpa using h1]; rfl
 ·have hz:(kE n0 (aa al f0) n2 (aa am f2) x4 n5 (aa bF f5) n7 (aa ce f7) n9 (aa ci f9) n11 (aa aT f11) n13 (aa ae f13) n15 (aa bG f15)) ≠ 0:=anf h
  exact evObi (evObi (evBr (fun h3=>absurd (h3.symm.trans h) (by decide)) (fun _=>evBr (fun _=>evRet (ox (Xy hz) hz)) (fun h5=>absurd (uK h5) hz))))
theorem aaw (hp:aE n0 (aa al f0)/\aE n2 (aa am f2)/\aE n5 (aa bF f5)/\aE n11 (aa aT f11)):aN cr (JV n0 f0 n2 f2 x4 n5 f5 n7 f7 n9 f9 n11 f11 n13 f13 n15 f15 x17 x18 x19 x20) (.tup [.agg [.int .i64 (rX (lB (kE n0 (aa al f0) n2 (aa am f2) x4 n5 (aa bF f5) n7 (aa ce f7) n9 (aa ci f9) n11 (aa aT f11) n13 (aa ae f13) n15 (aa bG f15)) x17 x18 x19 x20) (dU n0 (aa al f0) n2 (aa am f2) (aa aT f11) (aa ae f13) (aa bG f15) x17 x18 x19 x20 n13)),.int .i64 (rX (lB (kE n0 (aa al f0) n2 (aa am f2) x4 n5 (aa bF f5) n7 (aa ce f7) n9 (aa ci f9) n11 (aa aT f11) n13 (aa ae f13) n15 (aa bG f15)) x17 x18 x19 x20) (dT n0 (aa al f0) n2 (aa am f2) (aa aT f11) (aa ae f13) (aa bG f15) x17 x18 x19 x20 n13))],.int .i64 (lB (kE n0 (aa al f0) n2 (aa am f2) x4 n5 (aa bF f5) n7 (aa ce f7) n9 (aa ci f9) n11 (aa aT f11) n13 (aa ae f13) n15 (aa bG f15)) x17 x18 x19 x20)]):=Mq n0 f0 n2 f2 x4 n5 f5 n7 f7 n9 f9 n11 f11 n13 f13 n15 f15 x17 x18 x19 x20 hp
end
def Xw:aB:=bI [.agg [.sl al,.sl am,tI,.sl bF,.sl ce,.sl ci,.sl aT,.sl ae,.sl bG],.agg iu] (fun
 | [.agg [.sl n0 f0,.sl n2 f2,.int _ x4,.sl n5 f5,.sl n7 f7,.sl n9 f9,.sl n11 f11,.sl n13 f13,.sl n15 f15],.agg [.int _ x17,.int _ x18,.int _ x19,.int _ x20]]=>aE n0 f0/\aE n2 f2/\aE n5 f5/\aE n11 f11
 | _=>False) fun
 | [.agg [.sl n0 f0,.sl n2 f2,.int _ x4,.sl n5 f5,.sl n7 f7,.sl n9 f9,.sl n11 f11,.sl n13 f13,.sl n15 f15],.agg [.int _ x17,.int _ x18,.int _ x19,.int _ x20]]=>.tup [.agg [.int .i64 (rX (lB (kE n0 f0 n2 f2 x4 n5 f5 n7 f7 n9 f9 n11 f11 n13 f13 n15 f15) x17 x18 x19 x20) (dU n0 f0 n2 f2 f11 f13 f15 x17 x18 x19 x20 n13)),.int .i64 (rX (lB (kE n0 f0 n2 f2 x4 n5 f5 n7 f7 n9 f9 n11 f11 n13 f13 n15 f15) x17 x18 x19 x20) (dT n0 f0 n2 f2 f11 f13 f15 x17 x18 x19 x20 n13))],.int .i64 (lB (kE n0 f0 n2 f2 x4 n5 f5 n7 f7 n9 f9 n11 f11 n13 f13 n15 f15) x17 x18 x19 x20)]
 | _=>.any
theorem adx:(vP Xw).Ok Tryz.prog 27:=bY Bo Tryz.func27 (by kernel_rfl) fun ds hp=>dG (Wl ..) (aaw _ _ _ _ _ _ _ _ _ _ _ _ _ _ _ _ _ _ _ _ _ hp)
def alP (ts:List Ty) (raw:List V) (r:V):aB:=bI ts (fun ds=>ds=jq ts (ao ts raw)) fun _=>r
theorem V9 {P:Program} {eqs:List TypeId} {its:List gk} {ct:bd} {f:FuncId} {fn:Func} {sf:aI} {un:kn} {ts:List Ty} {raw:List V} {r:V} (hT:aR P eqs its ct) (hE:∀ t ∈ eqs,cB P t) (hI:j6 P eqs its) (hf:P.funcs[f]? = some fn)
 (hn : (fn.name == "runtime.NumGoroutine") = false) (hc : dO P eqs its fn = some sf) (hd : eT sf.ntmps sf.body = true) (ho : fl ts = true)
 (h:ou r (aS JJ ct un sf (jq ts (ao ts raw)))=aS JJ ct un sf (jq ts (ao ts raw))):(vP (fk [(ao ts raw,r)])).Ok P f :=
 xu (C:=alP ts raw r) (Cd (J:=JJ) (un:=un) hT hE hI hf hn hc hd ho fun w0 ds hp=>by rw [hp]; exact AW h) _ (ybe (at1 rfl rfl) RQ)
theorem vK {ts:List Ty} {pre:List V->Prop} {preB:List V->Bool} {r:List V->V} (h:∀ ds,preB ds=true->pre ds) {ds:List V} {d p r'} (hc:yaj ts preB r ds=some (d,p,r')):∃ q,bI ts pre r ds=some (d,q,r')/\q:=by
 unfold yaj at hc
 cases hb:preB (jq ts ds) with
 | false=>rw [hb] at hc; cases hc
 | true =>
   rw [hb] at hc
   simp only [cond_true,Option.some.injEq,Prod.mk.injEq] at hc
   obtain ⟨rfl,rfl,rfl⟩:=hc
   exact ⟨_,rfl,h _ hb⟩
theorem OO {P:Program} {f:FuncId} {ts:List Ty} {pre:List V->Prop} {preB:List V->Bool} {r:List V->V} (h:∀ ds,preB ds=true->pre ds) (hO:(vZ (bI ts pre r)).Ok P f):(vZ (yaj ts preB r)).Ok P f:=by
 refine ⟨fun B m lh w args vs K hrel hargs ⟨ds,d,p,r',X,h1,hX,h2,h3,h5,h6⟩=>?_,fun _ _ _ _ _ hk ⟨ds,d,p,r,X,h1,h2,h3,h4,h5,h6⟩=>⟨ds,d,p,r,X,h1,h2,h3,h4,h5,fun x new hx=>hk _ _ (h6 x new hx)⟩,fun _ _ _ _ ⟨_,_,_,_,_,_,_,_,_,⟨x,new,hx⟩,h6⟩=>h6 x new hx⟩
 obtain ⟨q,e,hq⟩:=vK h h2
 exact hO.sound B m lh w args vs K hrel hargs ⟨ds,d,q,r',X,h1,hX,e,⟨h3.1,hq⟩,h5,h6⟩
def CO:List V->Bool
 | [.agg [.str _,.sl n1 _,.sl n3 _,.sl _ _,.int _ _,.int _ _],.int _ _]=>Nat.ble n1 1000 && Nat.ble n3 1000
 | _=>false
theorem vD (ds:List V) (h:CO ds=true):WC ds:=by
 unfold CO at h
 split at h
 ·simp only [Bool.and_eq_true] at h
  exact ⟨Nat.le_of_ble_eq_true h.1,Nat.le_of_ble_eq_true h.2⟩
 ·cases h
def CB:aB:=yaj xy CO Ml
theorem SF:(vZ CB).Ok Tryz.prog 89:=OO vD Cz
theorem LH:∀ ds d p r,CB ds=some (d,p,r)->d.1=d.2->p->∀ w0 lh args,bf w0 lh Nu.nil ds args->∃ x new,vr w0 (lh++new) Nu.nil r x:=fun ds d p r h h1 _=>by
 obtain ⟨q,e,hq⟩:=vK vD h
 exact yq ds d q r e h1 hq
def dS (A B:aB):aB:=orC (fun ds=>(A ds).isSome) A B
theorem bg {P:Program} {f:FuncId} {A B:aB} (hA:(vP A).Ok P f) (hB:(vP B).Ok P f):(vP (dS A B)).Ok P f:=CN _ _ _ hA hB
theorem cE {ct:bd} {f:FuncId} {fn:Func} {sf:aI} {ts:List Ty} {raw:List V} {r:V} (hT:aR Tryz.prog eqs its ct) (hf:Tryz.prog.funcs[f]? = some fn) (hk:fnQ fn sf ts=(false,some sf,true,true)) (h:ou r (aS JJ ct uB sf (jq ts (ao ts raw)))=aS JJ ct uB sf (jq ts (ao ts raw))):(vP (fk [(ao ts raw,r)])).Ok Tryz.prog f:=V9 hT hE hI hf (ec hk).1 (ec hk).2.1 (ec hk).2.2.1 (ec hk).2.2.2 h
def ab9:bd:=[]
theorem ak8:aR Tryz.prog eqs its ab9:=.nil
def afz:V:=.sl 2 fun | 0=>[vi 0] | _=>[vi 100]
def ahG:V:=.sl 2 fun | 0=>[vi 100] | _=>[vi 300]
def agm:V:=.sl 2 fun | 0=>[vi 200] | _=>[vi 600]
def XH:V:=.sl 2 fun | 0=>[vi 700] | _=>[vi 700]
def Ln:V:=.str ⟨#[97,115,112,104,97,108,116]⟩
def PD:V:=.sl 2 fun | 0=>[vi (-1000)] | _=>[vi 1000]
def yap:V:=.sl 2 fun | 0=>[vi (-5000)] | _=>[vi 5000]
def Fa:V:=.sl 2 fun | 0=>[vi (-8000000)] | _=>[vi 8000000]
def akD:V:=.sl 1 fun _=>[vi 0,vi 0,vi 1000]
def yN:V:=.sl 2 fun | 0=>[vi (-40000000)] | _=>[vi 40000000]
def Cu:V:=.sl 3 fun | 0=>[vi (-1000)] | 1=>[vi 0] | _=>[vi 2000]
def uP:V:=.sl 3 fun | 0=>[vi (-8000000)] | 1=>[vi 0] | _=>[vi 16000000]
def xh:V:=.agg [vi (-4000),vi (-4000),vi 0,vi 0]
def w7:V:=.agg [vi (-4000),vi 0,vi (-4000),vi 0]
def wO:V:=.agg [vi (-4000),vi 4000,vi 0,vi 8000]
def xR:V:=.agg [vi (-4000),vi 0,vi 4000,vi 8000]
def B0:V:=.agg [.str ⟨#[99]⟩,vi 0,vi 0,vi 80,vi 0,vi 1]
def Py:V:=.sl 1 fun _=>[.str ⟨#[99]⟩,vi 0,vi 0,vi 80,vi 0,vi 1]
def Bq:V:=.sl 2 fun | 0=>[XH] | _=>[XH]
def ac2:V:=.sl 3 fun | 0=>[vi 0,vi 0] | 1=>[vi 10000,vi 0] | _=>[vi 10000,vi 10000]
def Cs:V:=.sl 3 fun | 0=>[ahG] | 1=>[agm] | _=>[afz]
def Ov:V:=.sl 1 fun _=>[.str ⟨#[104,105,103,104]⟩,vi 0,ac2,vi 4000]
def sY:V:=.sl 1 fun _=>[.str ⟨#[104,101,97,100]⟩,vi 0,vi 1,vi 8000,vi 60000,vi 500,vi 50,vi 2,vi 4,vi 3,vi 5,vi 100000,vi 200,vi 0]
def Ci:V:=.agg [Ov,.sl 0 fun _=>[],.sl 0 fun _=>[],Py]
def JG:V:=.pd [Ln,yap,yap,Bq,vi 0,vi 0,yN,yN,vi 8000]
def Pn:V:=.agg [Ln,yap,yap,Bq,vi 0,vi 0,yN,yN,vi 8000]
def qD:V:=.pd [.str ⟨#[119,105,100,101]⟩,Cu,PD,Cs,vi 50,vi 5,uP,Fa,vi 8000]
def lw:V:=.agg [.str ⟨#[119,105,100,101]⟩,Cu,PD,Cs,vi 50,vi 5,uP,Fa,vi 8000]
def tD:V:=.sl 2 fun | 0=>[.str ⟨#[119,105,100,101]⟩,Cu,PD,Cs,vi 50,vi 5] | _=>[Ln,yap,yap,Bq,vi 0,vi 0]
def oD:V:=.agg [tD,sY,vi 1,Ov,.sl 0 fun _=>[],.sl 0 fun _=>[],Py,.sl 1 fun _=>[vi 0],akD,vi 0,.str ⟨#[99]⟩,vi 0,vi 0,vi 80,vi 0,vi 1]
def afv:List Ty:=[.agg am,.agg bG]
def ag2:List Ty:=[.agg [.sl al,.sl am,tI,.sl bF,.sl ae,.sl ae,.sl aT,.sl ae,.sl bG,tI,.str,tI,tI,tI,tI,tI]]
def Pr:List Ty:=[.agg b4,tI,tI,tI,tI]
def kv:List Ty:=[.agg b4,.sl b4]
def vX:List Ty:=[.sl ae,tI]
def rB:List Ty:=[tI,.pd [.str,.sl ae,.sl ae,.sl [.sl ae],tI,tI,.sl ae,.sl ae,tI],.pd ae,.pd ae]
def LQ:List Ty:=[.agg [.sl bF,.sl ae,.sl ae,.sl aT],tI,.agg iu]
def IF:List Ty:=[.agg aT,.agg iu]
def yaV:List Ty:=[.agg [.sl al,.sl am,tI,.sl bF,.sl ae,.sl ae,.sl aT,.sl ae,.sl bG,tI,.str,tI,tI,tI,tI,tI],.agg iu,tI,tI]
def ux:List Ty:=[.agg [.str,.sl ae,.sl ae,.sl [.sl ae],tI,tI,.sl ae,.sl ae,tI],tI,tI]
def xZ:List Ty:=[.agg [.str,.sl ae,.sl ae,.sl [.sl ae],tI,tI,.sl ae,.sl ae,tI],.agg iu]
def acP:List Ty:=[.agg [.sl al,.sl am],tI,.agg iu,tI]
def CE:List Ty:=[.agg [.sl al,.sl am],tI,.agg bG,.agg iu,tI]
def A4:List Ty:=[.agg [.sl al,.sl am,tI,.sl bF,.sl ae,.sl ae,.sl aT,.sl ae,.sl bG,tI,.str,tI,tI,tI,tI,tI],.agg iu,tI]
def ctK:bd:=[(22,.con I4),(59,.con M0),(60,.con ajd),(161,.con C86),(133,.con DR),(226,.con C3),(165,.con FG),(91,.con Kq),(92,.con Qi),(106,.con ML),(108,.con Jt),(143,.con Mx),(192,.con Mw),(225,.con J0),(89,.conZ CB LH),(81,.inl s44 uB),(206,.inl s45 uB),(235,.inl s53 uB),(152,.inl s99 uB),(250,.inl ajR uB),(309,.inl acu uB),(221,.inl Td uB),(15,.inl agb uB),(18,.inl aiR uB),(46,.inl YO uB),(47,.inl ai3 uB),(48,.inl WG uB),(49,.inl akr uB),(50,.inl aht uB),(53,.inl afQ uB),(54,.inl Yl uB),(55,.inl aji uB),(56,.inl agi uB),(61,.inl XV uB),(71,.inl Zu uB),(79,.inl WO uB),(85,.inl Y5 uB),(86,.inl WU uB),(87,.inl WM uB),(113,.inl ako uB),(114,.inl Wx uB),(115,.inl YG uB),(123,.inl ajC uB),(153,.inl Xq uB),(154,.inl Xs uB),(155,.inl Zm uB),(156,.inl Y3 uB),(159,.inl aiq uB),(164,.inl XP uB),(169,.inl Zg uB),(170,.inl YX uB),(190,.inl ajn uB),(191,.inl Qt uB),(193,.inl YZ uB),(222,.inl Xj uB),(257,.inl Wy uB),(283,.inl Xr uB),(284,.inl Zi uB)]
theorem aiC:aR Tryz.prog eqs its ctK:=.con Rn (.con Wd (.con ajT (.con OH (.con CU (.con BU (.con Cr (.con Wh (.con R9 (.con T9 (.con Tv (.con Ta (.con UF (.con Sv (.conZ SF (fU Tryz.func81 (by kernel_rfl) (fU Tryz.func206 (by kernel_rfl) (fU Tryz.func235 (by kernel_rfl) (fU Tryz.func152 (by kernel_rfl) (fU Tryz.func250 (by kernel_rfl) (fU Tryz.func309 (by kernel_rfl) (fU Tryz.func221 (by kernel_rfl) (fU Tryz.func15 (by kernel_rfl) (fU Tryz.func18 (by kernel_rfl) (fU Tryz.func46 (by kernel_rfl) (fU Tryz.func47 (by kernel_rfl) (fU Tryz.func48 (by kernel_rfl) (fU Tryz.func49 (by kernel_rfl) (fU Tryz.func50 (by kernel_rfl) (fU Tryz.func53 (by kernel_rfl) (fU Tryz.func54 (by kernel_rfl) (fU Tryz.func55 (by kernel_rfl) (fU Tryz.func56 (by kernel_rfl) (fU Tryz.func61 (by kernel_rfl) (fU Tryz.func71 (by kernel_rfl) (fU Tryz.func79 (by kernel_rfl) (fU Tryz.func85 (by kernel_rfl) (fU Tryz.func86 (by kernel_rfl) (fU Tryz.func87 (by kernel_rfl) (fU Tryz.func113 (by kernel_rfl) (fU Tryz.func114 (by kernel_rfl) (fU Tryz.func115 (by kernel_rfl) (fU Tryz.func123 (by kernel_rfl) (fU Tryz.func153 (by kernel_rfl) (fU Tryz.func154 (by kernel_rfl) (fU Tryz.func155 (by kernel_rfl) (fU Tryz.func156 (by kernel_rfl) (fU Tryz.func159 (by kernel_rfl) (fU Tryz.func164 (by kernel_rfl) (fU Tryz.func169 (by kernel_rfl) (fU Tryz.func170 (by kernel_rfl) (fU Tryz.func190 (by kernel_rfl) (fU Tryz.func191 (by kernel_rfl) (fU Tryz.func193 (by kernel_rfl) (fU Tryz.func222 (by kernel_rfl) (fU Tryz.func257 (by kernel_rfl) (fU Tryz.func283 (by kernel_rfl) (fU Tryz.func284 (by kernel_rfl) (.nil))))))))))))))))))))))))))))))))))))))))))))))))))))))))))
def Xp:aB:=fk [(ao afv [.agg [.str ⟨#[104,101,97,100]⟩,vi 0,vi 1,vi 8000,vi 60000,vi 500,vi 50,vi 2,vi 4,vi 3,vi 5,vi 100000,vi 200,vi 0],.agg [vi 0,vi 0,vi 1000]],.agg [vi 8000,vi 8000])]
theorem agZ:(vP Xp).Ok Tryz.prog 88:=cE (sf:=WS) aiC Tryz.func88 (by kernel_rfl) (by kernel_rfl)
def Gu:bd:=(88,.con Xp)::ctK
theorem Au:aR Tryz.prog eqs its Gu:=.con agZ aiC
def YR:aB:=fk [(ao ag2 [oD],vi 8000)]
theorem ag1:(vP YR).Ok Tryz.prog 111:=cE (sf:=Xh) Au Tryz.func111 (by kernel_rfl) (by kernel_rfl)
def Fq:bd:=(111,.con YR)::Gu
theorem pj:aR Tryz.prog eqs its Fq:=.con ag1 Au
def Dq:aB:=fk [(ao Pr [.agg [vi 0,vi 1],vi (-4000),vi 4000,vi 0,vi 8000],wO)]
theorem Uj:(vP Dq).Ok Tryz.prog 125:=cE (sf:=F6) pj Tryz.func125 (by kernel_rfl) (by kernel_rfl)
def FZ:aB:=fk [(ao Pr [.agg [vi 0,vi 1],vi 0,vi 0,vi 0,vi 0],.agg [vi 0,vi 0,vi 0,vi 0])]
theorem VW:(vP FZ).Ok Tryz.prog 125:=cE (sf:=F6) pj Tryz.func125 (by kernel_rfl) (by kernel_rfl)
def yaI:aB:=fk [(ao Pr [.agg [vi 0,vi 1],vi (-4000),vi (-4000),vi 0,vi 0],xh)]
theorem U4:(vP yaI).Ok Tryz.prog 125:=cE (sf:=F6) pj Tryz.func125 (by kernel_rfl) (by kernel_rfl)
def ZE:aB:=dS Dq (dS FZ (yaI))
theorem aj3:(vP ZE).Ok Tryz.prog 125:=bg Uj (bg VW (U4))
def Fv:bd:=(125,.con ZE)::Fq
theorem dY:aR Tryz.prog eqs its Fv:=.con aj3 pj
def EF:aB:=fk [(ao kv [.agg [vi 300,vi 300],.sl 3 fun | 0=>[vi 450,vi 450] | 1=>[vi 312,vi 313] | _=>[vi 475,vi 475]],.agg [vi 300,vi 475])]
theorem SB:(vP EF).Ok Tryz.prog 167:=cE (sf:=j5) dY Tryz.func167 (by kernel_rfl) (by kernel_rfl)
def FJ:aB:=fk [(ao kv [.agg [vi 300,vi 475],.sl 1 fun _=>[vi 300,vi 300]],.agg [vi 300,vi 475])]
theorem ybd:(vP FJ).Ok Tryz.prog 167:=cE (sf:=j5) dY Tryz.func167 (by kernel_rfl) (by kernel_rfl)
def Es:aB:=fk [(ao kv [.agg [vi 300,vi 475],.sl 1 fun _=>[vi 450,vi 450]],.agg [vi 300,vi 475])]
theorem Sr:(vP Es).Ok Tryz.prog 167:=cE (sf:=j5) dY Tryz.func167 (by kernel_rfl) (by kernel_rfl)
def D1:aB:=fk [(ao kv [.agg [vi 300,vi 475],.sl 1 fun _=>[vi 312,vi 313]],.agg [vi 300,vi 475])]
theorem Ro:(vP D1).Ok Tryz.prog 167:=cE (sf:=j5) dY Tryz.func167 (by kernel_rfl) (by kernel_rfl)
def EH:aB:=fk [(ao kv [.agg [vi 300,vi 475],.sl 1 fun _=>[vi 475,vi 475]],.agg [vi 300,vi 475])]
theorem Ul:(vP EH).Ok Tryz.prog 167:=cE (sf:=j5) dY Tryz.func167 (by kernel_rfl) (by kernel_rfl)
def EX:aB:=fk [(ao kv [.agg [vi 300,vi 475],.sl 1 fun _=>[vi 400,vi 400]],.agg [vi 300,vi 475])]
theorem UD:(vP EX).Ok Tryz.prog 167:=cE (sf:=j5) dY Tryz.func167 (by kernel_rfl) (by kernel_rfl)
def Gt:aB:=fk [(ao kv [.agg [vi 300,vi 475],.sl 1 fun _=>[vi 600,vi 600]],.agg [vi 300,vi 600])]
theorem VR:(vP Gt).Ok Tryz.prog 167:=cE (sf:=j5) dY Tryz.func167 (by kernel_rfl) (by kernel_rfl)
def FB:aB:=fk [(ao kv [.agg [vi 400,vi 400],.sl 3 fun | 0=>[vi 400,vi 400] | 1=>[vi 400,vi 400] | _=>[vi 400,vi 400]],.agg [vi 400,vi 400])]
theorem SD:(vP FB).Ok Tryz.prog 167:=cE (sf:=j5) dY Tryz.func167 (by kernel_rfl) (by kernel_rfl)
def Ei:aB:=fk [(ao kv [.agg [vi 400,vi 400],.sl 1 fun _=>[vi 400,vi 400]],.agg [vi 400,vi 400])]
theorem U3:(vP Ei).Ok Tryz.prog 167:=cE (sf:=j5) dY Tryz.func167 (by kernel_rfl) (by kernel_rfl)
def Dm:aB:=fk [(ao kv [.agg [vi 700,vi 700],.sl 3 fun | 0=>[vi 700,vi 700] | 1=>[vi 700,vi 700] | _=>[vi 700,vi 700]],.agg [vi 700,vi 700])]
theorem SL:(vP Dm).Ok Tryz.prog 167:=cE (sf:=j5) dY Tryz.func167 (by kernel_rfl) (by kernel_rfl)
def AB:aB:=fk [(ao kv [.agg [vi 700,vi 700],.sl 1 fun _=>[vi 700,vi 700]],.agg [vi 700,vi 700])]
theorem OP:(vP AB).Ok Tryz.prog 167:=cE (sf:=j5) dY Tryz.func167 (by kernel_rfl) (by kernel_rfl)
def zR:aB:=fk [(ao kv [.agg [vi 300,vi 300],.sl 3 fun | 0=>[vi 300,vi 300] | 1=>[vi 300,vi 300] | _=>[vi 300,vi 300]],.agg [vi 300,vi 300])]
theorem MH:(vP zR).Ok Tryz.prog 167:=cE (sf:=j5) dY Tryz.func167 (by kernel_rfl) (by kernel_rfl)
def zJ:aB:=fk [(ao kv [.agg [vi 300,vi 300],.sl 1 fun _=>[vi 300,vi 300]],.agg [vi 300,vi 300])]
theorem Jm:(vP zJ).Ok Tryz.prog 167:=cE (sf:=j5) dY Tryz.func167 (by kernel_rfl) (by kernel_rfl)
def WQ:aB:=dS EF (dS FJ (dS Es (dS D1 (dS EH (dS EX (dS Gt (dS FB (dS Ei (dS Dm (dS AB (dS zR (zJ))))))))))))
theorem ahZ:(vP WQ).Ok Tryz.prog 167:=bg SB (bg ybd (bg Sr (bg Ro (bg Ul (bg UD (bg VR (bg SD (bg U3 (bg SL (bg OP (bg MH (Jm))))))))))))
def DL:bd:=(167,.con WQ)::Fv
theorem ji:aR Tryz.prog eqs its DL:=.con ahZ dY
def FM:aB:=fk [(ao vX [uP,vi (-4000000)],vi 0)]
theorem UC:(vP FM).Ok Tryz.prog 223:=cE (sf:=tE) ji Tryz.func223 (by kernel_rfl) (by kernel_rfl)
def DO:aB:=fk [(ao vX [Fa,vi 0],vi 0)]
theorem SJ:(vP DO).Ok Tryz.prog 223:=cE (sf:=tE) ji Tryz.func223 (by kernel_rfl) (by kernel_rfl)
def Fx:aB:=fk [(ao vX [Fa,vi 8000000],vi 0)]
theorem Vy:(vP Fx).Ok Tryz.prog 223:=cE (sf:=tE) ji Tryz.func223 (by kernel_rfl) (by kernel_rfl)
def Do:aB:=fk [(ao vX [uP,vi 4000000],vi 1)]
theorem Rw:(vP Do).Ok Tryz.prog 223:=cE (sf:=tE) ji Tryz.func223 (by kernel_rfl) (by kernel_rfl)
def Dw:aB:=fk [(ao vX [uP,vi 0],vi 1)]
theorem S8:(vP Dw).Ok Tryz.prog 223:=cE (sf:=tE) ji Tryz.func223 (by kernel_rfl) (by kernel_rfl)
def EV:aB:=fk [(ao vX [yN,vi 0],vi 0)]
theorem Q5:(vP EV).Ok Tryz.prog 223:=cE (sf:=tE) ji Tryz.func223 (by kernel_rfl) (by kernel_rfl)
def Yb:aB:=dS FM (dS DO (dS Fx (dS Do (dS Dw (EV)))))
theorem ain:(vP Yb).Ok Tryz.prog 223:=bg UC (bg SJ (bg Vy (bg Rw (bg S8 (Q5)))))
def Fi:bd:=(223,.con Yb)::DL
theorem gi:aR Tryz.prog eqs its Fi:=.con ain ji
def Ep:aB:=fk [(ao rB [vi 0,qD,.pd [vi 0],.pd [vi 0]],.agg [vi 200,vi 200])]
theorem VJ:(vP Ep).Ok Tryz.prog 224:=cE (sf:=o3) gi Tryz.func224 (by kernel_rfl) (by kernel_rfl)
def Gi:aB:=fk [(ao rB [vi 1,qD,.pd [vi 0],.pd [vi 0]],.agg [vi 400,vi 400])]
theorem Tp:(vP Gi).Ok Tryz.prog 224:=cE (sf:=o3) gi Tryz.func224 (by kernel_rfl) (by kernel_rfl)
def Du:aB:=fk [(ao rB [vi 0,qD,.pd [vi 0],.pd [vi 8000000]],.agg [vi 300,vi 300])]
theorem Tu:(vP Du).Ok Tryz.prog 224:=cE (sf:=o3) gi Tryz.func224 (by kernel_rfl) (by kernel_rfl)
def C9:aB:=fk [(ao rB [vi 1,qD,.pd [vi 0],.pd [vi 8000000]],.agg [vi 600,vi 600])]
theorem U8:(vP C9).Ok Tryz.prog 224:=cE (sf:=o3) gi Tryz.func224 (by kernel_rfl) (by kernel_rfl)
def Gh:aB:=fk [(ao rB [vi 2,qD,.pd [vi 0],.pd [vi 0]],.agg [vi 50,vi 50])]
theorem T7:(vP Gh).Ok Tryz.prog 224:=cE (sf:=o3) gi Tryz.func224 (by kernel_rfl) (by kernel_rfl)
def D2:aB:=fk [(ao rB [vi 2,qD,.pd [vi 0],.pd [vi 8000000]],.agg [vi 100,vi 100])]
theorem U1:(vP D2).Ok Tryz.prog 224:=cE (sf:=o3) gi Tryz.func224 (by kernel_rfl) (by kernel_rfl)
def GC:aB:=fk [(ao rB [vi 0,JG,.pd [vi 0],.pd [vi 0]],.agg [vi 700,vi 700])]
theorem T5:(vP GC).Ok Tryz.prog 224:=cE (sf:=o3) gi Tryz.func224 (by kernel_rfl) (by kernel_rfl)
def C8:aB:=fk [(ao rB [vi 1,JG,.pd [vi 0],.pd [vi 0]],.agg [vi 700,vi 700])]
theorem R8:(vP C8).Ok Tryz.prog 224:=cE (sf:=o3) gi Tryz.func224 (by kernel_rfl) (by kernel_rfl)
def XN:aB:=dS Ep (dS Gi (dS Du (dS C9 (dS Gh (dS D2 (dS GC (C8)))))))
theorem aik:(vP XN).Ok Tryz.prog 224:=bg VJ (bg Tp (bg Tu (bg U8 (bg T7 (bg U1 (bg T5 (R8)))))))
def C2:bd:=(224,.con XN)::Fi
theorem pw:aR Tryz.prog eqs its C2:=.con aik gi
def XZ:aB:=fk [(ao LQ [Ci,vi 0,xR],.tup [vi 0,vi 0])]
theorem ag3:(vP XZ).Ok Tryz.prog 188:=cE (sf:=s17) pw Tryz.func188 (by kernel_rfl) (by kernel_rfl)
def Xt:aB:=fk [(ao LQ [Ci,vi 0,.agg [vi 0,vi 0,vi 0,vi 0]],.tup [vi 0,vi 0])]
theorem aig:(vP Xt).Ok Tryz.prog 188:=cE (sf:=s17) pw Tryz.func188 (by kernel_rfl) (by kernel_rfl)
def Zo:aB:=fk [(ao LQ [Ci,vi 0,w7],.tup [vi 0,vi 0])]
theorem aiV:(vP Zo).Ok Tryz.prog 188:=cE (sf:=s17) pw Tryz.func188 (by kernel_rfl) (by kernel_rfl)
def K17:aB:=dS XZ (dS Xt (Zo))
theorem k17:(vP K17).Ok Tryz.prog 188:=bg ag3 (bg aig (aiV))
def XM:bd:=(188,.con K17)::C2
theorem w5:aR Tryz.prog eqs its XM:=.con k17 pw
def E2:aB:=fk [(ao IF [B0,xR],wO)]
theorem Tq:(vP E2).Ok Tryz.prog 68:=cE (sf:=E3) w5 Tryz.func68 (by kernel_rfl) (by kernel_rfl)
def FH:aB:=fk [(ao IF [B0,.agg [vi 0,vi 0,vi 0,vi 0]],.agg [vi 0,vi 0,vi 0,vi 0])]
theorem RG:(vP FH).Ok Tryz.prog 68:=cE (sf:=E3) w5 Tryz.func68 (by kernel_rfl) (by kernel_rfl)
def Em:aB:=fk [(ao IF [B0,w7],xh)]
theorem RZ:(vP Em).Ok Tryz.prog 68:=cE (sf:=E3) w5 Tryz.func68 (by kernel_rfl) (by kernel_rfl)
def Zq:aB:=dS E2 (dS FH (Em))
theorem afA:(vP Zq).Ok Tryz.prog 68:=bg Tq (bg RG (RZ))
def Ej:bd:=(68,.con Zq)::XM
theorem pi:aR Tryz.prog eqs its Ej:=.con afA w5
def DK:aB:=fk [(ao yaV [oD,xR,vi 11,vi 75],.agg [vi 11,vi 75])]
theorem SO:(vP DK).Ok Tryz.prog 116:=cE (sf:=LN) pi Tryz.func116 (by kernel_rfl) (by kernel_rfl)
def C5:aB:=fk [(ao yaV [oD,.agg [vi 0,vi 0,vi 0,vi 0],vi 3500,vi 3500],.agg [vi 3500,vi 3500])]
theorem SZ:(vP C5).Ok Tryz.prog 116:=cE (sf:=LN) pi Tryz.func116 (by kernel_rfl) (by kernel_rfl)
def FV:aB:=fk [(ao yaV [oD,w7,vi 26,vi 27],.agg [vi 26,vi 27])]
theorem Rm:(vP FV).Ok Tryz.prog 116:=cE (sf:=LN) pi Tryz.func116 (by kernel_rfl) (by kernel_rfl)
def XG:aB:=dS DK (dS C5 (FV))
theorem afJ:(vP XG).Ok Tryz.prog 116:=bg SO (bg SZ (Rm))
def GH:bd:=(116,.con XG)::Ej
theorem hM:aR Tryz.prog eqs its GH:=.con afJ pi
def E1:aB:=fk [(ao ux [lw,vi (-4000000),vi 0],.agg [vi 300,vi 300])]
theorem Q9:(vP E1).Ok Tryz.prog 168:=cE (sf:=rW) hM Tryz.func168 (by kernel_rfl) (by kernel_rfl)
def GE:aB:=fk [(ao ux [lw,vi (-4000000),vi 8000000],.agg [vi 450,vi 450])]
theorem Rf:(vP GE).Ok Tryz.prog 168:=cE (sf:=rW) hM Tryz.func168 (by kernel_rfl) (by kernel_rfl)
def Gs:aB:=fk [(ao ux [lw,vi 4000000,vi 0],.agg [vi 312,vi 313])]
theorem Tf:(vP Gs).Ok Tryz.prog 168:=cE (sf:=rW) hM Tryz.func168 (by kernel_rfl) (by kernel_rfl)
def ER:aB:=fk [(ao ux [lw,vi 4000000,vi 8000000],.agg [vi 475,vi 475])]
theorem Vu:(vP ER).Ok Tryz.prog 168:=cE (sf:=rW) hM Tryz.func168 (by kernel_rfl) (by kernel_rfl)
def DU:aB:=fk [(ao ux [lw,vi 0,vi 0],.agg [vi 400,vi 400])]
theorem yba:(vP DU).Ok Tryz.prog 168:=cE (sf:=rW) hM Tryz.func168 (by kernel_rfl) (by kernel_rfl)
def Df:aB:=fk [(ao ux [lw,vi 0,vi 8000000],.agg [vi 600,vi 600])]
theorem Ui:(vP Df).Ok Tryz.prog 168:=cE (sf:=rW) hM Tryz.func168 (by kernel_rfl) (by kernel_rfl)
def Eb:aB:=fk [(ao ux [Pn,vi 0,vi 0],.agg [vi 700,vi 700])]
theorem UU:(vP Eb).Ok Tryz.prog 168:=cE (sf:=rW) hM Tryz.func168 (by kernel_rfl) (by kernel_rfl)
def ZB:aB:=dS E1 (dS GE (dS Gs (dS ER (dS DU (dS Df (Eb))))))
theorem agf:(vP ZB).Ok Tryz.prog 168:=bg Q9 (bg Rf (bg Tf (bg Vu (bg yba (bg Ui (UU))))))
def EA:bd:=(168,.con ZB)::GH
theorem lU:aR Tryz.prog eqs its EA:=.con agf hM
def ET:aB:=fk [(ao xZ [lw,wO],.agg [vi 300,vi 600])]
theorem TR:(vP ET).Ok Tryz.prog 90:=cE (sf:=zM) lU Tryz.func90 (by kernel_rfl) (by kernel_rfl)
def Gw:aB:=fk [(ao xZ [lw,.agg [vi 0,vi 0,vi 0,vi 0]],.agg [vi 400,vi 400])]
theorem V8:(vP Gw).Ok Tryz.prog 90:=cE (sf:=zM) lU Tryz.func90 (by kernel_rfl) (by kernel_rfl)
def Dy:aB:=fk [(ao xZ [Pn,.agg [vi 0,vi 0,vi 0,vi 0]],.agg [vi 700,vi 700])]
theorem UQ:(vP Dy).Ok Tryz.prog 90:=cE (sf:=zM) lU Tryz.func90 (by kernel_rfl) (by kernel_rfl)
def Di:aB:=fk [(ao xZ [lw,xh],.agg [vi 300,vi 300])]
theorem RF:(vP Di).Ok Tryz.prog 90:=cE (sf:=zM) lU Tryz.func90 (by kernel_rfl) (by kernel_rfl)
def Zf:aB:=dS ET (dS Gw (dS Dy (Di)))
theorem ahV:(vP Zf).Ok Tryz.prog 90:=bg TR (bg V8 (bg UQ (RF)))
def Dl:bd:=(90,.con Zf)::EA
theorem zP:aR Tryz.prog eqs its Dl:=.con ahV lU
def Xf:aB:=fk [(ao acP [.agg [tD,sY],vi 1,.agg [vi 0,vi 0,vi 0,vi 0],vi 8000],.tup [.agg [vi 700,vi 700],vi 0])]
theorem aku:(vP Xf).Ok Tryz.prog 124:=cE (sf:=aiy) zP Tryz.func124 (by kernel_rfl) (by kernel_rfl)
def DF:bd:=(124,.con Xf)::Dl
theorem pI:aR Tryz.prog eqs its DF:=.con aku zP
def El:aB:=fk [(ao CE [.agg [tD,sY],vi 0,.agg [vi 0,vi 0,vi 1000],wO,vi 8000],.tup [.agg [vi 2400,vi 4800],vi 0])]
theorem VE:(vP El).Ok Tryz.prog 33:=cE (sf:=E9) pI Tryz.func33 (by kernel_rfl) (by kernel_rfl)
def DN:aB:=fk [(ao CE [.agg [tD,sY],vi 0,.agg [vi 0,vi 0,vi 1000],.agg [vi 0,vi 0,vi 0,vi 0],vi 8000],.tup [.agg [vi 3200,vi 3200],vi 0])]
theorem RB:(vP DN).Ok Tryz.prog 33:=cE (sf:=E9) pI Tryz.func33 (by kernel_rfl) (by kernel_rfl)
def yaB:aB:=fk [(ao CE [.agg [tD,sY],vi 0,.agg [vi 0,vi 0,vi 1000],xh,vi 8000],.tup [.agg [vi 2400,vi 2400],vi 0])]
theorem TY:(vP yaB).Ok Tryz.prog 33:=cE (sf:=E9) pI Tryz.func33 (by kernel_rfl) (by kernel_rfl)
def Zd:aB:=dS El (dS DN (yaB))
theorem ahK:(vP Zd).Ok Tryz.prog 33:=bg VE (bg RB (TY))
def Ft:bd:=(33,.con Zd)::DF
theorem p7:aR Tryz.prog eqs its Ft:=.con ahK pI
def yaz:aB:=fk [(ao A4 [oD,xR,vi 8000],.agg [vi 2400,vi 4800])]
theorem Sz:(vP yaz).Ok Tryz.prog 112:=cE (sf:=Ey) p7 Tryz.func112 (by kernel_rfl) (by kernel_rfl)
def Et:aB:=fk [(ao A4 [oD,.agg [vi 0,vi 0,vi 0,vi 0],vi 8000],.agg [vi 3200,vi 3200])]
theorem QW:(vP Et).Ok Tryz.prog 112:=cE (sf:=Ey) p7 Tryz.func112 (by kernel_rfl) (by kernel_rfl)
def FQ:aB:=fk [(ao A4 [oD,w7,vi 8000],.agg [vi 2400,vi 2400])]
theorem Ry:(vP FQ).Ok Tryz.prog 112:=cE (sf:=Ey) p7 Tryz.func112 (by kernel_rfl) (by kernel_rfl)
def YP:aB:=dS yaz (dS Et (FQ))
theorem ah6:(vP YP).Ok Tryz.prog 112:=bg Sz (bg QW (Ry))
def RL:bd:=(112,.con YP)::Ft
theorem K8:aR Tryz.prog eqs its RL:=.con ah6 p7
def Zr:aB:=bI [] (fun _=>True) fun _=>.bool true
theorem abi:(vP Zr).Ok Tryz.prog 17:=Cd (J:=JJ) (un:=uB) (sf:=ajp) K8 hE hI Tryz.func17 (by kernel_rfl) (by kernel_rfl) (by kernel_rfl) rfl (fun w0 ds hp=>AW (by kernel_rfl))
def X6:bd:=(17,.con Zr)::(26,.con XO)::(27,.con Xw)::Dp
theorem Z7:aR Tryz.prog eqs its X6:=.con abi (.con aeK (.con adx (Bo)))
section
variable (n0:Nat) (f0:ah) (n2:Nat) (f2:ah) (x4:Int) (n5:Nat) (f5:ah) (n7:Nat) (f7:ah) (n9:Nat) (f9:ah) (n11:Nat) (f11:ah) (n13:Nat) (f13:ah) (n15:Nat) (f15:ah) (x17 x18 x19 x20:Int)
include n0 f0 n2 f2 x4 n5 f5 n7 f7 n9 f9 n11 f11 n13 f13 n15 f15 x17 x18 x19 x20
def LI:RT Empty:=.obp (aE n0 (aa al f0)/\aE n2 (aa am f2)/\aE n5 (aa bF f5)/\aE n11 (aa aT f11)) (.obt (.obp (aE n0 (aa al f0)/\aE n2 (aa am f2)/\aE n5 (aa bF f5)/\aE n11 (aa aT f11)) (.obt (.obi (.obi (.obi (.br (bif rX (lB (kE n0 (aa al f0) n2 (aa am f2) x4 n5 (aa bF f5) n7 (aa ce f7) n9 (aa ci f9) n11 (aa aT f11) n13 (aa ae f13) n15 (aa bG f15)) x17 x18 x19 x20) (dU n0 (aa al f0) n2 (aa am f2) (aa aT f11) (aa ae f13) (aa bG f15) x17 x18 x19 x20 n13) == rX (lB (kE n0 (aa al f0) n2 (aa am f2) x4 n5 (aa bF f5) n7 (aa ce f7) n9 (aa ci f9) n11 (aa aT f11) n13 (aa ae f13) n15 (aa bG f15)) x17 x18 x19 x20) (dU n0 (aa al f0) n2 (aa am f2) (aa aT f11) (aa ae f13) (aa bG f15) x17 x18 x19 x20 n13) && (rX (lB (kE n0 (aa al f0) n2 (aa am f2) x4 n5 (aa bF f5) n7 (aa ce f7) n9 (aa ci f9) n11 (aa aT f11) n13 (aa ae f13) n15 (aa bG f15)) x17 x18 x19 x20) (dT n0 (aa al f0) n2 (aa am f2) (aa aT f11) (aa ae f13) (aa bG f15) x17 x18 x19 x20 n13) == rX (lB (kE n0 (aa al f0) n2 (aa am f2) x4 n5 (aa bF f5) n7 (aa ce f7) n9 (aa ci f9) n11 (aa aT f11) n13 (aa ae f13) n15 (aa bG f15)) x17 x18 x19 x20) (dT n0 (aa al f0) n2 (aa am f2) (aa aT f11) (aa ae f13) (aa bG f15) x17 x18 x19 x20 n13) && true) then lB (kE n0 (aa al f0) n2 (aa am f2) x4 n5 (aa bF f5) n7 (aa ce f7) n9 (aa ci f9) n11 (aa aT f11) n13 (aa ae f13) n15 (aa bG f15)) x17 x18 x19 x20 == lB (kE n0 (aa al f0) n2 (aa am f2) x4 n5 (aa bF f5) n7 (aa ce f7) n9 (aa ci f9) n11 (aa aT f11) n13 (aa ae f13) n15 (aa bG f15)) x17 x18 x19 x20 else false) (.obc (.obt (.ret (V.bool true)))) (.ret (V.kb false)))))))))
theorem R4:dh dm (aS JJ X6 u0 ahR [V.agg [V.sl n0 (aa al f0),V.sl n2 (aa am f2),vi x4,V.sl n5 (aa bF f5),V.sl n7 (aa ce f7),V.sl n9 (aa ci f9),V.sl n11 (aa aT f11),V.sl n13 (aa ae f13),V.sl n15 (aa bG f15)],V.agg [vi x17,vi x18,vi x19,vi x20]]) (LI n0 f0 n2 f2 x4 n5 f5 n7 f7 n9 f9 n11 f11 n13 f13 n15 f15 x17 x18 x19 x20):=⟨by kernel_rfl,by kernel_rfl⟩
def qa:Bool:=bif bif rX (lB (kE n0 (aa al f0) n2 (aa am f2) x4 n5 (aa bF f5) n7 (aa ce f7) n9 (aa ci f9) n11 (aa aT f11) n13 (aa ae f13) n15 (aa bG f15)) x17 x18 x19 x20) (dU n0 (aa al f0) n2 (aa am f2) (aa aT f11) (aa ae f13) (aa bG f15) x17 x18 x19 x20 n13) == rX (lB (kE n0 (aa al f0) n2 (aa am f2) x4 n5 (aa bF f5) n7 (aa ce f7) n9 (aa ci f9) n11 (aa aT f11) n13 (aa ae f13) n15 (aa bG f15)) x17 x18 x19 x20) (dU n0 (aa al f0) n2 (aa am f2) (aa aT f11) (aa ae f13) (aa bG f15) x17 x18 x19 x20 n13) && (rX (lB (kE n0 (aa al f0) n2 (aa am f2) x4 n5 (aa bF f5) n7 (aa ce f7) n9 (aa ci f9) n11 (aa aT f11) n13 (aa ae f13) n15 (aa bG f15)) x17 x18 x19 x20) (dT n0 (aa al f0) n2 (aa am f2) (aa aT f11) (aa ae f13) (aa bG f15) x17 x18 x19 x20 n13) == rX (lB (kE n0 (aa al f0) n2 (aa am f2) x4 n5 (aa bF f5) n7 (aa ce f7) n9 (aa ci f9) n11 (aa aT f11) n13 (aa ae f13) n15 (aa bG f15)) x17 x18 x19 x20) (dT n0 (aa al f0) n2 (aa am f2) (aa aT f11) (aa ae f13) (aa bG f15) x17 x18 x19 x20 n13) && true) then lB (kE n0 (aa al f0) n2 (aa am f2) x4 n5 (aa bF f5) n7 (aa ce f7) n9 (aa ci f9) n11 (aa aT f11) n13 (aa ae f13) n15 (aa bG f15)) x17 x18 x19 x20 == lB (kE n0 (aa al f0) n2 (aa am f2) x4 n5 (aa bF f5) n7 (aa ce f7) n9 (aa ci f9) n11 (aa aT f11) n13 (aa ae f13) n15 (aa bG f15)) x17 x18 x19 x20 else false then true else false
def C0:V:=.bool (qa n0 f0 n2 f2 x4 n5 f5 n7 f7 n9 f9 n11 f11 n13 f13 n15 f15 x17 x18 x19 x20)
theorem adE (hp:aE n0 f0/\aE n2 f2/\aE n5 f5/\aE n11 f11):aN cr (LI n0 f0 n2 f2 x4 n5 f5 n7 f7 n9 f9 n11 f11 n13 f13 n15 f15 x17 x18 x19 x20) (C0 n0 f0 n2 f2 x4 n5 f5 n7 f7 n9 f9 n11 f11 n13 f13 n15 f15 x17 x18 x19 x20):=aC (by first | assumption | (exact hp)) (af (aC (by first | assumption | (exact hp)) (af (evObi (evObi (evObi (evBr (fun h0=>av (af (evRet (by unfold C0 qa; try rw [h0]; rfl)))) (fun h0=>evRet (by unfold C0 qa; try rw [h0]; rfl)))))))))
theorem Ss:qa n0 f0 n2 f2 x4 n5 f5 n7 f7 n9 f9 n11 f11 n13 f13 n15 f15 x17 x18 x19 x20=true:=by
 unfold qa
 simp only [BEq.rfl,bne_self_eq_false,cond_true,cond_false,Bool.and_self,Bool.not_true,Bool.and_true]
theorem Tn (hp:aE n0 f0/\aE n2 f2/\aE n5 f5/\aE n11 f11):aN cr (LI n0 f0 n2 f2 x4 n5 f5 n7 f7 n9 f9 n11 f11 n13 f13 n15 f15 x17 x18 x19 x20) (.bool true):=by
 have h:=adE n0 f0 n2 f2 x4 n5 f5 n7 f7 n9 f9 n11 f11 n13 f13 n15 f15 x17 x18 x19 x20 hp
 unfold C0 at h
 rw [Ss n0 f0 n2 f2 x4 n5 f5 n7 f7 n9 f9 n11 f11 n13 f13 n15 f15 x17 x18 x19 x20] at h
 exact h
end
def tys1007:List Ty:=[.agg [.sl al,.sl am,tI,.sl bF,.sl ce,.sl ci,.sl aT,.sl ae,.sl bG],.agg iu]
theorem ok1007:(vP (lawC tys1007)).Ok Tryz.prog 7:=bY Z7 Tryz.func7 (by kernel_rfl) fun ds hp=>dG (R4 ..) (Tn _ _ _ _ _ _ _ _ _ _ _ _ _ _ _ _ _ _ _ _ _ (by have h:fT [.agg [.sl al,.sl am,tI,.sl bF,.sl ce,.sl ci,.sl aT,.sl ae,.sl bG],.agg iu] _:=hp; exact ⟨fun i hi=>(h.1.1 i hi).1,fun i hi=>(h.1.2.1 i hi).1,fun i hi=>(h.1.2.2.2.1 i hi).1,fun i hi=>(h.1.2.2.2.2.2.2.1 i hi).1⟩))
end
end Go.Dx
