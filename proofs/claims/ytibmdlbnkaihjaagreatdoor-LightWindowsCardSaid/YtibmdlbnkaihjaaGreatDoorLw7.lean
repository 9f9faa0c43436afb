/- Part 7 of a proof. No conditions. -/
import Derived.Test.YtibmdlbnkaihjaaGreatDoorLw6
set_option maxRecDepth 100000
set_option linter.unusedVariables false
set_option linter.unusedSimpArgs false
namespace Go.Dx
open Go.IntKind (i64 u64 u8)
open Go.Sx Go.Proofs
variable (n0:Nat) (f0:aN) (x0 x1:Int) (n2:Nat) (f2:aN) (x2 x3 x4:Int) (n5:Nat) (f5:aN) (x5 x6:Int) (n7:Nat) (f7:aN) (x7 x8:Int) (n9:Nat) (f9:aN) (x9 x10:Int) (n11:Nat) (f11:aN) (x11 x12:Int) (n13:Nat) (f13:aN) (n15:Nat) (f15:aN) (x17 x18:Int) (s18:ByteArray) (x19 x20 x21 x22 x23 x24 x25 x26 x27 x28 x29:Int)
noncomputable section
def M0:bj:=(231,.con ZI)::B1
theorem KZ:aW Tryz.prog eqs its M0:=.con af6 (NO)
def sW:RT Empty:=.ob (dI x4 n2) (.cb (.ob (dI (aQ (f2 x4.toNat)) n0) (.obp (((2:Nat)<=au (ap (ab (f0 (aQ (f2 x4.toNat)).toNat)))/\au (ap (ab (f0 (aQ (f2 x4.toNat)).toNat)))<=(1000:Nat))/\((2:Nat)<=au (ap (ab (ab (f0 (aQ (f2 x4.toNat)).toNat))))/\au (ap (ab (ab (f0 (aQ (f2 x4.toNat)).toNat))))<=(1000:Nat))/\au (ap (ab (f0 (aQ (f2 x4.toNat)).toNat)))<=au (ap (ab (ab (ab (f0 (aQ (f2 x4.toNat)).toNat)))))/\(∀ (i:Nat),i<au (ap (ab (ab (ab (f0 (aQ (f2 x4.toNat)).toNat)))))->au (ap (ab (ab (f0 (aQ (f2 x4.toNat)).toNat))))<=au (ap (aX (ap (ab (ab (ab (f0 (aQ (f2 x4.toNat)).toNat))))) i)))/\(∀ (i:Nat),i+(1:Nat)<au (ap (ab (f0 (aQ (f2 x4.toNat)).toNat)))->wI (wI (ar (aX (ap (ab (f0 (aQ (f2 x4.toNat)).toNat))) (i+(1:Nat)))-ar (aX (ap (ab (f0 (aQ (f2 x4.toNat)).toNat))) i))*x12)≠(0:Int))/\∀ (i:Nat),i+(1:Nat)<au (ap (ab (ab (f0 (aQ (f2 x4.toNat)).toNat))))->wI (wI (ar (aX (ap (ab (ab (f0 (aQ (f2 x4.toNat)).toNat)))) (i+(1:Nat)))-ar (aX (ap (ab (ab (f0 (aQ (f2 x4.toNat)).toNat)))) i))*x12)≠(0:Int)) (.obt (.obp (nz 1000) (.obt (.obp (nz 1000) (.obt (.ret (V.tup [V.agg [vi (cw (wI (gR (au (ap (ab (f0 (aQ (f2 x4.toNat)).toNat)))) (fun i=>al ae (aX (ap (ab (f0 (aQ (f2 x4.toNat)).toNat))) i)) (au (ap (ab (ab (f0 (aQ (f2 x4.toNat)).toNat))))) (fun i=>al ae (aX (ap (ab (ab (f0 (aQ (f2 x4.toNat)).toNat)))) i)) (fun i=>al [Ty.sl ae] (aX (ap (ab (ab (ab (f0 (aQ (f2 x4.toNat)).toNat))))) i)) (db (f0 (aQ (f2 x4.toNat)).toNat)) x8 x9 x10 x11 x12*iT (bW (f2 x4.toNat)) (bf (ab (ab (ab (f2 x4.toNat))))) (bf (ab (ab (ab (ab (ab (f2 x4.toNat))))))) x5 x6 x7)) 1000),vi (cX (wI (gT (au (ap (ab (f0 (aQ (f2 x4.toNat)).toNat)))) (fun i=>al ae (aX (ap (ab (f0 (aQ (f2 x4.toNat)).toNat))) i)) (au (ap (ab (ab (f0 (aQ (f2 x4.toNat)).toNat))))) (fun i=>al ae (aX (ap (ab (ab (f0 (aQ (f2 x4.toNat)).toNat)))) i)) (fun i=>al [Ty.sl ae] (aX (ap (ab (ab (ab (f0 (aQ (f2 x4.toNat)).toNat))))) i)) (db (f0 (aQ (f2 x4.toNat)).toNat)) x8 x9 x10 x11 x12*iZ (bW (f2 x4.toNat)) (bf (ab (ab (f2 x4.toNat)))) (bf (ab (ab (ab (ab (f2 x4.toNat)))))) x5 x6 x7)) 1000)],vi 0]))))))))))
def Hy:RT Empty:=.cb (.br (d4 x8 x9 x10 x11 x12 != 0) (.ret (V.tup [V.agg [vi 0,vi 0],vi (d4 x8 x9 x10 x11 x12)])) (sW n0 f0 n2 f2 x4 x5 x6 x7 x8 x9 x10 x11 x12))
def Z7:RT Empty:=.obp ((yaa n0 f0)/\yaa n2 f2) (.obt (.br (bA n0 (aa ak f0) n2 (aa ah f2) x4==0) (.cb (.br (dt x5 x6 x7==0) (Hy n0 f0 n2 f2 x4 x5 x6 x7 x8 x9 x10 x11 x12) (.br (dt x5 x6 x7 != 0) (.ret (V.tup [V.agg [vi 0,vi 0],vi (dt x5 x6 x7)])) (sW n0 f0 n2 f2 x4 x5 x6 x7 x8 x9 x10 x11 x12)))) (.br (bA n0 (aa ak f0) n2 (aa ah f2) x4==0) (Hy n0 f0 n2 f2 x4 x5 x6 x7 x8 x9 x10 x11 x12) (.br (bA n0 (aa ak f0) n2 (aa ah f2) x4 != 0) (.ret (V.tup [V.agg [vi 0,vi 0],vi (bA n0 (aa ak f0) n2 (aa ah f2) x4)])) (sW n0 f0 n2 f2 x4 x5 x6 x7 x8 x9 x10 x11 x12)))))
theorem Wd:cJ cL (aP JJ M0 u0 ahq [V.agg [V.sl n0 (aa ak f0),V.sl n2 (aa ah f2)],vi x4,V.agg [vi x5,vi x6,vi x7],V.agg [vi x8,vi x9,vi x10,vi x11],vi x12]) (Z7 n0 f0 n2 f2 x4 x5 x6 x7 x8 x9 x10 x11 x12):=⟨by kernel_rfl,by kernel_rfl⟩
def ZJ (x:List V) (a c d e h:Int):Int:=gR (au (ap (ab x))) (aX (ap (ab x))) (au (ap (ab (ab x)))) (aX (ap (ab (ab x)))) (tR x) (db x) a c d e h
def aa0 (x:List V) (a c d e h:Int):Int:=gT (au (ap (ab x))) (aX (ap (ab x))) (au (ap (ab (ab x)))) (aX (ap (ab (ab x)))) (tR x) (db x) a c d e h
def Lh:Int:=bif bA n0 f0 n2 f2 x4==0 then bif dt x5 x6 x7==0 then d4 x8 x9 x10 x11 x12 else dt x5 x6 x7 else bA n0 f0 n2 f2 x4
def dwL:Int:=dm (n0,n2) (cw (wI (ZJ (f0 (aQ (f2 x4.toNat)).toNat) x8 x9 x10 x11 x12*iT (bW (f2 x4.toNat)) (bf (ab (ab (ab (f2 x4.toNat))))) (bf (ab (ab (ab (ab (ab (f2 x4.toNat))))))) x5 x6 x7)) 1000)
def dwH:Int:=dm (n0,n2) (cX (wI (aa0 (f0 (aQ (f2 x4.toNat)).toNat) x8 x9 x10 x11 x12*iZ (bW (f2 x4.toNat)) (bf (ab (ab (f2 x4.toNat)))) (bf (ab (ab (ab (ab (f2 x4.toNat)))))) x5 x6 x7)) 1000)
def jW:Int:=bif Lh n0 f0 n2 f2 x4 x5 x6 x7 x8 x9 x10 x11 x12==0 then dwL n0 f0 n2 f2 x4 x5 x6 x7 x8 x9 x10 x11 x12 else 0
def gU:Int:=bif Lh n0 f0 n2 f2 x4 x5 x6 x7 x8 x9 x10 x11 x12==0 then dwH n0 f0 n2 f2 x4 x5 x6 x7 x8 x9 x10 x11 x12 else 0
def km:Int:=Lh n0 f0 n2 f2 x4 x5 x6 x7 x8 x9 x10 x11 x12
theorem afJ (hp:yaa n0 (aa ak f0)/\yaa n2 (aa ah f2)):aR cq (Z7 n0 f0 n2 f2 x4 x5 x6 x7 x8 x9 x10 x11 x12) (.tup [.agg [vi (jW n0 (aa ak f0) n2 (aa ah f2) x4 x5 x6 x7 x8 x9 x10 x11 x12),vi (gU n0 (aa ak f0) n2 (aa ah f2) x4 x5 x6 x7 x8 x9 x10 x11 x12)],vi (km n0 (aa ak f0) n2 (aa ah f2) x4 x5 x6 x7 x8 x9 x10 x11 x12)]):=by
 have bad:∀ {e:Int},Lh n0 (aa ak f0) n2 (aa ah f2) x4 x5 x6 x7 x8 x9 x10 x11 x12=e->e≠0->aR cq (.ret (V.tup [V.agg [vi 0,vi 0],vi e])) (.tup [.agg [vi (jW n0 (aa ak f0) n2 (aa ah f2) x4 x5 x6 x7 x8 x9 x10 x11 x12),vi (gU n0 (aa ak f0) n2 (aa ah f2) x4 x5 x6 x7 x8 x9 x10 x11 x12)],vi (km n0 (aa ak f0) n2 (aa ah f2) x4 x5 x6 x7 x8 x9 x10 x11 x12)]):=fun h h0=>evRet (by
  unfold jW gU km;rw[h,show(_==(0:Int))=false from by simpa using h0];rfl)
 have L1:bA n0 (aa ak f0) n2 (aa ah f2) x4=0->dt x5 x6 x7=0->d4 x8 x9 x10 x11 x12=0->aR cq (sW n0 f0 n2 f2 x4 x5 x6 x7 x8 x9 x10 x11 x12) (.tup [.agg [vi (jW n0 (aa ak f0) n2 (aa ah f2) x4 x5 x6 x7 x8 x9 x10 x11 x12),vi (gU n0 (aa ak f0) n2 (aa ah f2) x4 x5 x6 x7 x8 x9 x10 x11 x12)],vi (km n0 (aa ak f0) n2 (aa ah f2) x4 x5 x6 x7 x8 x9 x10 x11 x12)]):=fun h0 hw hr=>by
  have ht:Lh n0 (aa ak f0) n2 (aa ah f2) x4 x5 x6 x7 x8 x9 x10 x11 x12=0:=by unfold Lh;rw[h0,hw,hr];rfl
  have hb:=afr h0
  have tb:=Cw hb.2.2
  have up:=aeW hb.2.2
  have hH:1<=x12/\x12<=30000:=by
   unfold d4 at hr
   cases hh:aA x12 1 30000 with
   |true=>exact zj hh
   |false=>rw[hh]at hr;cases hr
  have vw:=aow (H:=x12) tb up.1 up.2 hH
  exact aE (dqt hb.1) (aw (evObt (aE (dqt hb.2.1) (evObp vw (evObt (evObp (by decide) (evObt (evObp (by decide) (evObt (evRet (by
   unfold jW gU km;rw[ht];rfl)))))))))))
 refine evObp hp (evObt (evBr (fun h=>aw (evObt (evBr (fun h2=>aw (evObt (evBr (fun h3=>?_) (fun h3=>L1 (eq_of_beq h) (eq_of_beq h2) (by simpa using h3))))) (fun h2=>evBr (fun h3=>?_) (fun h3=>?_))))) (fun h=>evBr (fun h2=>?_) (fun h2=>evBr (fun h3=>?_) (fun h3=>?_)))))
 ·exact bad (by unfold Lh;rw[h,h2];rfl) (by simpa using h3)
 ·exact bad (by unfold Lh;rw[h,h2];rfl) (by simpa using h3)
 ·exact absurd (by simpa using h3:dt x5 x6 x7=0) (by simpa using h2)
 ·exact absurd h2 (by rw[h];decide)
 ·exact bad (by unfold Lh;rw[h];rfl) (by simpa using h3)
 ·exact absurd (by simpa using h3:bA n0 (aa ak f0) n2 (aa ah f2) x4=0) (by simpa using h)
def YF:aB:=bF [.agg [.sl ak,.sl ah],tI,.agg bQ,.agg je,tI] (fun
 |[.agg [.sl n0 f0,.sl n2 f2],.int _ x4,.agg [.int _ x5,.int _ x6,.int _ x7],.agg [.int _ x8,.int _ x9,.int _ x10,.int _ x11],.int _ x12]=>yaa n0 f0/\yaa n2 f2
 |_=>False) fun
 |[.agg [.sl n0 f0,.sl n2 f2],.int _ x4,.agg [.int _ x5,.int _ x6,.int _ x7],.agg [.int _ x8,.int _ x9,.int _ x10,.int _ x11],.int _ x12]=>.tup [.agg [vi (jW n0 f0 n2 f2 x4 x5 x6 x7 x8 x9 x10 x11 x12),vi (gU n0 f0 n2 f2 x4 x5 x6 x7 x8 x9 x10 x11 x12)],vi (km n0 f0 n2 f2 x4 x5 x6 x7 x8 x9 x10 x11 x12)]
 |_=>.any
theorem af3:(vP YF).Ok Tryz.prog 175:=bV KZ Tryz.func175 (by kernel_rfl) fun ds hp=>cQ (Wd ..) (afJ _ _ _ _ _ _ _ _ _ _ _ _ _ hp)
theorem pL (x:Int):bM n0 f0 n2 f2 x=bA n0 f0 n2 f2 x:=by
 have c:bI n0 (aa ak f0) n2 (aa ah f2)=cg n0 (aa ak f0) n2 (aa ah f2):=congrArg (fun p=>p.2.2) (nu n0 (aa ak f0) n2 (aa ah f2))
 unfold bM bA
 rw [c]
 generalize cg n0 (aa ak f0) n2 (aa ah f2)=e
 by_cases he:e=0
 ·subst he;rfl
 ·rw[show(e != 0)=true from by simpa using he,show(e==0)=false from by simpa using he];rfl
theorem yC (a b c:Int):(bif eV a b c then(7:Int) else 0)=dt a b c:=by
 unfold eV dt
 have h:∀ x l u,av x l u=aA x l u:=fun _ _ _=>rfl
 rw [h,h,h]
 cases aA a 0 200000<;>cases aA b 0 600<;>cases aA c 0 1000<;>rfl
def BF (S:Int->Int->Prop) (g0 g1:Int->Int->Int) (o:Int×Int):Prop:=(∃ u v,S u v/\g0 u v=o.1)/\∃ u v,S u v/\g1 u v=o.2
def rn (g0 g1:Int->Int->Int) (u v:Int) (o:Int×Int):Prop:=o.1<=g0 u v/\g1 u v<=o.2
def zk (a b:Int×Int):Prop:=a.1<=b.1/\b.2<=a.2
theorem zk.refl (a:Int×Int):zk a a:=⟨Int.le_refl _,Int.le_refl _⟩
theorem zk.trans {a b c:Int×Int} (h:zk a b) (k:zk b c):zk a c:=⟨Int.le_trans h.1 k.1,Int.le_trans k.2 h.2⟩
theorem rn.le {g0 g1:Int->Int->Int} {u v:Int} {o p:Int×Int} (h:rn g0 g1 u v o) (k:zk p o):rn g0 g1 u v p:=⟨Int.le_trans k.1 h.1,Int.le_trans h.2 k.2⟩
theorem amY {S:Int->Int->Prop} {g0 g1:Int->Int->Int} {a b:Int×Int} (h:BF S g0 g1 a) (c:∀ u v,S u v->rn g0 g1 u v a) (k:BF S g0 g1 b) (d:∀ u v,S u v->rn g0 g1 u v b):a=b:=by
 obtain ⟨⟨u,v,s,e⟩,⟨p,q,t,f⟩⟩:=h
 obtain ⟨⟨u',v',s',e'⟩,⟨p',q',t',f'⟩⟩:=k
 have h1:=(d u v s).1
 have h2:=(c u' v' s').1
 have h3:=(d p q t).2
 have h4:=(c p' q' t').2
 have x1:a.1=b.1:=by omega
 have x2:a.2=b.2:=by omega
 exact Prod.ext x1 x2
theorem pD {S:Int->Int->Prop} {g0 g1:Int->Int->Int} {o:Int×Int} {u v:Int} (h:BF S g0 g1 o) (s:S u v):BF S g0 g1 (min o.1 (g0 u v),max o.2 (g1 u v)):=by
 obtain ⟨⟨a,b,s1,e1⟩,⟨c,d,s2,e2⟩⟩:=h
 refine ⟨?_,?_⟩
 ·show ∃ u' v',S u' v'/\g0 u' v'=min o.1 (g0 u v)
  rw [Int.min_def]
  split
  ·exact⟨a,b,s1,e1⟩
  ·exact⟨u,v,s,rfl⟩
 ·show ∃ u' v',S u' v'/\g1 u' v'=max o.2 (g1 u v)
  rw [Int.max_def]
  split
  ·exact⟨u,v,s,rfl⟩
  ·exact⟨c,d,s2,e2⟩
theorem G5 {g0 g1:Int->Int->Int} {o:Int×Int} {u v:Int}:zk (min o.1 (g0 u v),max o.2 (g1 u v)) o/\rn g0 g1 u v (min o.1 (g0 u v),max o.2 (g1 u v)) :=
 ⟨⟨Int.min_le_left _ _,Int.le_max_left _ _⟩,⟨Int.min_le_right _ _,Int.le_max_right _ _⟩⟩
section
variable (f5:aN) (x7:Int) (n9:Nat) (f9:aN) (n11:Nat) (f11:aN)
def Jg (n:Nat) (f:Nat->List V) (a b u:Int):Prop:=u=a∨u=b∨∃ j,j<n/\zX a b (ar (f j))=true/\u=ar (f j)
theorem Dc {S:Int->Int->Prop} {u v:Int} {o:Int×Int} (h:BF S (bc f5 n9 f9 n11 f11) (be f5 x7 n9 f9 n11 f11) o) (s:bk n9 f9 n11 f11 u v=true->S u v):BF S (bc f5 n9 f9 n11 f11) (be f5 x7 n9 f9 n11 f11) (K3 f5 x7 n9 f9 n11 f11 u v o):=by
 cases hb:bk n9 f9 n11 f11 u v with
 |true=>rw[oh hb];exact pD h (s hb)
 |false=>rw[qB hb];exact h
theorem tQ (u v:Int) (o:Int×Int):zk (K3 f5 x7 n9 f9 n11 f11 u v o) o:=by
 cases hb:bk n9 f9 n11 f11 u v with
 |true=>rw[oh hb];exact(G5 (g0:=bc f5 n9 f9 n11 f11) (g1:=be f5 x7 n9 f9 n11 f11)).1
 |false=>rw[qB hb];exact zk.refl o
theorem CY (u v:Int) (o:Int×Int) (hb:bk n9 f9 n11 f11 u v=true):rn (bc f5 n9 f9 n11 f11) (be f5 x7 n9 f9 n11 f11) u v (K3 f5 x7 n9 f9 n11 f11 u v o):=by
 rw [oh hb];exact(G5 (g0:=bc f5 n9 f9 n11 f11) (g1:=be f5 x7 n9 f9 n11 f11)).2
theorem tf {y0 y1 u:Int} {o:Int×Int}:∀ k,k<=n11 ->
 (∀ S:Int->Int->Prop,BF S (bc f5 n9 f9 n11 f11) (be f5 x7 n9 f9 n11 f11) o->(∀ v,Jg n11 f11 y0 y1 v->bk n9 f9 n11 f11 u v=true->S u v)->BF S (bc f5 n9 f9 n11 f11) (be f5 x7 n9 f9 n11 f11) (zW f5 x7 n9 f9 n11 f11 y0 y1 u o k)) /\
 zk (zW f5 x7 n9 f9 n11 f11 y0 y1 u o k) o /\
 ∀ j,j<k->zX y0 y1 (ar (f11 j))=true->bk n9 f9 n11 f11 u (ar (f11 j))=true->rn (bc f5 n9 f9 n11 f11) (be f5 x7 n9 f9 n11 f11) u (ar (f11 j)) (zW f5 x7 n9 f9 n11 f11 y0 y1 u o k)
 |0,_=>⟨fun S h _=>h,zk.refl o,fun j hj=>absurd hj (Nat.not_lt_zero j)⟩
 | k + 1,hk=>by
   obtain ⟨h1,h2,h3⟩:=tf (y0:=y0) (y1:=y1) (u:=u) (o:=o) k (by omega)
   cases hb:zX y0 y1 (ar (f11 k)) with
   | false =>
     rw [GN hb]
     refine ⟨h1,h2,fun j hj a b=>?_⟩
     rcases Nat.lt_succ_iff_lt_or_eq.1 hj with h|h
     ·exact h3 j h a b
     ·subst h;rw[hb]at a;cases a
   | true =>
     rw [ue hb]
     refine ⟨fun S h s=>Dc f5 x7 n9 f9 n11 f11 (h1 S h s) (s _ (.inr (.inr ⟨k,by omega,hb,rfl⟩))),zk.trans (tQ ..) h2,fun j hj a b=>?_⟩
     rcases Nat.lt_succ_iff_lt_or_eq.1 hj with h|h
     ·exact rn.le (h3 j h a b) (tQ ..)
     ·subst h;exact CY _ _ _ _ _ _ _ _ _ b
theorem vp {y0 y1 u:Int} {o:Int×Int} {S:Int->Int->Prop} (h:BF S (bc f5 n9 f9 n11 f11) (be f5 x7 n9 f9 n11 f11) o) (s:∀ v,Jg n11 f11 y0 y1 v->bk n9 f9 n11 f11 u v=true->S u v):BF S (bc f5 n9 f9 n11 f11) (be f5 x7 n9 f9 n11 f11) (UW f5 x7 n9 f9 n11 f11 y0 y1 u o) :=
 (tf f5 x7 n9 f9 n11 f11 n11 (Nat.le_refl _)).1 S (Dc _ _ _ _ _ _ (Dc _ _ _ _ _ _ h (s _ (.inl rfl))) (s _ (.inr (.inl rfl)))) s
theorem t8 (y0 y1 u:Int) (o:Int×Int):zk (UW f5 x7 n9 f9 n11 f11 y0 y1 u o) o :=
 zk.trans (tf f5 x7 n9 f9 n11 f11 n11 (Nat.le_refl _)).2.1 (zk.trans (tQ ..) (tQ ..))
theorem CU {y0 y1 u v:Int} {o:Int×Int} (hv:Jg n11 f11 y0 y1 v) (hb:bk n9 f9 n11 f11 u v=true):rn (bc f5 n9 f9 n11 f11) (be f5 x7 n9 f9 n11 f11) u v (UW f5 x7 n9 f9 n11 f11 y0 y1 u o):=by
 have k:=tf f5 x7 n9 f9 n11 f11 (y0:=y0) (y1:=y1) (u:=u) (o:=C1 f5 x7 n9 f9 n11 f11 y0 y1 u o) n11 (Nat.le_refl _)
 rcases hv with h|h|⟨j,hj,a,e⟩
 ·subst h;exact rn.le (rn.le (CY _ _ _ _ _ _ _ _ _ hb) (tQ ..)) k.2.1
 ·subst h;exact rn.le (CY _ _ _ _ _ _ _ _ _ hb) k.2.1
 ·subst e;exact k.2.2 j hj a hb
def vD (x0 x1 y0 y1 u v:Int):Prop:=((u=x0∨u=x1)/\(v=y0∨v=y1))∨(Jg n9 f9 x0 x1 u/\Jg n11 f11 y0 y1 v/\bk n9 f9 n11 f11 u v=true)
theorem yw {x0 x1 y0 y1:Int} {o:Int×Int} (ho:BF (vD n9 f9 n11 f11 x0 x1 y0 y1) (bc f5 n9 f9 n11 f11) (be f5 x7 n9 f9 n11 f11) o):∀ k,k<=n9 ->
 BF (vD n9 f9 n11 f11 x0 x1 y0 y1) (bc f5 n9 f9 n11 f11) (be f5 x7 n9 f9 n11 f11) (CC f5 x7 n9 f9 n11 f11 x0 x1 y0 y1 o k) /\
 zk (CC f5 x7 n9 f9 n11 f11 x0 x1 y0 y1 o k) o /\
 ∀ j,j<k->zX x0 x1 (ar (f9 j))=true->∀ v,Jg n11 f11 y0 y1 v->bk n9 f9 n11 f11 (ar (f9 j)) v=true->rn (bc f5 n9 f9 n11 f11) (be f5 x7 n9 f9 n11 f11) (ar (f9 j)) v (CC f5 x7 n9 f9 n11 f11 x0 x1 y0 y1 o k)
 |0,_=>⟨ho,zk.refl o,fun j hj=>absurd hj (Nat.not_lt_zero j)⟩
 | k + 1,hk=>by
   obtain ⟨h1,h2,h3⟩:=yw ho k (by omega)
   cases hb:zX x0 x1 (ar (f9 k)) with
   | false =>
     rw [XZ hb]
     refine ⟨h1,h2,fun j hj a v hv b=>?_⟩
     rcases Nat.lt_succ_iff_lt_or_eq.1 hj with h|h
     ·exact h3 j h a v hv b
     ·subst h;rw[hb]at a;cases a
   | true =>
     rw [aaR hb]
     refine ⟨vp _ _ _ _ _ _ h1 (fun v hv hh=>.inr ⟨.inr (.inr ⟨k,by omega,hb,rfl⟩),hv,hh⟩),zk.trans (t8 ..) h2,fun j hj a v hv b=>?_⟩
     rcases Nat.lt_succ_iff_lt_or_eq.1 hj with h|h
     ·exact rn.le (h3 j h a v hv b) (t8 ..)
     ·subst h;exact CU _ _ _ _ _ _ hv b
theorem O0 (x0 x1 y0 y1:Int):BF (vD n9 f9 n11 f11 x0 x1 y0 y1) (bc f5 n9 f9 n11 f11) (be f5 x7 n9 f9 n11 f11) (ovH f5 x7 n9 f9 n11 f11 x0 x1 y0 y1) :=
 have a:BF (vD n9 f9 n11 f11 x0 x1 y0 y1) (bc f5 n9 f9 n11 f11) (be f5 x7 n9 f9 n11 f11) (bc f5 n9 f9 n11 f11 x0 y0,be f5 x7 n9 f9 n11 f11 x0 y0):=⟨⟨x0,y0,.inl ⟨.inl rfl,.inl rfl⟩,rfl⟩,⟨x0,y0,.inl ⟨.inl rfl,.inl rfl⟩,rfl⟩⟩
 pD (pD (pD a (.inl ⟨.inl rfl,.inr rfl⟩)) (.inl ⟨.inr rfl,.inl rfl⟩)) (.inl ⟨.inr rfl,.inr rfl⟩)
theorem af2 {x0 x1 y0 y1 u v:Int} (hu:u=x0∨u=x1) (hv:v=y0∨v=y1):rn (bc f5 n9 f9 n11 f11) (be f5 x7 n9 f9 n11 f11) u v (ovH f5 x7 n9 f9 n11 f11 x0 x1 y0 y1):=by
 unfold rn ovH
 rcases hu with rfl|rfl<;>rcases hv with rfl|rfl<;>dsimp only<;>omega
theorem aeg (x0 x1 y0 y1:Int):BF (vD n9 f9 n11 f11 x0 x1 y0 y1) (bc f5 n9 f9 n11 f11) (be f5 x7 n9 f9 n11 f11) (ovA f5 x7 n9 f9 n11 f11 x0 x1 y0 y1) :=
 (yw f5 x7 n9 f9 n11 f11 (vp _ _ _ _ _ _ (vp _ _ _ _ _ _ (O0 ..) (fun v hv hh=>.inr ⟨.inl rfl,hv,hh⟩)) (fun v hv hh=>.inr ⟨.inr (.inl rfl),hv,hh⟩)) n9 (Nat.le_refl _)).1
theorem ae1 {x0 x1 y0 y1 u v:Int} (h:vD n9 f9 n11 f11 x0 x1 y0 y1 u v):rn (bc f5 n9 f9 n11 f11) (be f5 x7 n9 f9 n11 f11) u v (ovA f5 x7 n9 f9 n11 f11 x0 x1 y0 y1):=by
 have k:=yw f5 x7 n9 f9 n11 f11 (vp _ _ _ _ _ _ (vp _ _ _ _ _ _ (O0 f5 x7 n9 f9 n11 f11 x0 x1 y0 y1) (fun v hv hh=>.inr ⟨.inl rfl,hv,hh⟩)) (fun v hv hh=>.inr ⟨.inr (.inl rfl),hv,hh⟩)) n9 (Nat.le_refl _)
 rcases h with ⟨hu,hv⟩|⟨hu,hv,hb⟩
 ·exact rn.le (rn.le (rn.le (af2 _ _ _ _ _ _ hu hv) (t8 ..)) (t8 ..)) k.2.1
 ·rcases hu with h|h|⟨j,hj,a,e⟩
  ·subst h;exact rn.le (rn.le (CU _ _ _ _ _ _ hv hb) (t8 ..)) k.2.1
  ·subst h;exact rn.le (CU _ _ _ _ _ _ hv hb) k.2.1
  ·subst e;exact k.2.2 j hj a v hv hb
end
section
variable (n1:Nat) (f1:aN) (n3:Nat) (f3:aN) (f5:aN) (x7 x9 x10 x11 x12 x13:Int)
def sd (u v:Int):Prop:=∃ i k,i<(aS n1 f1 x9 x10 x13).length/\k<(aS n3 f3 x11 x12 x13).length/\BI n1 f1 n3 f3 f5 x7 x9 x10 x11 x12 x13 i k=false/\u=ar (gw (aS n1 f1 x9 x10 x13) i)/\v=ar (gw (aS n3 f3 x11 x12 x13) k)
def dAt (S:Int->Int->Prop) (o:Bool×Int×Int):Prop:=o.1=true∨BF S (fun u v=>fI n1 f1 n3 f3 f5 u v x13) (fun u v=>fG n1 f1 n3 f3 f5 x7 u v x13) o.2
def dCv (u v:Int) (o:Bool×Int×Int):Prop:=o.1=false/\rn (fun u v=>fI n1 f1 n3 f3 f5 u v x13) (fun u v=>fG n1 f1 n3 f3 f5 x7 u v x13) u v o.2
theorem afL {S:Int->Int->Prop} {i k:Nat} {o:Bool×Int×Int} (h:dAt n1 f1 n3 f3 f5 x7 x13 S o) (s:BI n1 f1 n3 f3 f5 x7 x9 x10 x11 x12 x13 i k=false->S (ar (gw (aS n1 f1 x9 x10 x13) i)) (ar (gw (aS n3 f3 x11 x12 x13) k))):dAt n1 f1 n3 f3 f5 x7 x13 S (RO n1 f1 n3 f3 f5 x7 x9 x10 x11 x12 x13 i k o):=by
 unfold RO
 cases hk:BI n1 f1 n3 f3 f5 x7 x9 x10 x11 x12 x13 i k with
 |true=>exact h
 | false =>
   have s:=s hk
   cases hb:o.1 with
   |true=>exact .inr ⟨⟨_,_,s,(Int.min_self _).symm⟩,⟨_,_,s,(Int.max_self _).symm⟩⟩
   | false =>
     rcases h with h|h
     ·rw[hb]at h;cases h
     ·exact .inr (pD h s)
theorem AA {u v:Int} {i k:Nat} {o:Bool×Int×Int} (h:dCv n1 f1 n3 f3 f5 x7 x13 u v o):dCv n1 f1 n3 f3 f5 x7 x13 u v (RO n1 f1 n3 f3 f5 x7 x9 x10 x11 x12 x13 i k o):=by
 unfold RO
 cases hk:BI n1 f1 n3 f3 f5 x7 x9 x10 x11 x12 x13 i k with
 |true=>exact h
 | false =>
   rw [h.1]
   exact ⟨rfl,rn.le h.2 ⟨Int.min_le_left _ _,Int.le_max_left _ _⟩⟩
theorem agR {i k:Nat} {o:Bool×Int×Int} (hk:BI n1 f1 n3 f3 f5 x7 x9 x10 x11 x12 x13 i k=false):dCv n1 f1 n3 f3 f5 x7 x13 (ar (gw (aS n1 f1 x9 x10 x13) i)) (ar (gw (aS n3 f3 x11 x12 x13) k)) (RO n1 f1 n3 f3 f5 x7 x9 x10 x11 x12 x13 i k o):=by
 unfold RO
 rw [hk]
 cases hb:o.1 with
 |true=>exact⟨rfl,⟨Int.min_le_right _ _,Int.le_max_right _ _⟩⟩
 |false=>exact⟨rfl,⟨Int.min_le_right _ _,Int.le_max_right _ _⟩⟩
theorem HC {i:Nat} (hi:i<(aS n1 f1 x9 x10 x13).length) {o:Bool×Int×Int} (ho:dAt n1 f1 n3 f3 f5 x7 x13 (sd n1 f1 n3 f3 f5 x7 x9 x10 x11 x12 x13) o):∀ k,k<=(aS n3 f3 x11 x12 x13).length ->
 dAt n1 f1 n3 f3 f5 x7 x13 (sd n1 f1 n3 f3 f5 x7 x9 x10 x11 x12 x13) (IV n1 f1 n3 f3 f5 x7 x9 x10 x11 x12 x13 i o k) /\
 (∀ u v,dCv n1 f1 n3 f3 f5 x7 x13 u v o->dCv n1 f1 n3 f3 f5 x7 x13 u v (IV n1 f1 n3 f3 f5 x7 x9 x10 x11 x12 x13 i o k)) /\
 ∀ j,j<k->BI n1 f1 n3 f3 f5 x7 x9 x10 x11 x12 x13 i j=false->dCv n1 f1 n3 f3 f5 x7 x13 (ar (gw (aS n1 f1 x9 x10 x13) i)) (ar (gw (aS n3 f3 x11 x12 x13) j)) (IV n1 f1 n3 f3 f5 x7 x9 x10 x11 x12 x13 i o k)
 |0,_=>⟨ho,fun _ _ h=>h,fun j hj=>absurd hj (Nat.not_lt_zero j)⟩
 | k+1,hk=>by
   obtain ⟨h1,h2,h3⟩:=HC hi ho k (by omega)
   refine ⟨afL _ _ _ _ _ _ _ _ _ _ _ h1 (fun s=>⟨i,k,hi,by omega,s,rfl,rfl⟩),fun u v h=>AA _ _ _ _ _ _ _ _ _ _ _ (h2 u v h),fun j hj a=>?_⟩
   rcases Nat.lt_succ_iff_lt_or_eq.1 hj with h|h
   ·exact AA _ _ _ _ _ _ _ _ _ _ _ (h3 j h a)
   ·subst h;exact agR _ _ _ _ _ _ _ _ _ _ _ a
theorem GC:∀ i,i<=(aS n1 f1 x9 x10 x13).length ->
 dAt n1 f1 n3 f3 f5 x7 x13 (sd n1 f1 n3 f3 f5 x7 x9 x10 x11 x12 x13) (Wq n1 f1 n3 f3 f5 x7 x9 x10 x11 x12 x13 i) /\
 ∀ j k,j<i->k<(aS n3 f3 x11 x12 x13).length->BI n1 f1 n3 f3 f5 x7 x9 x10 x11 x12 x13 j k=false->dCv n1 f1 n3 f3 f5 x7 x13 (ar (gw (aS n1 f1 x9 x10 x13) j)) (ar (gw (aS n3 f3 x11 x12 x13) k)) (Wq n1 f1 n3 f3 f5 x7 x9 x10 x11 x12 x13 i)
 |0,_=>⟨.inl rfl,fun j k hj=>absurd hj (Nat.not_lt_zero j)⟩
 | i+1,hi=>by
   obtain ⟨h1,h2⟩:=GC i (by omega)
   obtain ⟨k1,k2,k3⟩:=HC n1 f1 n3 f3 f5 x7 x9 x10 x11 x12 x13 (i:=i) (by omega) h1 _ (Nat.le_refl _)
   refine ⟨k1,fun j k hj hk a=>?_⟩
   rcases Nat.lt_succ_iff_lt_or_eq.1 hj with h|h
   ·exact k2 _ _ (h2 j k h hk a)
   ·subst h;exact k3 k hk a
theorem HN {i k:Nat} (hi:i<=1) (hk:k<=1):BI n1 f1 n3 f3 f5 x7 x9 x10 x11 x12 x13 i k=false:=by
 unfold BI
 rw [show decide (1<(i:Int))=false from gx (by omega),show decide (1<(k:Int))=false from gx (by omega)]
 generalize eB n1 f1 n3 f3 _ _ x13=b
 cases b<;>rfl
theorem aes {i k:Nat} (h:eB n1 f1 n3 f3 (ar (gw (aS n1 f1 x9 x10 x13) i)) (ar (gw (aS n3 f3 x11 x12 x13) k)) x13=true):BI n1 f1 n3 f3 f5 x7 x9 x10 x11 x12 x13 i k=false:=by
 unfold BI
 rw [h];rfl
theorem TD {i k:Nat} (h:BI n1 f1 n3 f3 f5 x7 x9 x10 x11 x12 x13 i k=false):eB n1 f1 n3 f3 (ar (gw (aS n1 f1 x9 x10 x13) i)) (ar (gw (aS n3 f3 x11 x12 x13) k)) x13=true∨(i<=1/\k<=1):=by
 unfold BI at h
 cases hb:eB n1 f1 n3 f3 (ar (gw (aS n1 f1 x9 x10 x13) i)) (ar (gw (aS n3 f3 x11 x12 x13) k)) x13 with
 |true=>exact .inl rfl
 | false =>
   rw [hb]at h
   cases hi:decide (1<(i:Int)) with
   |true=>rw[hi]at h;cases h
   | false =>
     rw [hi]at h
     have h:decide (1<(k:Int))=false:=h
     have a:=of_decide_eq_false hi
     have b:=of_decide_eq_false h
     exact .inr ⟨by omega,by omega⟩
theorem WA:BF (sd n1 f1 n3 f3 f5 x7 x9 x10 x11 x12 x13) (fun u v=>fI n1 f1 n3 f3 f5 u v x13) (fun u v=>fG n1 f1 n3 f3 f5 x7 u v x13) (gR n1 f1 n3 f3 f5 x7 x9 x10 x11 x12 x13,gT n1 f1 n3 f3 f5 x7 x9 x10 x11 x12 x13) /\
 ∀ u v,sd n1 f1 n3 f3 f5 x7 x9 x10 x11 x12 x13 u v->rn (fun u v=>fI n1 f1 n3 f3 f5 u v x13) (fun u v=>fG n1 f1 n3 f3 f5 x7 u v x13) u v (gR n1 f1 n3 f3 f5 x7 x9 x10 x11 x12 x13,gT n1 f1 n3 f3 f5 x7 x9 x10 x11 x12 x13):=by
 have k:=GC n1 f1 n3 f3 f5 x7 x9 x10 x11 x12 x13 _ (Nat.le_refl _)
 have l1:=(nC (B9 f1 (wI (1000*x9)) (wI (1000*x10)) x13) (fun i=>wI (ar (f1 i)*x13)) (wI (1000*x9)) (wI (1000*x10)) n1).1
 have l3:=(nC (B9 f3 (wI (1000*x11)) (wI (1000*x12)) x13) (fun i=>wI (ar (f3 i)*x13)) (wI (1000*x11)) (wI (1000*x12)) n3).1
 have c:=k.2 0 0 (by unfold aS;omega) (by unfold aS;omega) (HN _ _ _ _ _ _ _ _ _ _ _ (by omega) (by omega))
 refine ⟨?_,fun u v=>?_⟩
 ·rcases k.1 with h|h
  ·rw[c.1]at h;cases h
  ·exact h
 ·rintro⟨i,j,hi,hj,s,rfl,rfl⟩
  exact (k.2 i j hi hj s).2
end
theorem EK (p:Nat->Bool) (w:Nat->Int) (a b x:Int):∀ n,x∈Pn p w a b n↔x=a∨x=b∨∃ j,j<n/\p j=true/\x=w j
 | 0=>by
   unfold Pn
   simp
 | n + 1=>by
   have ih:=EK p w a b x n
   unfold Pn
   cases hp:p n with
   | true =>
     simp only [cond_true,List.mem_append,List.mem_singleton,ih]
     constructor
     ·rintro ((h|h|⟨j,hj,h⟩)|h)
      ·exact .inl h
      ·exact .inr (.inl h)
      ·exact .inr (.inr ⟨j,by omega,h⟩)
      ·exact .inr (.inr ⟨n,by omega,hp,h⟩)
     ·rintro (h|h|⟨j,hj,h1,h2⟩)
      ·exact .inl (.inl h)
      ·exact .inl (.inr (.inl h))
      ·rcases Nat.lt_succ_iff_lt_or_eq.1 hj with h|h
       ·exact .inl (.inr (.inr ⟨j,h,h1,h2⟩))
       ·subst h;exact .inr h2
   | false =>
     simp only [cond_false,ih]
     constructor
     ·rintro (h|h|⟨j,hj,h⟩)
      ·exact .inl h
      ·exact .inr (.inl h)
      ·exact .inr (.inr ⟨j,by omega,h⟩)
     ·rintro (h|h|⟨j,hj,h1,h2⟩)
      ·exact .inl h
      ·exact .inr (.inl h)
      ·rcases Nat.lt_succ_iff_lt_or_eq.1 hj with h|h
       ·exact .inr (.inr ⟨j,h,h1,h2⟩)
       ·subst h;rw[hp]at h1;cases h1
theorem Dd (p:Nat->Bool) (w:Nat->Int) (a b:Int):∀ n,∃ t,Pn p w a b n=a::b::t
 |0=>⟨[],rfl⟩
 | n+1=>by
   obtain ⟨t,e⟩:=Dd p w a b n
   unfold Pn
   rw [e]
   cases p n with
   |true=>exact⟨t++[w n],rfl⟩
   |false=>exact⟨t,rfl⟩
theorem tc {L:List Int} {x:Int}:x∈L↔∃ i,i<L.length/\x=ar (gw L i):=by
 have e:∀ i,ar (gw L i)=L.getD i 0:=fun i=>rfl
 simp only [e]
 constructor
 ·intro h
  obtain ⟨i,hi,rfl⟩:=List.getElem_of_mem h
  exact ⟨i,hi,by rw[List.getD_eq_getElem?_getD,List.getElem?_eq_getElem hi];rfl⟩
 ·rintro⟨i,hi,rfl⟩
  rw [List.getD_eq_getElem?_getD,List.getElem?_eq_getElem hi]
  exact List.getElem_mem hi
theorem uN {f:Nat->Int} {t:Int} {n:Nat} (hm:∀ a b,a<b->b<n->f a<f b):∀ d i j:Nat,j-i<=d->i<=j->j<=n->(∀ a,a<i->f a<t)->(∀ a,j<=a->a<n->t<=f a) ->
 (B6 f t d i j<=n/\∀ a,a<n->(f a<t↔a<B6 f t d i j))
 | 0,i,j,hd,hij,hj,h1,h2=>by
   have:i=j:=by omega
   subst this
   refine ⟨hj,fun a ha=>⟨fun h=>?_,fun h=>h1 a h⟩⟩
   have e:B6 f t 0 i i=i:=rfl
   rw [e]
   rcases Nat.lt_or_ge a i with q|q
   ·exact q
   ·have:=h2 a q ha;omega
 | d + 1,i,j,hd,hij,hj,h1,h2=>by
   unfold B6
   cases hb:Nat.blt i j with
   | false =>
     have hn:¬ i<j:=fun h=>by rw[Nat.blt_eq.mpr h]at hb;cases hb
     have:i=j:=by omega
     subst this
     refine ⟨hj,fun a ha=>⟨fun h=>?_,fun h=>h1 a h⟩⟩
     show a<i
     rcases Nat.lt_or_ge a i with q|q
     ·exact q
     ·have:=h2 a q ha;omega
   | true =>
     have hlt:i<j:=Nat.blt_eq.mp hb
     show (bif decide (f ((i+j) / 2)<t) then B6 f t d ((i+j) / 2+1) j else B6 f t d i ((i+j) / 2))<=n/\∀ a,a<n->(f a<t↔a<(bif decide (f ((i+j) / 2)<t) then B6 f t d ((i+j) / 2+1) j else B6 f t d i ((i+j) / 2)))
     by_cases hc:f ((i+j) / 2)<t
     ·rw [dqt hc]
      refine uN hm d _ j (by omega) (by omega) hj (fun a ha=>?_) h2
      rcases Nat.lt_or_ge a ((i+j) / 2) with q|q
      ·have:=hm a _ q (by omega);omega
      ·have:a=(i+j) / 2:=by omega
       subst this;exact hc
     ·rw [gx hc]
      refine uN hm d i _ (by omega) (by omega) (by omega) h1 (fun a ha hn=>?_)
      rcases Nat.lt_or_ge ((i+j) / 2) a with q|q
      ·have:=hm _ a q hn;omega
      ·have:a=(i+j) / 2:=by omega
       subst this;omega
theorem OR {p:Nat->Bool} {r:Nat}:∀ k,(∀ a,a<k->(p a=true↔a<r))->Jb p k=min (r-1) (k-1)
 |0,_=>by unfold Jb;omega
 | k + 1,h=>by
   have ih:=OR (p:=p) (r:=r) k (fun a ha=>h a (by omega))
   have hk:=h k (by omega)
   unfold Jb
   cases hp:p k with
   |true=>have:=hk.1 hp;show k=_;omega
   | false =>
     have:¬ k<r:=fun q=>by rw[hk.2 q]at hp;cases hp
     show Jb p k=_
     rw [ih];omega
theorem aaG {n:Nat} {f:Nat->Int} (h:∀ i,i+1<n->f i<f (i+1)):∀ a b,a<b->b<n->f a<f b
 |a,0,hab,_=>absurd hab (Nat.not_lt_zero a)
 | a,b+1,hab,hb=>by
   have h1:=h b hb
   rcases Nat.lt_succ_iff_lt_or_eq.1 hab with q|q
   ·have:=aaG h a b q (by omega);omega
   ·subst q;exact h1
section
variable {n:Nat} {f:Nat->List V} {H:Int} (u:nM n f) (hn:2<=n/\n<=12) (hH:1<=H/\H<=30000)
include u hn hH
theorem Ht (i:Nat) (hi:i<n):wI (ar (f i)*H)=ar (f i)*H/\-150000000<=ar (f i)*H/\ar (f i)*H<=150000000:=by
 have _:=hn
 have r:=u.r i hi
 have h1:ar (f i)*H<=5000*H:=Int.mul_le_mul_of_nonneg_right r.2 (by omega)
 have h2:(-5000)*H<=ar (f i)*H:=Int.mul_le_mul_of_nonneg_right r.1 (by omega)
 exact ⟨wrapI (by omega) (by omega),by omega,by omega⟩
theorem anr (i:Nat) (hi:i+1<n):wI (ar (f i)*H)<wI (ar (f (i+1))*H):=by
 rw [(Ht u hn hH i (by omega)).1,(Ht u hn hH (i+1) hi).1]
 exact Int.mul_lt_mul_of_pos_right (u.u i hi) (by omega)
theorem OW {x:Int} (hx:-200000000<=x/\x<=200000000):aO n (aa ae (aa ae (cK f H))) x=aI n (aa ae f) x H:=by
 have hb:=uN (f:=fun k=>wI (ar (f k)*H)) (t:=x+1) (n:=n) (aaG (anr u hn hH)) n 0 n (by omega) (by omega) (Nat.le_refl _) (fun a ha=>absurd ha (Nat.not_lt_zero a)) (fun a h1 h2=>by omega)
 have e:bs57 n (aa ae (aa ae (aa ae (cK f H)))) (x+1)=B6 (fun k=>wI (ar (f k)*H)) (x+1) n 0 n:=rfl
 have c:=OR (p:=fun i=>decide (wI (ar (f i)*H)<=x)) (r:=B6 (fun k=>wI (ar (f k)*H)) (x+1) n 0 n) (n-1) (fun a ha=>by
  rw [← hb.2 a (by omega)]
  constructor
  ·intro h;have:=of_decide_eq_true h;omega
  ·intro h;exact dqt (by omega))
 unfold aO aI gY
 rw [wrapI (x:=x+1) (by omega) (by omega),e,show(fun i=>decide (wI (ar (aa ae f i)*H)<=x))=fun i=>decide (wI (ar (f i)*H)<=x) from rfl,c]
 have h1:=hb.1
 rw [wrapI (x:=(n:Int)-2) (by omega) (by omega),wrapI (by omega) (by omega)]
 omega
theorem aa3 (i:Nat) (hi:i+1<n):wI (wI (ar (f (i+1))*H)-wI (ar (f i)*H))=wI (wI (ar (f (i+1))-ar (f i))*H):=by
 have r0:=u.r i (by omega)
 have r1:=u.r (i+1) hi
 rw [(Ht u hn hH i (by omega)).1,(Ht u hn hH (i+1) hi).1,wrapI (x:=ar (f (i+1))-ar (f i)) (by omega) (by omega),Int.sub_mul]
end
theorem CX (n:Nat) (f:Nat->List V) (m:Nat) (g:Nat->List V) (a b H:Int):bk n (aa ae (cK f H)) m (aa ae (cK g H)) a b=eB n f m g a b H:=by
 unfold bk eB av
 show (bif(bif decide (wI (ar (f 0)*H)<=a) then decide (a<=wI (ar (f (wI ((n:Int)-1)).toNat)*H)) else false) then(bif decide (wI (ar (g 0)*H)<=b) then decide (b<=wI (ar (g (wI ((m:Int)-1)).toNat)*H)) else false) else false)=_
 generalize decide (wI (ar (f 0)*H)<=a)=p
 generalize decide (a<=wI (ar (f (wI ((n:Int)-1)).toNat)*H))=q
 cases p<;>cases q<;>rfl
section
variable {x y a b v H:Int} (h:wI (wI (b*H)-wI (a*H))=wI (wI (b-a)*H))
include x y a b v H h
theorem ajX:jV x y (wI (a*H)) (wI (b*H)) v=cw (dj x y a b v H) (b5 a b H):=by
 unfold jV dj b5
 rw [h];rfl
theorem ane:jX x y (wI (a*H)) (wI (b*H)) v=cX (dj x y a b v H) (b5 a b H):=by
 unfold jX dj b5
 rw [h];rfl
end
section
variable {n:Nat} {f:Nat->List V} {m:Nat} {g:Nat->List V} {w:Nat->List V} {H:Int} (hu:nM n f) (hv:nM m g) (hn:2<=n/\n<=12) (hm:2<=m/\m<=12) (hH:1<=H/\H<=30000)
include hu hv hn hm hH
theorem akf {a b side:Int} (ha:-200000000<=a/\a<=200000000) (hb:-200000000<=b/\b<=200000000) :
 bc w n (aa ae (cK f H)) m (aa ae (cK g H)) a b=fI n f m g w a b H /\
 be w side n (aa ae (cK f H)) m (aa ae (cK g H)) a b=fG n f m g w side a b H:=by
 unfold bc be fI fG
 rw [OW hu hn hH ha,OW hv hm hH hb]
 have e:bk n (aa ae (aa ae (cK f H))) m (aa ae (aa ae (cK g H))) a b=eB n (aa ae f) m (aa ae g) a b H:=CX n f m g a b H
 rw [e]
 have p:=dX (aa ae f) a H (n:=n) (by omega)
 have q:=dX (aa ae g) b H (n:=m) (by omega)
 revert p q
 generalize aI n (aa ae f) a H=i
 generalize aI m (aa ae g) b H=k
 intro p q
 rw [show wI (i+0)=i from by rw[Int.add_zero];exact wrapI (by omega) (by omega),show wI (i+wI (0+1))=i+1 from(show wI (i+1)=i+1 from wrapI (by omega) (by omega)),show wI (i+1)=i+1 from wrapI (by omega) (by omega),show wI (k+1)=k+1 from wrapI (by omega) (by omega)]
 have di:=aa3 hu hn hH i.toNat (by omega)
 have dk:=aa3 hv hm hH k.toNat (by omega)
 rw [show i.toNat+1=(i+1).toNat from by omega]at di
 rw [show k.toNat+1=(k+1).toNat from by omega]at dk
 cases eB n (aa ae f) m (aa ae g) a b H with
 |false=>simp only[Bool.not_false,cond_true,and_self]
 | true =>
   simp only [Bool.not_true,cond_false]
   refine ⟨?_,?_⟩
   ·refine (ajX di).trans ?_
    have r:∀ j:Int,jT j (aa [Ty.sl ae] w) (aa ae (aa ae (cK g H))) k b=cw (dj (ar (aX (ap (w j.toNat)) k.toNat)) (ar (aX (ap (w j.toNat)) (k+1).toNat)) (ar (g k.toNat)) (ar (g (k+1).toNat)) b H) (b5 (ar (g k.toNat)) (ar (g (k+1).toNat)) H):=fun j=>by
     unfold jT
     rw [show wI (k+1)=k+1 from wrapI (by omega) (by omega)]
     exact ajX dk
    rw [r i,r (i+1)]
   ·refine (ane di).trans ?_
    have r:∀ j:Int,j8 j (aa [Ty.sl ae] w) (aa ae (aa ae (cK g H))) k b=cX (dj (ar (aX (ap (w j.toNat)) k.toNat)) (ar (aX (ap (w j.toNat)) (k+1).toNat)) (ar (g k.toNat)) (ar (g (k+1).toNat)) b H) (b5 (ar (g k.toNat)) (ar (g (k+1).toNat)) H):=fun j=>by
     unfold j8
     rw [show wI (k+1)=k+1 from wrapI (by omega) (by omega)]
     exact ane dk
    rw [r i,r (i+1)]
end
theorem zt {n:Nat} {f:Nat->List V} {x y H a:Int}:a∈aS n f x y H↔Jg n (aa ae (cK f H)) (wI (1000*x)) (wI (1000*y)) a:=by
 unfold aS Jg
 rw [EK]
 have e:∀ j,ar (aa ae (cK f H) j)=wI (ar (f j)*H):=fun j=>rfl
 simp only [e]
 constructor
 ·rintro (h|h|⟨j,hj,h1,h2⟩)
  ·exact .inl h
  ·exact .inr (.inl h)
  ·have h2:a=wI (ar (f j)*H):=h2
   by_cases ha:a=wI (1000*x)
   ·exact .inl ha
   ·by_cases hb:a=wI (1000*y)
    ·exact .inr (.inl hb)
    ·refine .inr (.inr ⟨j,hj,?_,h2⟩)
     have q:(bif decide (wI (1000*x)<=wI (ar (f j)*H)) then decide (wI (ar (f j)*H)<=wI (1000*y)) else false)=true:=h1
     cases c:decide (wI (1000*x)<=wI (ar (f j)*H)) with
     |false=>rw[c]at q;cases q
     | true =>
       rw [c]at q
       have c:=of_decide_eq_true c
       have q:decide (wI (ar (f j)*H)<=wI (1000*y))=true:=q
       have q:=of_decide_eq_true q
       unfold zX
       rw [dqt (show wI (1000*x)<wI (ar (f j)*H) from by omega)]
       exact dqt (by omega)
 ·rintro (h|h|⟨j,hj,h1,h2⟩)
  ·exact .inl h
  ·exact .inr (.inl h)
  ·refine .inr (.inr ⟨j,hj,?_,h2⟩)
   unfold zX at h1
   unfold B9
   cases c:decide (wI (1000*x)<wI (ar (f j)*H)) with
   |false=>rw[c]at h1;cases h1
   | true =>
     rw [c]at h1
     have h1:decide (wI (ar (f j)*H)<wI (1000*y))=true:=h1
     have h1:=of_decide_eq_true h1
     have c:=of_decide_eq_true c
     rw [dqt (show wI (1000*x)<=wI (ar (f j)*H) from by omega)]
     exact dqt (by omega)
section
variable (n:Nat) (f:Nat->List V) (x y H:Int)
include n f x y H
theorem ame:ar (gw (aS n f x y H) 0)=wI (1000*x):=by
 unfold aS
 obtain ⟨t,e⟩:=Dd (B9 f (wI (1000*x)) (wI (1000*y)) H) (fun i=>wI (ar (f i)*H)) (wI (1000*x)) (wI (1000*y)) n
 rw [e];rfl
theorem amH:ar (gw (aS n f x y H) 1)=wI (1000*y):=by
 unfold aS
 obtain ⟨t,e⟩:=Dd (B9 f (wI (1000*x)) (wI (1000*y)) H) (fun i=>wI (ar (f i)*H)) (wI (1000*x)) (wI (1000*y)) n
 rw [e];rfl
theorem ME:2<=(aS n f x y H).length:=(nC ..).1
end
section
variable {n:Nat} {f:Nat->List V} {m:Nat} {g w:Nat->List V} {s:Int}
include n f m g w s
theorem ry {x9 x10 x11 x12 H u v:Int} :
 vD n (aa ae (cK f H)) m (aa ae (cK g H)) (wI (1000*x9)) (wI (1000*x10)) (wI (1000*x11)) (wI (1000*x12)) u v↔sd n f m g w s x9 x10 x11 x12 H u v:=by
 have end_:∀ {n:Nat} {f:Nat->List V} {x y u:Int},u=wI (1000*x)∨u=wI (1000*y)->∃ i,i<=1/\u=ar (gw (aS n f x y H) i):=fun {n f x y u} h=>by
  rcases h with h|h
  ·exact⟨0,by omega,h.trans (ame n f x y H).symm⟩
  ·exact⟨1,by omega,h.trans (amH n f x y H).symm⟩
 have l1:=ME n f x9 x10 H
 have l2:=ME m g x11 x12 H
 constructor
 ·rintro (⟨h1,h2⟩|⟨h1,h2,h3⟩)
  ·obtain⟨i,hi,e1⟩:=end_ (n:=n) (f:=f) h1
   obtain ⟨k,hk,e2⟩:=end_ (n:=m) (f:=g) h2
   exact ⟨i,k,by omega,by omega,HN _ _ _ _ _ _ _ _ _ _ _ hi hk,e1,e2⟩
  ·obtain⟨i,hi,e1⟩:=tc.1 (zt.2 h1)
   obtain ⟨k,hk,e2⟩:=tc.1 (zt.2 h2)
   rw [CX]at h3
   subst e1;subst e2
   exact ⟨i,k,hi,hk,aes _ _ _ _ _ _ _ _ _ _ _ h3,rfl,rfl⟩
 ·rintro ⟨i,k,hi,hk,h,e1,e2⟩
  rcases TD _ _ _ _ _ _ _ _ _ _ _ h with h|⟨h1,h2⟩
  ·subst e1;subst e2
   exact .inr ⟨zt.1 (tc.2 ⟨i,hi,rfl⟩),zt.1 (tc.2 ⟨k,hk,rfl⟩),by rw[CX];exact h⟩
  ·have low:∀ {n:Nat} {f:Nat->List V} {x y:Int} {i:Nat},i<=1->ar (gw (aS n f x y H) i)=wI (1000*x)∨ar (gw (aS n f x y H) i)=wI (1000*y):=fun {n f x y i} h=>by
    rcases Nat.lt_or_ge i 1 with q|q
    ·rw[show i=0 by omega];exact .inl (ame ..)
    ·rw[show i=1 by omega];exact .inr (amH ..)
   subst e1;subst e2
   exact .inl ⟨low h1,low h2⟩
theorem abn {a c d e H:Int} (hu:nM n f) (hv:nM m g) (hn:2<=n/\n<=12) (hm:2<=m/\m<=12) (hH:1<=H/\H<=30000)
 (h1:-200000<=a/\a<=200000) (h2:-200000<=c/\c<=200000) (h3:-200000<=d/\d<=200000) (h4:-200000<=e/\e<=200000) :
 (gP w s n (aa ae (cK f H)) m (aa ae (cK g H)) a c d e,gQ w s n (aa ae (cK f H)) m (aa ae (cK g H)) a c d e)=(gR n f m g w s a c d e H,gT n f m g w s a c d e H):=by
 have rng:∀ {n:Nat} {f:Nat->List V} {x y u:Int},(-200000<=x/\x<=200000)->(-200000<=y/\y<=200000)->Jg n f (wI (1000*x)) (wI (1000*y)) u->-200000000<=u/\u<=200000000:=fun {n f x y u} hx hy h=>by
  unfold Jg at h
  rw [wrapI (x:=1000*x) (by omega) (by omega),wrapI (x:=1000*y) (by omega) (by omega)]at h
  rcases h with h|h|⟨j,_,hb,e⟩
  ·omega
  ·omega
  ·unfold zX at hb
   cases c:decide (1000*x<ar (f j)) with
   |false=>rw[c]at hb;cases hb
   | true =>
     rw [c]at hb
     have hb:decide (ar (f j)<1000*y)=true:=hb
     have:=of_decide_eq_true hb
     have:=of_decide_eq_true c
     omega
 have pt:∀ {p q},sd n f m g w s a c d e H p q->_:=fun {p q} z=>by
  have z:=ry.2 z
  have hp:Jg n (aa ae (cK f H)) (wI (1000*a)) (wI (1000*c)) p/\Jg m (aa ae (cK g H)) (wI (1000*d)) (wI (1000*e)) q:=by
   rcases z with ⟨k1,k2⟩|⟨k1,k2,_⟩
   ·exact⟨k1.elim .inl (fun z=>.inr (.inl z)),k2.elim .inl (fun z=>.inr (.inl z))⟩
   ·exact⟨k1,k2⟩
  exact akf (w:=w) (side:=s) hu hv hn hm hH (rng h1 h2 hp.1) (rng h3 h4 hp.2)
 have A:=aeg w s n (aa ae (cK f H)) m (aa ae (cK g H)) (wI (1000*a)) (wI (1000*c)) (wI (1000*d)) (wI (1000*e))
 have B:=WA n f m g w s a c d e H
 refine amY (S:=sd n f m g w s a c d e H) (g0:=fun p q=>fI n f m g w p q H) (g1:=fun p q=>fG n f m g w s p q H) ?_ (fun p q z=>?_) B.1 B.2
 ·obtain⟨⟨p,q,z,e1⟩,⟨p',q',z',e2⟩⟩:=A
  exact ⟨⟨p,q,ry.1 z,(pt (ry.1 z)).1.symm.trans e1⟩,⟨p',q',ry.1 z',(pt (ry.1 z')).2.symm.trans e2⟩⟩
 ·have k:=ae1 w s n _ m _ (ry.2 z)
  exact ⟨by have:=k.1;rw[(pt z).1]at this;exact this,by have:=k.2;rw[(pt z).2]at this;exact this⟩
end
theorem Wv {x:List V} {a c d e H:Int} (t:mU x) (u:nM (au (ap (ab x))) (aX (ap (ab x)))) (v:nM (au (ap (ab (ab x)))) (aX (ap (ab (ab x))))) (hH:1<=H/\H<=30000)
 (h1:-200000<=a/\a<=200000) (h2:-200000<=c/\c<=200000) (h3:-200000<=d/\d<=200000) (h4:-200000<=e/\e<=200000):ZQ x a c d e H=ZJ x a c d e H/\Y1 x a c d e H=aa0 x a c d e H :=
 have k:=abn (w:=tR x) (s:=db x) u v t.u t.v hH h1 h2 h3 h4
 ⟨congrArg Prod.fst k,congrArg Prod.snd k⟩
theorem FW (a b c d h:Int):fm a b c d h=d4 a b c d h:=by
 unfold fm d4
 rw [nE]
 rw [show(cz 4 fun i=>aA (ar (aa ae (bn [vi a,vi b,vi c,vi d] 0 1) i)) (-200000) 200000)=((((true&&da a)&&da b)&&da c)&&da d) from rfl,show av h 1 30000=aA h 1 30000 from rfl]
 generalize da a=p
 generalize da b=q
 generalize da c=r
 generalize da d=s
 cases p<;>cases q<;>cases r<;>cases s<;>rfl
theorem nn7 {b:Bool} {z:Int} (h:(bif !!b then z else 7)=0):b=true/\z=0:=by
 cases b with
 |true=>exact⟨rfl,h⟩
 |false=>cases h
theorem apC {a b c d h:Int} (e:d4 a b c d h=0):(1<=h/\h<=30000)/\(-200000<=a/\a<=200000)/\(-200000<=b/\b<=200000)/\(-200000<=c/\c<=200000)/\(-200000<=d/\d<=200000):=by
 unfold d4 at e
 obtain ⟨h1,e⟩:=nn7 e
 obtain ⟨h2,e⟩:=nn7 e
 obtain ⟨h3,e⟩:=nn7 e
 obtain ⟨h4,e⟩:=nn7 e
 obtain ⟨h5,_⟩:=jB e (by decide)
 exact ⟨zj h1,zj h2,zj h3,zj h4,zj (notf h5)⟩
theorem ajR {n0:Nat} {f0:Nat->List V} {n2:Nat} {f2:Nat->List V} {x4:Int} (h:bM n0 f0 n2 f2 x4=0) :
 (bI n0 (aa ak f0) n2 (aa ah f2)!=0)=false/\(!av x4 0 (wI ((n2:Int)-1)))=false:=by
 unfold bM at h
 cases e:(bI n0 (aa ak f0) n2 (aa ah f2)!=0) with
 | true =>
   rw [e]at h
   have h:bI n0 (aa ak f0) n2 (aa ah f2)=0:=h
   rw [h]at e;cases e
 | false =>
   rw [e]at h
   cases hh:(!av x4 0 (wI ((n2:Int)-1))) with
   |true=>rw[hh]at h;cases h
   |false=>exact⟨rfl,rfl⟩
theorem Rh (ts:List Ty) (f:Nat->List V):aa ts (aa ts f)=aa ts f:=funext fun i=>dz ts (f i)
section
variable (n0:Nat) (f0:aN) (n2:Nat) (f2:aN) (x4 x5 x6 x7 x8 x9 x10 x11 x12:Int)
theorem aec:Cc n0 f0 n2 f2 x4 x5 x6 x7 x8 x9 x10 x11 x12=Lh n0 f0 n2 f2 x4 x5 x6 x7 x8 x9 x10 x11 x12:=by
 unfold Cc Lh
 rw [pL,← yC,← FW]
 cases eV x5 x6 x7<;>rfl
theorem UY (h:Cc n0 (aa ak f0) n2 (aa ah f2) x4 x5 x6 x7 x8 x9 x10 x11 x12=0) :
 twL n0 (aa ak f0) n2 (aa ah f2) x4 x5 x6 x7 x8 x9 x10 x11 x12=dwL n0 (aa ak f0) n2 (aa ah f2) x4 x5 x6 x7 x8 x9 x10 x11 x12 /\
 twH n0 (aa ak f0) n2 (aa ah f2) x4 x5 x6 x7 x8 x9 x10 x11 x12=dwH n0 (aa ak f0) n2 (aa ah f2) x4 x5 x6 x7 x8 x9 x10 x11 x12:=by
 have h1:bM n0 (aa ak f0) n2 (aa ah f2) x4=0/\fm x8 x9 x10 x11 x12=0:=by
  unfold Cc at h
  cases e:bM n0 (aa ak f0) n2 (aa ah f2) x4==0 with
  | true =>
    rw [e]at h
    refine ⟨eq_of_beq e,?_⟩
    cases k:eV x5 x6 x7 with
    |true=>rw[k]at h;cases h
    |false=>rw[k]at h;exact h
  | false =>
    rw [e]at h
    have h:bM n0 (aa ak f0) n2 (aa ah f2) x4=0:=h
    rw [h]at e;cases e
 obtain ⟨hl,hr⟩:=h1
 have hb:=ama hl
 have l0:=ajR hl
 rw [FW]at hr
 have r:=apC hr
 have w:=hb.2
 rw [Rh]at w
 have t:=Cw w
 have u:=aeW w
 have q:=Wv t u.1 u.2 r.1 r.2.1 r.2.2.1 r.2.2.2.1 r.2.2.2.2
 have a1:bE n0 (aa ak f0) n2 (aa ah f2) x4=aQ (aa ah f2 x4.toNat):=by unfold bE;rw[l0.1,l0.2];rfl
 have a3:eU n0 (aa ak f0) n2 (aa ah f2) x4=bW (aa ah f2 x4.toNat):=by unfold eU;rw[l0.1,l0.2];rfl
 have a7:gh n0 (aa ak f0) n2 (aa ah f2) x4=bf (ab (ab (aa ah f2 x4.toNat))):=by unfold gh;rw[l0.1,l0.2];rfl
 have a8:gb n0 (aa ak f0) n2 (aa ah f2) x4=bf (ab (ab (ab (aa ah f2 x4.toNat)))):=by unfold gb;rw[l0.1,l0.2];rfl
 have a9:gq n0 (aa ak f0) n2 (aa ah f2) x4=bf (ab (ab (ab (ab (aa ah f2 x4.toNat))))):=by unfold gq;rw[l0.1,l0.2];rfl
 have a10:ff n0 (aa ak f0) n2 (aa ah f2) x4=bf (ab (ab (ab (ab (ab (aa ah f2 x4.toNat)))))):=by unfold ff;rw[l0.1,l0.2];rfl
 unfold twL twH dwL dwH
 rw [q.1,q.2,a1,a3,a7,a8,a9,a10,BW,Ac]
 exact ⟨rfl,rfl⟩
theorem aiS:fL n0 (aa ak f0) n2 (aa ah f2) x4 x5 x6 x7 x8 x9 x10 x11 x12=jW n0 (aa ak f0) n2 (aa ah f2) x4 x5 x6 x7 x8 x9 x10 x11 x12 /\
 fk n0 (aa ak f0) n2 (aa ah f2) x4 x5 x6 x7 x8 x9 x10 x11 x12=gU n0 (aa ak f0) n2 (aa ah f2) x4 x5 x6 x7 x8 x9 x10 x11 x12 /\
 fJ n0 (aa ak f0) n2 (aa ah f2) x4 x5 x6 x7 x8 x9 x10 x11 x12=km n0 (aa ak f0) n2 (aa ah f2) x4 x5 x6 x7 x8 x9 x10 x11 x12:=by
 have e:=aec n0 (aa ak f0) n2 (aa ah f2) x4 x5 x6 x7 x8 x9 x10 x11 x12
 unfold fL fk fJ jW gU km
 cases h:Cc n0 (aa ak f0) n2 (aa ah f2) x4 x5 x6 x7 x8 x9 x10 x11 x12==0 with
 | true =>
   have q:=UY n0 f0 n2 f2 x4 x5 x6 x7 x8 x9 x10 x11 x12 (eq_of_beq h)
   rw [← e,h,q.1,q.2]
   exact ⟨rfl,rfl,rfl⟩
 | false =>
   rw [← e,h]
   exact ⟨rfl,rfl,rfl⟩
end
end
noncomputable section
def aq7 (cx cy h vx vy dx dy:Int):Prop:=(-100000<=cx/\cx<=100000)/\(-100000<=cy/\cy<=100000)/\(1<=h/\h<=200)/\(-100000<=vx/\vx<=100000)/\(-100000<=vy/\vy<=100000)/\Hd dx dy
theorem al9:cP=er:=rfl
theorem ZR:cH=cY:=rfl
section
variable {cx cy h vx vy dx dy:Int} (o:aq7 cx cy h vx vy dx dy)
include o
end
end
noncomputable section
def sR (p:Nat->Bool) (v:Nat->Int):Nat->Int
 |0=>0
 |k+1=>bif p k then wI (sR p v k+v k) else sR p v k
theorem mr {p:Nat->Bool} {v:Nat->Int} {k:Nat} (h:p k=true):sR p v (k+1)=wI (sR p v k+v k):=by
 show (bif p k then _ else _)=_
 rw [h];rfl
theorem ly {p:Nat->Bool} {v:Nat->Int} {k:Nat} (h:p k=false):sR p v (k+1)=sR p v k:=by
 show (bif p k then _ else _)=_
 rw [h];rfl
def sN (i:Nat):Bool:=decide (0<=ar (f13 i))
end
noncomputable section
def kx:Int:=iD n0 (aa ak f0) n2 (aa ah f2) x4 n5 (aa aJ f5) n7 (aa aU f7) n9 (aa aV f9) n11 (aa aH f11) n13 (aa ae f13) n15 (aa bQ f15)
theorem kZ {x:Int} (h:(x != 0)=true):x≠0:=by simpa using h
theorem amD {x:Int} (h:(x==0)=false):x≠0:=by simpa using h
def xx:bj:=(79,.inl Ea u0)::(175,.con YF)::M0
theorem u4:aW Tryz.prog eqs its xx:=fZ Tryz.func79 (by kernel_rfl) (.con af3 (KZ))
def fxE:Int:=bif bA n0 f0 n2 f2 x4==0 then dt x5 x6 x7 else bA n0 f0 n2 f2 x4
def SX:Int:=bif fxE n0 f0 n2 f2 x4 x5 x6 x7==0 then iT (bW (f2 x4.toNat)) (bf (ab (ab (ab (f2 x4.toNat))))) (bf (ab (ab (ab (ab (ab (f2 x4.toNat))))))) x5 x6 x7 else 0
def yA:Int:=bif fxE n0 f0 n2 f2 x4 x5 x6 x7==0 then iZ (bW (f2 x4.toNat)) (bf (ab (ab (f2 x4.toNat)))) (bf (ab (ab (ab (ab (f2 x4.toNat)))))) x5 x6 x7 else 0
def RV:Int:=bif bA n0 f0 n2 f2 x4==0 then bif aA x5 0 1000 then 0 else 7 else bA n0 f0 n2 f2 x4
def pwT (l:List V) (x5 z:Int):Int:=wI (wI (wI (1000*bf l)+wI (wI (db l-bf l)*x5))*z)
def uH:Int:=bif RV n0 f0 n2 f2 x4 x5==0 then cw (pwT (f2 x4.toNat) x5 (wI (1000-(bf (ab (f2 x4.toNat)))))) 1000000 else 0
def u9:Int:=bif RV n0 f0 n2 f2 x4 x5==0 then cX (pwT (f2 x4.toNat) x5 (wI (1000+(bf (ab (f2 x4.toNat)))))) 1000000 else 0
theorem ajI {n0:Nat} {f0:Nat->List V} {n2:Nat} {f2:Nat->List V} {x4:Int} (h:bM n0 f0 n2 f2 x4=0) :
 eU n0 f0 n2 f2 x4=(bW (f2 x4.toNat))/\jU n0 f0 n2 f2 x4=(db (f2 x4.toNat))/\gN n0 f0 n2 f2 x4=(bf (f2 x4.toNat))/\jZ n0 f0 n2 f2 x4=(bf (ab (f2 x4.toNat)))/\gh n0 f0 n2 f2 x4=(bf (ab (ab (f2 x4.toNat))))/\gb n0 f0 n2 f2 x4=(bf (ab (ab (ab (f2 x4.toNat)))))/\gq n0 f0 n2 f2 x4=(bf (ab (ab (ab (ab (f2 x4.toNat))))))/\ff n0 f0 n2 f2 x4=(bf (ab (ab (ab (ab (ab (f2 x4.toNat))))))):=by
 have l0:=ajR h
 unfold eU jU gN jZ gh gb gq ff
 rw [l0.1,l0.2]
 exact ⟨rfl,rfl,rfl,rfl,rfl,rfl,rfl,rfl⟩
theorem kc {e z a b:Int} (h:e=z) (h0:z≠0):ce (V.tup [V.agg [vi 0,vi 0],vi z])=ce (V.tup [V.agg [vi (bif e==0 then a else 0),vi (bif e==0 then b else 0)],vi e]):=by
 subst h
 rw [show(e==0)=false from by simpa using h0];rfl
theorem zG {e a b:Int} (h:e=0):ce (V.tup [V.agg [vi a,vi b],vi 0])=ce (V.tup [V.agg [vi (bif e==0 then a else 0),vi (bif e==0 then b else 0)],vi e]):=by
 subst h;rfl
theorem aaE {n0:Nat} {f0:Nat->List V} {n2:Nat} {f2:Nat->List V} {x4 x5 x6 x7:Int} (h:bA n0 f0 n2 f2 x4≠0):fxE n0 f0 n2 f2 x4 x5 x6 x7=bA n0 f0 n2 f2 x4:=by
 unfold fxE;rw[show(bA n0 f0 n2 f2 x4==0)=false from by simpa using h];rfl
theorem Gc {n0:Nat} {f0:Nat->List V} {n2:Nat} {f2:Nat->List V} {x4 x5 x6 x7:Int} (h:bA n0 f0 n2 f2 x4=0):fxE n0 f0 n2 f2 x4 x5 x6 x7=dt x5 x6 x7:=by
 unfold fxE;rw[h];rfl
theorem aaB {n0:Nat} {f0:Nat->List V} {n2:Nat} {f2:Nat->List V} {x4 x5:Int} (h:bA n0 f0 n2 f2 x4≠0):RV n0 f0 n2 f2 x4 x5=bA n0 f0 n2 f2 x4:=by
 unfold RV;rw[show(bA n0 f0 n2 f2 x4==0)=false from by simpa using h];rfl
theorem F3 {n0:Nat} {f0:Nat->List V} {n2:Nat} {f2:Nat->List V} {x4 x5:Int} (h:bA n0 f0 n2 f2 x4=0):RV n0 f0 n2 f2 x4 x5=bif aA x5 0 1000 then 0 else 7:=by
 unfold RV;rw[h];rfl
theorem arE {a b c:Int} (h:eV a b c=true):dt a b c=7:=by rw[← yC,h];rfl
theorem ao0 {a b c:Int} (h:eV a b c=false):dt a b c=0:=by rw[← yC,h];rfl
def Yz:RT Empty:=.obp (yaa n0 (aa ak f0)/\yaa n2 (aa ah f2)) (.obt (.br (bM n0 (aa ak f0) n2 (aa ah f2) x4 != 0) (.ret (V.tup [V.agg [vi 0,vi 0],vi (bM n0 (aa ak f0) n2 (aa ah f2) x4)])) (.cb (.br (eV x5 x6 x7) (.ret (V.tup [V.agg [vi 0,vi 0],vi 7])) (.cb (.ret (V.tup [V.agg [vi (lR (eU n0 (aa ak f0) n2 (aa ah f2) x4) (gb n0 (aa ak f0) n2 (aa ah f2) x4) (ff n0 (aa ak f0) n2 (aa ah f2) x4) x5 x6 x7),vi (lQ (eU n0 (aa ak f0) n2 (aa ah f2) x4) (gh n0 (aa ak f0) n2 (aa ah f2) x4) (gq n0 (aa ak f0) n2 (aa ah f2) x4) x5 x6 x7)],vi 0])))))))
theorem XJ:cJ cL (aP JJ xx u0 acL [V.agg [V.sl n0 (aa ak f0),V.sl n2 (aa ah f2)],vi x4,V.agg [vi x5,vi x6,vi x7]]) (Yz n0 f0 n2 f2 x4 x5 x6 x7):=⟨by kernel_rfl,by kernel_rfl⟩
theorem afQ (hp:yaa n0 (aa ak f0)/\yaa n2 (aa ah f2)):aR cq (Yz n0 f0 n2 f2 x4 x5 x6 x7) (.tup [.agg [vi (SX n0 (aa ak f0) n2 (aa ah f2) x4 x5 x6 x7),vi (yA n0 (aa ak f0) n2 (aa ah f2) x4 x5 x6 x7)],vi (fxE n0 (aa ak f0) n2 (aa ah f2) x4 x5 x6 x7)]):=by
 refine evObp hp (evObt ?_)
 rw [pL]
 refine evBr (fun h=>evRet (kc (aaE (kZ h)) (kZ h))) (fun h=>?_)
 have h0:=gE h
 have k:=ajI ((pL ..).trans h0)
 rw [k.1,k.2.2.2.2.1,k.2.2.2.2.2.1,k.2.2.2.2.2.2.1,k.2.2.2.2.2.2.2,BW,Ac]
 exact aw (evObt (evBr (fun h1=>evRet (kc ((Gc h0).trans (arE h1)) (by decide))) (fun h1=>aw (evObt (evRet (zG ((Gc h0).trans (ao0 h1))))))))
def XQ:aB:=bF [.agg [.sl ak,.sl ah],tI,.agg bQ] (fun
 |[.agg [.sl n0 f0,.sl n2 f2],.int _ x4,.agg [.int _ x5,.int _ x6,.int _ x7]]=>yaa n0 f0/\yaa n2 f2
 |_=>False) fun
 |[.agg [.sl n0 f0,.sl n2 f2],.int _ x4,.agg [.int _ x5,.int _ x6,.int _ x7]]=>.tup [.agg [vi (SX n0 f0 n2 f2 x4 x5 x6 x7),vi (yA n0 f0 n2 f2 x4 x5 x6 x7)],vi (fxE n0 f0 n2 f2 x4 x5 x6 x7)]
 |_=>.any
theorem aiL:(vP XQ).Ok Tryz.prog 176:=bV u4 Tryz.func176 (by kernel_rfl) fun ds hp=>cQ (XJ ..) (afQ _ _ _ _ _ _ _ _ hp)
def ZG:RT Empty:=.obp (yaa n0 (aa ak f0)/\yaa n2 (aa ah f2)) (.obt (.br (bA n0 (aa ak f0) n2 (aa ah f2) x4==0) (.cb (.br (dt x5 x6 x7 != 0) (.ret (V.tup [V.agg [vi 0,vi 0],vi (dt x5 x6 x7)])) (.ob (dI x4 n2) (.cb (.ret (V.tup [V.agg [vi (iT (bW (f2 x4.toNat)) (bf (ab (ab (ab (f2 x4.toNat))))) (bf (ab (ab (ab (ab (ab (f2 x4.toNat))))))) x5 x6 x7),vi (iZ (bW (f2 x4.toNat)) (bf (ab (ab (f2 x4.toNat)))) (bf (ab (ab (ab (ab (f2 x4.toNat)))))) x5 x6 x7)],vi 0])))))) (.br (bA n0 (aa ak f0) n2 (aa ah f2) x4 != 0) (.ret (V.tup [V.agg [vi 0,vi 0],vi (bA n0 (aa ak f0) n2 (aa ah f2) x4)])) (.ob (dI x4 n2) (.cb (.ret (V.tup [V.agg [vi (iT (bW (f2 x4.toNat)) (bf (ab (ab (ab (f2 x4.toNat))))) (bf (ab (ab (ab (ab (ab (f2 x4.toNat))))))) x5 x6 x7),vi (iZ (bW (f2 x4.toNat)) (bf (ab (ab (f2 x4.toNat)))) (bf (ab (ab (ab (ab (f2 x4.toNat)))))) x5 x6 x7)],vi 0])))))))
theorem ybj:cJ cL (aP JJ xx u0 abL [V.agg [V.sl n0 (aa ak f0),V.sl n2 (aa ah f2)],vi x4,V.agg [vi x5,vi x6,vi x7]]) (ZG n0 f0 n2 f2 x4 x5 x6 x7):=⟨by kernel_rfl,by kernel_rfl⟩
theorem afH (hp:yaa n0 (aa ak f0)/\yaa n2 (aa ah f2)):aR cq (ZG n0 f0 n2 f2 x4 x5 x6 x7) (.tup [.agg [vi (SX n0 (aa ak f0) n2 (aa ah f2) x4 x5 x6 x7),vi (yA n0 (aa ak f0) n2 (aa ah f2) x4 x5 x6 x7)],vi (fxE n0 (aa ak f0) n2 (aa ah f2) x4 x5 x6 x7)]):=by
 refine evObp hp (evObt (evBr (fun h=>?_) (fun h=>evBr (fun h1=>evRet (kc (aaE (kZ h1)) (kZ h1))) (fun h1=>absurd (gE h1) (amD h)))))
 have h0:bA n0 (aa ak f0) n2 (aa ah f2) x4=0:=eq_of_beq h
 have hb:=afr h0
 exact aw (evObt (evBr (fun h1=>evRet (kc (Gc h0) (kZ h1))) (fun h1=>aE (dqt hb.1) (aw (evObt (evRet (zG ((Gc h0).trans (gE h1)))))))))
def YP:aB:=bF [.agg [.sl ak,.sl ah],tI,.agg bQ] (fun
 |[.agg [.sl n0 f0,.sl n2 f2],.int _ x4,.agg [.int _ x5,.int _ x6,.int _ x7]]=>yaa n0 f0/\yaa n2 f2
 |_=>False) fun
 |[.agg [.sl n0 f0,.sl n2 f2],.int _ x4,.agg [.int _ x5,.int _ x6,.int _ x7]]=>.tup [.agg [vi (SX n0 f0 n2 f2 x4 x5 x6 x7),vi (yA n0 f0 n2 f2 x4 x5 x6 x7)],vi (fxE n0 f0 n2 f2 x4 x5 x6 x7)]
 |_=>.any
theorem acz:(vP YP).Ok Tryz.prog 98:=bV u4 Tryz.func98 (by kernel_rfl) fun ds hp=>cQ (ybj ..) (afH _ _ _ _ _ _ _ _ hp)
def YI:RT Empty:=.obp (yaa n0 (aa ak f0)/\yaa n2 (aa ah f2)) (.obt (.br (bM n0 (aa ak f0) n2 (aa ah f2) x4 != 0) (.ret (V.tup [V.agg [vi 0,vi 0],vi (bM n0 (aa ak f0) n2 (aa ah f2) x4)])) (.cb (.br (!av x5 0 1000) (.ret (V.tup [V.agg [vi 0,vi 0],vi 7])) (.obp (nz 1000000) (.obt (.obp (nz 1000000) (.obt (.ret (V.tup [V.agg [vi (ea (wI (wI (wI (gN n0 (aa ak f0) n2 (aa ah f2) x4*1000)+wI (wI (jU n0 (aa ak f0) n2 (aa ah f2) x4-gN n0 (aa ak f0) n2 (aa ah f2) x4)*x5))*wI (1000-jZ n0 (aa ak f0) n2 (aa ah f2) x4))) 1000000),vi (fo (wI (wI (wI (gN n0 (aa ak f0) n2 (aa ah f2) x4*1000)+wI (wI (jU n0 (aa ak f0) n2 (aa ah f2) x4-gN n0 (aa ak f0) n2 (aa ah f2) x4)*x5))*wI (1000+jZ n0 (aa ak f0) n2 (aa ah f2) x4))) 1000000)],vi 0]))))))))))
theorem Xp:cJ cL (aP JJ xx u0 afA [V.agg [V.sl n0 (aa ak f0),V.sl n2 (aa ah f2)],vi x4,vi x5]) (YI n0 f0 n2 f2 x4 x5):=⟨by kernel_rfl,by kernel_rfl⟩
theorem ab4 (hp:yaa n0 (aa ak f0)/\yaa n2 (aa ah f2)):aR cq (YI n0 f0 n2 f2 x4 x5) (.tup [.agg [vi (uH n0 (aa ak f0) n2 (aa ah f2) x4 x5),vi (u9 n0 (aa ak f0) n2 (aa ah f2) x4 x5)],vi (RV n0 (aa ak f0) n2 (aa ah f2) x4 x5)]):=by
 refine evObp hp (evObt ?_)
 rw [pL]
 refine evBr (fun h=>evRet (kc (aaB (kZ h)) (kZ h))) (fun h=>?_)
 have h0:=gE h
 have k:=ajI ((pL ..).trans h0)
 rw [k.2.1,k.2.2.1,k.2.2.2.1,Int.mul_comm _ 1000]
 exact aw (evObt (evBr (fun h1=>evRet (kc ((F3 h0).trans (by rw[show aA x5 0 1000=false from IF h1];rfl)) (by decide))) (fun h1=>evObp (by decide) (evObt (evObp (by decide) (evObt (evRet (zG ((F3 h0).trans (by rw[show aA x5 0 1000=true from notf h1];rfl))))))))))
def YX:aB:=bF [.agg [.sl ak,.sl ah],tI,tI] (fun
 |[.agg [.sl n0 f0,.sl n2 f2],.int _ x4,.int _ x5]=>yaa n0 f0/\yaa n2 f2
 |_=>False) fun
 |[.agg [.sl n0 f0,.sl n2 f2],.int _ x4,.int _ x5]=>.tup [.agg [vi (uH n0 f0 n2 f2 x4 x5),vi (u9 n0 f0 n2 f2 x4 x5)],vi (RV n0 f0 n2 f2 x4 x5)]
 |_=>.any
theorem acN:(vP YX).Ok Tryz.prog 101:=bV u4 Tryz.func101 (by kernel_rfl) fun ds hp=>cQ (Xp ..) (ab4 _ _ _ _ _ _ hp)
def Y3:RT Empty:=.obp (yaa n0 (aa ak f0)/\yaa n2 (aa ah f2)) (.obt (.br (bA n0 (aa ak f0) n2 (aa ah f2) x4==0) (.ob (bA n0 (aa ak f0) n2 (aa ah f2) x4==0) (.cb (.br (!aA x5 0 1000) (.brt (.ret (V.tup [V.agg [vi 0,vi 0],vi 7]))) (.br (bA n0 (aa ak f0) n2 (aa ah f2) x4 != 0) (.ret (V.tup [V.agg [vi 0,vi 0],vi (bA n0 (aa ak f0) n2 (aa ah f2) x4)])) (.ob (dI x4 n2) (.obp (nz 1000000) (.obt (.obp (nz 1000000) (.obt (.ret (V.tup [V.agg [vi (cw (wI (wI (wI (1000*bf (f2 x4.toNat))+wI (wI (db (f2 x4.toNat)-bf (f2 x4.toNat))*x5))*wI (1000-bf (ab (f2 x4.toNat))))) 1000000),vi (cX (wI (wI (wI (1000*bf (f2 x4.toNat))+wI (wI (db (f2 x4.toNat)-bf (f2 x4.toNat))*x5))*wI (1000+bf (ab (f2 x4.toNat))))) 1000000)],vi 0]))))))))))) (.br (bA n0 (aa ak f0) n2 (aa ah f2) x4 != 0) (.ret (V.tup [V.agg [vi 0,vi 0],vi (bA n0 (aa ak f0) n2 (aa ah f2) x4)])) (.ob (dI x4 n2) (.obp (nz 1000000) (.obt (.obp (nz 1000000) (.obt (.ret (V.tup [V.agg [vi (cw (wI (wI (wI (1000*bf (f2 x4.toNat))+wI (wI (db (f2 x4.toNat)-bf (f2 x4.toNat))*x5))*wI (1000-bf (ab (f2 x4.toNat))))) 1000000),vi (cX (wI (wI (wI (1000*bf (f2 x4.toNat))+wI (wI (db (f2 x4.toNat)-bf (f2 x4.toNat))*x5))*wI (1000+bf (ab (f2 x4.toNat))))) 1000000)],vi 0]))))))))))
theorem Ui:cJ cL (aP JJ xx u0 ahH [V.agg [V.sl n0 (aa ak f0),V.sl n2 (aa ah f2)],vi x4,vi x5]) (Y3 n0 f0 n2 f2 x4 x5):=⟨by kernel_rfl,by kernel_rfl⟩
theorem ahU (hp:yaa n0 (aa ak f0)/\yaa n2 (aa ah f2)):aR cq (Y3 n0 f0 n2 f2 x4 x5) (.tup [.agg [vi (uH n0 (aa ak f0) n2 (aa ah f2) x4 x5),vi (u9 n0 (aa ak f0) n2 (aa ah f2) x4 x5)],vi (RV n0 (aa ak f0) n2 (aa ah f2) x4 x5)]):=by
 refine evObp hp (evObt (evBr (fun h=>?_) (fun h=>evBr (fun h1=>evRet (kc (aaB (kZ h1)) (kZ h1))) (fun h1=>absurd (gE h1) (amD h)))))
 have h0:bA n0 (aa ak f0) n2 (aa ah f2) x4=0:=eq_of_beq h
 have hb:=afr h0
 exact aE h (aw (evObt (evBr (fun h1=>ec (evRet (kc ((F3 h0).trans (by rw[IF h1];rfl)) (by decide)))) (fun h1=>evBr (fun h2=>absurd h0 (kZ h2)) (fun h2=>aE (dqt hb.1) (evObp (by decide) (evObt (evObp (by decide) (evObt (evRet (zG ((F3 h0).trans (by rw[notf h1];rfl)))))))))))))
def ZY:aB:=bF [.agg [.sl ak,.sl ah],tI,tI] (fun
 |[.agg [.sl n0 f0,.sl n2 f2],.int _ x4,.int _ x5]=>yaa n0 f0/\yaa n2 f2
 |_=>False) fun
 |[.agg [.sl n0 f0,.sl n2 f2],.int _ x4,.int _ x5]=>.tup [.agg [vi (uH n0 f0 n2 f2 x4 x5),vi (u9 n0 f0 n2 f2 x4 x5)],vi (RV n0 f0 n2 f2 x4 x5)]
 |_=>.any
theorem ahJ:(vP ZY).Ok Tryz.prog 102:=bV u4 Tryz.func102 (by kernel_rfl) fun ds hp=>cQ (Ui ..) (ahU _ _ _ _ _ _ hp)
def xf:bj:=(176,.con XQ)::(98,.con YP)::(101,.con YX)::(102,.con ZY)::xx
theorem uw:aW Tryz.prog eqs its xf:=.con aiL (.con acz (.con acN (.con ahJ (u4))))
def XE (f2 f13 f15:Nat->List V) (i n:Int):Int:=cY (wI (n*yA n0 f0 n2 f2 (ar (f13 i.toNat)) (ar (f15 i.toNat)) (aQ (f15 i.toNat)) (ca (f15 i.toNat)))) 1000
def aa6:RT Empty:=dm (x4,n5,f5,n7,f7,n9,f9,n11,f11,s18,x19,x20,x21,x22,x23) (.ob (dI x17 n13) (.ob (dI x17 n15) (.obp (yaa n0 (aa ak f0)/\yaa n2 (aa ah f2)) (.obt (.obp (nz 1000) (.obt (.ret (vi (cH (wI (x24*yA n0 (aa ak f0) n2 (aa ah f2) (ar (f13 x17.toNat)) (ar (f15 x17.toNat)) (aQ (f15 x17.toNat)) (ca (f15 x17.toNat)))) 1000)))))))))
theorem Vm:cJ cL (aP JJ xf u0 ad0 [V.agg [V.sl n0 (aa ak f0),V.sl n2 (aa ah f2),vi x4,V.sl n5 (aa aJ f5),V.sl n7 (aa aU f7),V.sl n9 (aa aV f9),V.sl n11 (aa aH f11),V.sl n13 (aa ae f13),V.sl n15 (aa bQ f15),vi x17,V.str s18,vi x19,vi x20,vi x21,vi x22,vi x23],vi x24]) (aa6 n0 f0 n2 f2 x4 n5 f5 n7 f7 n9 f9 n11 f11 n13 f13 n15 f15 x17 s18 x19 x20 x21 x22 x23 x24):=⟨by kernel_rfl,by kernel_rfl⟩
theorem ahD (n0:Nat) (f0:aN) (n2:Nat) (f2:aN) (x4:Int) (n5:Nat) (f5:aN) (n7:Nat) (f7:aN) (n9:Nat) (f9:aN) (n11:Nat) (f11:aN) (n13:Nat) (f13:aN) (n15:Nat) (f15:aN) (x17:Int) (s18:ByteArray) (x19 x20 x21 x22 x23 x24:Int) (hp:(0<=x17/\x17<(n13:Int))/\(0<=x17/\x17<(n15:Int))/\(yaa n0 (aa ak f0)/\yaa n2 (aa ah f2))):aR cq (aa6 n0 f0 n2 f2 x4 n5 f5 n7 f7 n9 f9 n11 f11 n13 f13 n15 f15 x17 s18 x19 x20 x21 x22 x23 x24) (vi (XE n0 (aa ak f0) n2 (aa ah f2) (aa ae f13) (aa bQ f15) x17 x24)):=by
 obtain ⟨h0,h1,hz⟩:=hp
 exact aE (dqt h0) (aE (dqt h1) (evObp hz (evObt (evObp (by decide) (evObt (evRet rfl))))))
def aaq:aB:=bF [.agg [.sl ak,.sl ah,tI,.sl aJ,.sl aU,.sl aV,.sl aH,.sl ae,.sl bQ,tI,.str,tI,tI,tI,tI,tI],tI] (fun
 |[.agg [.sl n0 f0,.sl n2 f2,.int _ x4,.sl n5 f5,.sl n7 f7,.sl n9 f9,.sl n11 f11,.sl n13 f13,.sl n15 f15,.int _ x17,.str s18,.int _ x19,.int _ x20,.int _ x21,.int _ x22,.int _ x23],.int _ x24]=>(0<=x17/\x17<(n13:Int))/\(0<=x17/\x17<(n15:Int))/\(yaa n0 f0/\yaa n2 f2)
 |_=>False) fun
 |[.agg [.sl n0 f0,.sl n2 f2,.int _ x4,.sl n5 f5,.sl n7 f7,.sl n9 f9,.sl n11 f11,.sl n13 f13,.sl n15 f15,.int _ x17,.str s18,.int _ x19,.int _ x20,.int _ x21,.int _ x22,.int _ x23],.int _ x24]=>vi (XE n0 f0 n2 f2 f13 f15 x17 x24)
 |_=>.any
theorem aek:(vP aaq).Ok Tryz.prog 96:=bV uw Tryz.func96 (by kernel_rfl) fun ds hp=>cQ (Vm ..) (ahD _ _ _ _ _ _ _ _ _ _ _ _ _ _ _ _ _ _ _ _ _ _ _ _ _ hp)
def X6:RT Empty:=.br (decide (0<x0)) (.obp (nz x3) (.obt (.br (decide (x1<0)) (.obp (nz x3) (.obt (.ret (V.tup [vi (er (wI (x0*x2)) x3),vi (cY (wI (x1*x2)) x3)])))) (.ret (V.tup [vi (er (wI (x0*x2)) x3),vi x1]))))) (.br (decide (x1<0)) (.obp (nz x3) (.obt (.ret (V.tup [vi x0,vi (cY (wI (x1*x2)) x3)])))) (.ret (V.tup [vi x0,vi x1])))
theorem Xx:cJ cL (aP JJ xf u0 ad6 [vi x0,vi x1,vi x2,vi x3]) (X6 x0 x1 x2 x3):=⟨by kernel_rfl,by kernel_rfl⟩
def eP:Int:=bif decide (0<x0) then er (wI (x0*x2)) x3 else x0
def eO:Int:=bif decide (x1<0) then cY (wI (x1*x2)) x3 else x1
def w9:V:=.tup [vi (eP x0 x2 x3),vi (eO x1 x2 x3)]
theorem aeN (hp:x3=0->False):aR cq (X6 x0 x1 x2 x3) (w9 x0 x1 x2 x3):=evBr (fun h0=>evObp (by first|assumption|(exact hp)) (evObt (evBr (fun h1=>evObp (by first|assumption|(exact hp)) (evObt (evRet (by unfold w9 eP eO;try rw[h0];try rw[h1];rfl)))) (fun h1=>evRet (by unfold w9 eP eO;try rw[h0];try rw[h1];rfl))))) (fun h0=>evBr (fun h1=>evObp (by first|assumption|(exact hp)) (evObt (evRet (by unfold w9 eP eO;try rw[h0];try rw[h1];rfl)))) (fun h1=>evRet (by unfold w9 eP eO;try rw[h0];try rw[h1];rfl)))
def aaQ:aB:=bF je (fun
 |[.int _ x0,.int _ x1,.int _ x2,.int _ x3]=>x3=0->False
 |_=>False) fun
 |[.int _ x0,.int _ x1,.int _ x2,.int _ x3]=>w9 x0 x1 x2 x3
 |_=>.any
theorem ab2:(vP aaQ).Ok Tryz.prog 174:=bV uw Tryz.func174 (by kernel_rfl) fun ds hp=>cQ (Xx ..) (aeN _ _ _ _ hp)
def M8:RT Empty:=.br (decide (0<x0)) (.obp (nz x3) (.obt (.br (decide (x1<0)) (.obp (nz x3) (.obt (.ret (V.tup [vi (cP (wI (x0*x2)) x3),vi (cH (wI (x1*x2)) x3)])))) (.ret (V.tup [vi (cP (wI (x0*x2)) x3),vi x1]))))) (.br (decide (x1<0)) (.obp (nz x3) (.obt (.ret (V.tup [vi x0,vi (cH (wI (x1*x2)) x3)])))) (.ret (V.tup [vi x0,vi x1])))
theorem Uh:cJ cL (aP JJ xf u0 ahi [vi x0,vi x1,V.pd [vi x2],V.pd [vi x3]]) (M8 x0 x1 x2 x3):=⟨by kernel_rfl,by kernel_rfl⟩
theorem aex (hp:x3=0->False):aR cq (M8 x0 x1 x2 x3) (.tup [vi (eP x0 x2 x3),vi (eO x1 x2 x3)]):=by
 unfold M8
 rw [al9,ZR]
 refine evBr (fun h=>evObp hp (evObt (evBr (fun k=>evObp hp (evObt (evRet ?_))) (fun k=>evRet ?_)))) (fun h=>evBr (fun k=>evObp hp (evObt (evRet ?_))) (fun k=>evRet ?_))
 all_goals
  unfold eP eO
  rw [h,k]
  rfl
def aa4:aB:=bF [tI,tI,.pd ae,.pd ae] (fun
 |[.int _ x0,.int _ x1,.pd [.int _ x2],.pd [.int _ x3]]=>x3=0->False
 |_=>False) fun
 |[.int _ x0,.int _ x1,.pd [.int _ x2],.pd [.int _ x3]]=>.tup [vi (eP x0 x2 x3),vi (eO x1 x2 x3)]
 |_=>.any
theorem afs:(vP aa4).Ok Tryz.prog 160:=bV uw Tryz.func160 (by kernel_rfl) fun ds hp=>cQ (Uh ..) (aex _ _ _ _ hp)
def aap:RT Empty:=dm (n0,f0,n2,f2,x4,n5,f5,n7,f7,n9,f9,n11,f11,n13,f13,n15,f15,x17,s18,x21,x22,x23) (.cb (.cb (.ret (V.tup [vi (wI (kV (wI (x24-x19)) (wI (x26-x19))+kV (wI (x25-x20)) (wI (x27-x20)))),vi (wI (lJ (wI (x24-x19)) (wI (x26-x19))+lJ (wI (x25-x20)) (wI (x27-x20))))]))))
theorem S5:cJ cL (aP JJ xf u0 Mk [V.agg [V.sl n0 (aa ak f0),V.sl n2 (aa ah f2),vi x4,V.sl n5 (aa aJ f5),V.sl n7 (aa aU f7),V.sl n9 (aa aV f9),V.sl n11 (aa aH f11),V.sl n13 (aa ae f13),V.sl n15 (aa bQ f15),vi x17,V.str s18,vi x19,vi x20,vi x21,vi x22,vi x23],V.agg [vi x24,vi x25,vi x26,vi x27]]) (aap n0 f0 n2 f2 x4 n5 f5 n7 f7 n9 f9 n11 f11 n13 f13 n15 f15 x17 s18 x19 x20 x21 x22 x23 x24 x25 x26 x27):=⟨by kernel_rfl,by kernel_rfl⟩
def GO:Int:=wI (kV (wI (x24-x19)) (wI (x26-x19))+kV (wI (x25-x20)) (wI (x27-x20)))
def Gp:Int:=wI (lJ (wI (x24-x19)) (wI (x26-x19))+lJ (wI (x25-x20)) (wI (x27-x20)))
def Kh:V:=dm (n0,f0,n2,f2,x4,n5,f5,n7,f7,n9,f9,n11,f11,n13,f13,n15,f15,x17,s18,x21,x22,x23) (.tup [vi (GO x19 x20 x24 x25 x26 x27),vi (Gp x19 x20 x24 x25 x26 x27)])
theorem agx:aR cq (aap n0 f0 n2 f2 x4 n5 f5 n7 f7 n9 f9 n11 f11 n13 f13 n15 f15 x17 s18 x19 x20 x21 x22 x23 x24 x25 x26 x27) (Kh n0 f0 n2 f2 x4 n5 f5 n7 f7 n9 f9 n11 f11 n13 f13 n15 f15 x17 s18 x19 x20 x21 x22 x23 x24 x25 x26 x27):=aw (evObt (aw (evObt (evRet (by unfold Kh GO Gp;rfl)))))
def Yj:aB:=bF [.agg [.sl ak,.sl ah,tI,.sl aJ,.sl aU,.sl aV,.sl aH,.sl ae,.sl bQ,tI,.str,tI,tI,tI,tI,tI],.agg je] (fun _=>True) fun
 |[.agg [.sl n0 f0,.sl n2 f2,.int _ x4,.sl n5 f5,.sl n7 f7,.sl n9 f9,.sl n11 f11,.sl n13 f13,.sl n15 f15,.int _ x17,.str s18,.int _ x19,.int _ x20,.int _ x21,.int _ x22,.int _ x23],.agg [.int _ x24,.int _ x25,.int _ x26,.int _ x27]]=>Kh n0 f0 n2 f2 x4 n5 f5 n7 f7 n9 f9 n11 f11 n13 f13 n15 f15 x17 s18 x19 x20 x21 x22 x23 x24 x25 x26 x27
 |_=>.any
theorem agk:(vP Yj).Ok Tryz.prog 113:=bV uw Tryz.func113 (by kernel_rfl) fun ds hp=>cQ (S5 ..) (agx _ _ _ _ _ _ _ _ _ _ _ _ _ _ _ _ _ _ _ _ _ _ _ _ _ _ _ _)
def CW:bj:=(96,.con aaq)::(174,.con aaQ)::(160,.con aa4)::(113,.con Yj)::xf
theorem HK:aW Tryz.prog eqs its CW:=.con aek (.con ab2 (.con afs (.con agk (uw))))
def ZD:RT Empty:=dm (x4,n5,f5,n7,f7,n9,f9,n11,f11,n15,f15,s18,x19,x20,x21,x22,x23) (.ob (dI x17 n13) (.ob (dI (ar (f13 x17.toNat)) n2) (.ob (dI (aQ (f2 (ar (f13 x17.toNat)).toNat)) n0) (.ret (V.agg [V.str (sv (ap (f0 (aQ (f2 (ar (f13 x17.toNat)).toNat)).toNat))),V.sl (au (ap (ab (f0 (aQ (f2 (ar (f13 x17.toNat)).toNat)).toNat)))) fun i=>al ae (aX (ap (ab (f0 (aQ (f2 (ar (f13 x17.toNat)).toNat)).toNat))) i),V.sl (au (ap (ab (ab (f0 (aQ (f2 (ar (f13 x17.toNat)).toNat)).toNat))))) fun i=>al ae (aX (ap (ab (ab (f0 (aQ (f2 (ar (f13 x17.toNat)).toNat)).toNat)))) i),V.sl (au (ap (ab (ab (ab (f0 (aQ (f2 (ar (f13 x17.toNat)).toNat)).toNat)))))) fun i=>al [Ty.sl ae] (aX (ap (ab (ab (ab (f0 (aQ (f2 (ar (f13 x17.toNat)).toNat)).toNat))))) i),vi (db (f0 (aQ (f2 (ar (f13 x17.toNat)).toNat)).toNat)),vi (bf (f0 (aQ (f2 (ar (f13 x17.toNat)).toNat)).toNat))])))))
theorem XM:cJ cL (KG JJ CW u0 aer [V.agg [V.sl n0 (aa ak f0),V.sl n2 (aa ah f2),vi x4,V.sl n5 (aa aJ f5),V.sl n7 (aa aU f7),V.sl n9 (aa aV f9),V.sl n11 (aa aH f11),V.sl n13 (aa ae f13),V.sl n15 (aa bQ f15),vi x17,V.str s18,vi x19,vi x20,vi x21,vi x22,vi x23]]) (ZD n0 f0 n2 f2 x4 n5 f5 n7 f7 n9 f9 n11 f11 n13 f13 n15 f15 x17 s18 x19 x20 x21 x22 x23):=⟨by kernel_rfl,by kernel_rfl⟩
def Gd:List Ty:=[.agg [.sl ak,.sl ah,tI,.sl aJ,.sl aU,.sl aV,.sl aH,.sl ae,.sl bQ,tI,.str,tI,tI,tI,tI,tI]]
def nP (n0 n2:Nat) (f2:aN) (n13:Nat) (f13:aN) (x17:Int):Prop:=(0<=x17/\x17<(n13:Int))/\(0<=(ar (f13 x17.toNat))/\(ar (f13 x17.toNat))<(n2:Int))/\(0<=(aQ (f2 (ar (f13 x17.toNat)).toNat))/\(aQ (f2 (ar (f13 x17.toNat)).toNat))<(n0:Int))
def amT:List V->Prop
 |[.agg [.sl n0 f0,.sl n2 f2,.int _ x4,.sl n5 f5,.sl n7 f7,.sl n9 f9,.sl n11 f11,.sl n13 f13,.sl n15 f15,.int _ x17,.str s18,.int _ x19,.int _ x20,.int _ x21,.int _ x22,.int _ x23]]=>nP n0 n2 f2 n13 f13 x17
 |_=>False
def XX:List V->V
 |[.agg [.sl n0 f0,.sl n2 f2,.int _ x4,.sl n5 f5,.sl n7 f7,.sl n9 f9,.sl n11 f11,.sl n13 f13,.sl n15 f15,.int _ x17,.str s18,.int _ x19,.int _ x20,.int _ x21,.int _ x22,.int _ x23]]=>.agg (f0 (aQ (f2 (ar (f13 x17.toNat)).toNat)).toNat)
 |_=>.any
def PF:aB:=bF Gd amT XX
theorem acM (hp:nP n0 n2 (aa ah f2) n13 (aa ae f13) x17):aR cq (ZD n0 f0 n2 f2 x4 n5 f5 n7 f7 n9 f9 n11 f11 n13 f13 n15 f15 x17 s18 x19 x20 x21 x22 x23) (.agg (aa ak f0 (aQ (aa ah f2 (ar (aa ae f13 x17.toNat)).toNat)).toNat)):=aE (dqt hp.1) (aE (dqt hp.2.1) (aE (dqt hp.2.2) (evRet rfl)))
theorem Of (ds:List V):dd (XX (al Gd ds)):=by
 show dd (.agg [V.str _,V.sl _ (aa ae _),V.sl _ (aa ae _),V.sl _ (aa [Ty.sl ae] _),V.int _ _,V.int _ _])
 simp only [dd,fO,true_and,and_true]
 exact ⟨fun i hi=>iq _,fun i hi=>iq _,fun i hi=>xe _⟩
theorem Sq:∀ ds d p r,PF ds=some (d,p,r)->d.1=d.2->p->∀ w0 lh args,bl w0 lh Nu.nil ds args->∃ x new,vr w0 (lh++new) Nu.nil r x:=yq (fun ds hty hp w0 lh args ha=>by
 change nP _ _ _ _ _ _ at hp
 change bl w0 lh Nu.nil [V.agg (V.sl _ (aa ak _)::_)] args at ha
 simp only [bl]at ha
 obtain ⟨a,as1,rfl,h1,rfl⟩:=ha
 rw [vr.eq_5]at h1
 obtain ⟨cs,rfl,h1⟩:=h1
 rw [bl.eq_2]at h1
 obtain ⟨c0,_,rfl,g0,_⟩:=h1
 rw [vr.eq_8]at g0
 obtain ⟨p,c,esz,_,_,_,_,hall⟩:=g0
 obtain ⟨q,as2,_,_,hv,_⟩:=hall _ ((Int.toNat_lt hp.2.2.1).2 hp.2.2.2)
 refine ⟨.agg as2,[],?_⟩
 rw [List.append_nil]
 show vr w0 lh Nu.nil (.agg _) _
 rw [vr.eq_5]
 exact ⟨as2,rfl,hv⟩) rfl
theorem aiz:(vZ PF).Ok Tryz.prog 97:=adj HK Tryz.func97 (by kernel_rfl) (fun ds _=>Of ds) fun ds hp=>cQ (XM ..) (acM _ _ _ _ _ _ _ _ _ _ _ _ _ _ _ _ _ _ _ _ _ _ _ _ hp)
def Gt:bj:=(97,.conZ PF Sq)::CW
theorem DL:aW Tryz.prog eqs its Gt:=.conZ aiz (HK)
def mj (h w:Int):Int:=wI (wI (100*h)-wI (100*w))
def B7 (cx cy h a c d e lo hi:Int):Int:=max (wI (wI (nB (wI (a-cx)) (wI (d-cx))+nB (wI (c-cy)) (wI (e-cy)))+nB (mj h hi) (mj h lo))) 1
def wnW (f2 f13 f15:Nat->List V) (x17 cx cy dx dy a c d e flat deep:Int):Int:=gU n0 f0 n2 f2 (ar (f13 x17.toNat)) (ar (f15 x17.toNat)) (aQ (f15 x17.toNat)) (ca (f15 x17.toNat)) (eP (kT cx cy dx dy a c d e) flat deep) (eO (lq cx cy dx dy a c d e) flat deep) (eP (lC cx cy dx dy a c d e) flat deep) (eO (lF cx cy dx dy a c d e) flat deep) flat
def wnI (f2 f13 f15:Nat->List V) (x17 cx cy h dx dy a c d e lo hi:Int):Int:=bif decide (mj h lo<=0) then XE n0 f0 n2 f2 f13 f15 x17 (bf (f0 (aQ (f2 (ar (f13 x17.toNat)).toNat)).toNat)) else bif decide (mj h hi<=0) then XE n0 f0 n2 f2 f13 f15 x17 (max (ma (Fi (f0 (aQ (f2 (ar (f13 x17.toNat)).toNat)).toNat)) (tR (f0 (aQ (f2 (ar (f13 x17.toNat)).toNat)).toNat)) (db (f0 (aQ (f2 (ar (f13 x17.toNat)).toNat)).toNat))) (bf (f0 (aQ (f2 (ar (f13 x17.toNat)).toNat)).toNat))) else wnW n0 f0 n2 f2 f13 f15 x17 cx cy dx dy a c d e (mj h hi) (mj h lo)
def Iq (f2 f13 f15:Nat->List V) (x17 cx cy h dx dy a c d e lo hi:Int):Int:=cY (wI (1000000*wnI n0 f0 n2 f2 f13 f15 x17 cx cy h dx dy a c d e lo hi)) (B7 cx cy h a c d e lo hi)
def TS (f0 f2 f13:Nat->List V) (x17:Int):Prop:=∀ i,i<Fi (f0 (aQ (f2 (ar (f13 x17.toNat)).toNat)).toNat)->1<=au (ap (tR (f0 (aQ (f2 (ar (f13 x17.toNat)).toNat)).toNat) i))
theorem aaD (cx cy h a c d e lo hi:Int):B7 cx cy h a c d e lo hi=0->False:=by unfold B7;omega
def QG:RT Empty:=dm (x4,n5,f5,n7,f7,n9,f9,n11,f11,s18) (.cb (.cb (.cb (.cb (.br (decide (mj x21 x28<=0)) (.obp (((0:Int)<=x17/\x17<(↑n13:Int))/\((0:Int)<=ar (f13 x17.toNat)/\ar (f13 x17.toNat)<(↑n2:Int))/\(0:Int)<=aQ (f2 (ar (f13 x17.toNat)).toNat)/\aQ (f2 (ar (f13 x17.toNat)).toNat)<(↑n0:Int)) (.obt (.obp (((0:Int)<=x17/\x17<(↑n13:Int))/\((0:Int)<=x17/\x17<(↑n15:Int))/\yaa n0 (aa ak f0)/\yaa n2 (aa ah f2)) (.obt (.obp (nz (B7 x19 x20 x21 x24 x25 x26 x27 x28 x29)) (.obt (.ret (vi (cH (wI (1000000*XE n0 (aa ak f0) n2 (aa ah f2) (aa ae f13) (aa bQ f15) x17 (bf (f0 (aQ (f2 (ar (f13 x17.toNat)).toNat)).toNat)))) (B7 x19 x20 x21 x24 x25 x26 x27 x28 x29)))))))))) (.br (decide (mj x21 x29<=0)) (.obp (((0:Int)<=x17/\x17<(↑n13:Int))/\((0:Int)<=ar (f13 x17.toNat)/\ar (f13 x17.toNat)<(↑n2:Int))/\(0:Int)<=aQ (f2 (ar (f13 x17.toNat)).toNat)/\aQ (f2 (ar (f13 x17.toNat)).toNat)<(↑n0:Int)) (.obt (.obp (∀ (i:Nat),i<au (ap (ab (ab (ab (f0 (aQ (f2 (ar (f13 x17.toNat)).toNat)).toNat)))))->(1:Nat)<=au (ap (aX (ap (ab (ab (ab (f0 (aQ (f2 (ar (f13 x17.toNat)).toNat)).toNat))))) i))) (.obt (.obp (((0:Int)<=x17/\x17<(↑n13:Int))/\((0:Int)<=ar (f13 x17.toNat)/\ar (f13 x17.toNat)<(↑n2:Int))/\(0:Int)<=aQ (f2 (ar (f13 x17.toNat)).toNat)/\aQ (f2 (ar (f13 x17.toNat)).toNat)<(↑n0:Int)) (.obt (.obp (((0:Int)<=x17/\x17<(↑n13:Int))/\((0:Int)<=x17/\x17<(↑n15:Int))/\yaa n0 (aa ak f0)/\yaa n2 (aa ah f2)) (.obt (.obp (nz (B7 x19 x20 x21 x24 x25 x26 x27 x28 x29)) (.obt (.ret (vi (cH (wI (1000000*XE n0 (aa ak f0) n2 (aa ah f2) (aa ae f13) (aa bQ f15) x17 (max (nT (au (ap (ab (ab (ab (f0 (aQ (f2 (ar (f13 x17.toNat)).toNat)).toNat)))))) (fun i=>al [Ty.sl ae] (aX (ap (ab (ab (ab (f0 (aQ (aa ah f2 (ar (aa ae f13 x17.toNat)).toNat)).toNat))))) i)) (db (f0 (aQ (f2 (ar (f13 x17.toNat)).toNat)).toNat))) (bf (f0 (aQ (f2 (ar (f13 x17.toNat)).toNat)).toNat))))) (B7 x19 x20 x21 x24 x25 x26 x27 x28 x29)))))))))))))) (.obp (Hd x22 x23/\ir x19/\ir x20/\ir x24/\ir x25/\ir x26/\ir x27) (.obt (.obp (nz (mj x21 x28)) (.obt (.obp (nz (mj x21 x28)) (.obt (.ob (dI x17 n13) (.ob (dI x17 n15) (.obp (yaa n0 (aa ak f0)/\yaa n2 (aa ah f2)) (.obt (.obp (nz (B7 x19 x20 x21 x24 x25 x26 x27 x28 x29)) (.obt (.ret (vi (cH (wI (1000000*fk n0 (aa ak f0) n2 (aa ah f2) (ar (f13 x17.toNat)) (ar (f15 x17.toNat)) (aQ (f15 x17.toNat)) (ca (f15 x17.toNat)) (eP (kT x19 x20 x22 x23 x24 x25 x26 x27) (mj x21 x29) (mj x21 x28)) (eO (lq x19 x20 x22 x23 x24 x25 x26 x27) (mj x21 x29) (mj x21 x28)) (eP (lC x19 x20 x22 x23 x24 x25 x26 x27) (mj x21 x29) (mj x21 x28)) (eO (lF x19 x20 x22 x23 x24 x25 x26 x27) (mj x21 x29) (mj x21 x28)) (mj x21 x29))) (B7 x19 x20 x21 x24 x25 x26 x27 x28 x29))))))))))))))))))))))
theorem VW:cJ cL (aP JJ Gt u0 acp [V.agg [V.sl n0 (aa ak f0),V.sl n2 (aa ah f2),vi x4,V.sl n5 (aa aJ f5),V.sl n7 (aa aU f7),V.sl n9 (aa aV f9),V.sl n11 (aa aH f11),V.sl n13 (aa ae f13),V.sl n15 (aa bQ f15),vi x17,V.str s18,vi x19,vi x20,vi x21,vi x22,vi x23],V.agg [vi x24,vi x25,vi x26,vi x27,vi x28,vi x29]]) (QG n0 f0 n2 f2 x4 n5 f5 n7 f7 n9 f9 n11 f11 n13 f13 n15 f15 x17 s18 x19 x20 x21 x22 x23 x24 x25 x26 x27 x28 x29):=⟨by kernel_rfl,by kernel_rfl⟩
theorem acO (n0:Nat) (f0:aN) (n2:Nat) (f2:aN) (x4:Int) (n5:Nat) (f5:aN) (n7:Nat) (f7:aN) (n9:Nat) (f9:aN) (n11:Nat) (f11:aN) (n13:Nat) (f13:aN) (n15:Nat) (f15:aN) (x17:Int) (s18:ByteArray) (x19 x20 x21 x22 x23 x24 x25 x26 x27 x28 x29:Int) (hp:(0<=x17/\x17<(n13:Int))/\(0<=x17/\x17<(n15:Int))/\(yaa n0 (aa ak f0)/\yaa n2 (aa ah f2))/\nP n0 n2 (aa ah f2) n13 (aa ae f13) x17/\TS (aa ak f0) (aa ah f2) (aa ae f13) x17/\Hd x22 x23/\ir x19/\ir x20/\ir x24/\ir x25/\ir x26/\ir x27):aR cq (QG n0 f0 n2 f2 x4 n5 f5 n7 f7 n9 f9 n11 f11 n13 f13 n15 f15 x17 s18 x19 x20 x21 x22 x23 x24 x25 x26 x27 x28 x29) (vi (Iq n0 (aa ak f0) n2 (aa ah f2) (aa ae f13) (aa bQ f15) x17 x19 x20 x21 x22 x23 x24 x25 x26 x27 x28 x29)):=by
 obtain ⟨h0,h1,hz,hx,hr,hd,hp⟩:=hp
 unfold QG
 rw [ZR,(aiS ..).2.1]
 have hk:=aaD x19 x20 x21 x24 x25 x26 x27 x28 x29
 refine aw (evObt (aw (evObt (aw (evObt (aw (evObt (evBr (fun h=>(evObp hx (evObt (evObp ⟨h0,h1,hz⟩ (evObt (evObp hk (evObt (evRet ?_)))))))) (fun h=>evBr (fun h2=>(evObp hx (evObt (evObp hr (evObt (evObp hx (evObt (evObp ⟨h0,h1,hz⟩ (evObt (evObp hk (evObt (evRet ?_)))))))))))) (fun h2=>(evObp ⟨hd,hp⟩ (evObt (evObp ?_ (evObt (evObp ?_ (evObt (aE (dqt h0) (aE (dqt h1) (evObp hz (evObt (evObp hk (evObt (evRet ?_)))))))))))))))))))))))
 ·unfold Iq wnI
  rw [h];rfl
 ·unfold Iq wnI
  rw [h,h2]
  exact congrArg (fun z=>ce (vi (cY (wI (1000000*XE n0 (aa ak f0) n2 (aa ah f2) (aa ae f13) (aa bQ f15) x17 (max z _))) (B7 x19 x20 x21 x24 x25 x26 x27 x28 x29)))) (to hr)
 ·exact fun e=>of_decide_eq_false h (Int.le_of_eq e)
 ·exact fun e=>of_decide_eq_false h (Int.le_of_eq e)
 ·unfold Iq wnI
  rw [h,h2];rfl
def Y8:aB:=bF [.agg [.sl ak,.sl ah,tI,.sl aJ,.sl aU,.sl aV,.sl aH,.sl ae,.sl bQ,tI,.str,tI,tI,tI,tI,tI],.agg [tI,tI,tI,tI,tI,tI]] (fun
 |[.agg [.sl n0 f0,.sl n2 f2,.int _ x4,.sl n5 f5,.sl n7 f7,.sl n9 f9,.sl n11 f11,.sl n13 f13,.sl n15 f15,.int _ x17,.str s18,.int _ x19,.int _ x20,.int _ x21,.int _ x22,.int _ x23],.agg [.int _ x24,.int _ x25,.int _ x26,.int _ x27,.int _ x28,.int _ x29]]=>(0<=x17/\x17<(n13:Int))/\(0<=x17/\x17<(n15:Int))/\(yaa n0 f0/\yaa n2 f2)/\nP n0 n2 f2 n13 f13 x17/\TS f0 f2 f13 x17/\Hd x22 x23/\ir x19/\ir x20/\ir x24/\ir x25/\ir x26/\ir x27
 |_=>False) fun
 |[.agg [.sl n0 f0,.sl n2 f2,.int _ x4,.sl n5 f5,.sl n7 f7,.sl n9 f9,.sl n11 f11,.sl n13 f13,.sl n15 f15,.int _ x17,.str s18,.int _ x19,.int _ x20,.int _ x21,.int _ x22,.int _ x23],.agg [.int _ x24,.int _ x25,.int _ x26,.int _ x27,.int _ x28,.int _ x29]]=>vi (Iq n0 f0 n2 f2 f13 f15 x17 x19 x20 x21 x22 x23 x24 x25 x26 x27 x28 x29)
 |_=>.any
theorem agz:(vP Y8).Ok Tryz.prog 80:=bV DL Tryz.func80 (by kernel_rfl) fun ds hp=>cQ (VW ..) (acO _ _ _ _ _ _ _ _ _ _ _ _ _ _ _ _ _ _ _ _ _ _ _ _ _ _ _ _ _ _ hp)
def XR:RT Empty:=dm (x4,n5,f5,n7,f7,n9,f9) (.ob (dI x17 n11) (.ob (dI x17 n13) (.ob (dI (ar (f13 x17.toNat)) n2) (.ob (dI (aQ (f2 (ar (f13 x17.toNat)).toNat)) n0) (.cb (.cb (.cb (.ob (dI x17 n13) (.ob (dI x17 n15) (.obp (yaa n0 (aa ak f0)/\yaa n2 (aa ah f2)) (.obt (.br (decide (mj (bW (f11 x17.toNat)) x22<=0)) (.obp (nz 1000) (.obt (.obp (nz (B7 (aQ (f11 x17.toNat)) (ca (f11 x17.toNat)) (bW (f11 x17.toNat)) x18 x19 x20 x21 x22 x23)) (.obt (.ret (vi (cY (wI (1000000*cY (wI (bf (f0 (aQ (f2 (ar (f13 x17.toNat)).toNat)).toNat)*yA n0 (aa ak f0) n2 (aa ah f2) (ar (f13 x17.toNat)) (ar (f15 x17.toNat)) (aQ (f15 x17.toNat)) (ca (f15 x17.toNat)))) 1000)) (B7 (aQ (f11 x17.toNat)) (ca (f11 x17.toNat)) (bW (f11 x17.toNat)) x18 x19 x20 x21 x22 x23)))))))) (.br (decide (mj (bW (f11 x17.toNat)) x23<=0)) (.cb (.obp (nz 1000) (.obt (.obp (nz (B7 (aQ (f11 x17.toNat)) (ca (f11 x17.toNat)) (bW (f11 x17.toNat)) x18 x19 x20 x21 x22 x23)) (.obt (.ret (vi (cY (wI (1000000*cY (wI (max (ma (au (ap (ab (ab (ab (f0 (aQ (f2 (ar (f13 x17.toNat)).toNat)).toNat)))))) (fun i=>al [Ty.sl ae] (aX (ap (ab (ab (ab (f0 (aQ (f2 (ar (f13 x17.toNat)).toNat)).toNat))))) i)) (db (f0 (aQ (f2 (ar (f13 x17.toNat)).toNat)).toNat))) (bf (f0 (aQ (f2 (ar (f13 x17.toNat)).toNat)).toNat))*yA n0 (aa ak f0) n2 (aa ah f2) (ar (f13 x17.toNat)) (ar (f15 x17.toNat)) (aQ (f15 x17.toNat)) (ca (f15 x17.toNat)))) 1000)) (B7 (aQ (f11 x17.toNat)) (ca (f11 x17.toNat)) (bW (f11 x17.toNat)) x18 x19 x20 x21 x22 x23))))))))) (.obp ((cW (wI (1000000*wI (wI (db (f11 x17.toNat)*db (f11 x17.toNat))+wI (bf (f11 x17.toNat)*bf (f11 x17.toNat)))))=(0:Int)->False)/\(dA (wI (1000000*wI (wI (db (f11 x17.toNat)*db (f11 x17.toNat))+wI (bf (f11 x17.toNat)*bf (f11 x17.toNat)))))=(0:Int)->False)) (.obt (.obp (nz (mj (bW (f11 x17.toNat)) x22)) (.obt (.obp (nz (mj (bW (f11 x17.toNat)) x22)) (.obt (.ob (dI x17 n13) (.ob (dI x17 n15) (.obp (yaa n0 (aa ak f0)/\yaa n2 (aa ah f2)) (.obt (.obp (nz (B7 (aQ (f11 x17.toNat)) (ca (f11 x17.toNat)) (bW (f11 x17.toNat)) x18 x19 x20 x21 x22 x23)) (.obt (.ret (vi (cY (wI (1000000*gU n0 (aa ak f0) n2 (aa ah f2) (ar (f13 x17.toNat)) (ar (f15 x17.toNat)) (aQ (f15 x17.toNat)) (ca (f15 x17.toNat)) (eP (kT (aQ (f11 x17.toNat)) (ca (f11 x17.toNat)) (db (f11 x17.toNat)) (bf (f11 x17.toNat)) x18 x19 x20 x21) (mj (bW (f11 x17.toNat)) x23) (mj (bW (f11 x17.toNat)) x22)) (eO (lq (aQ (f11 x17.toNat)) (ca (f11 x17.toNat)) (db (f11 x17.toNat)) (bf (f11 x17.toNat)) x18 x19 x20 x21) (mj (bW (f11 x17.toNat)) x23) (mj (bW (f11 x17.toNat)) x22)) (eP (lC (aQ (f11 x17.toNat)) (ca (f11 x17.toNat)) (db (f11 x17.toNat)) (bf (f11 x17.toNat)) x18 x19 x20 x21) (mj (bW (f11 x17.toNat)) x23) (mj (bW (f11 x17.toNat)) x22)) (eO (lF (aQ (f11 x17.toNat)) (ca (f11 x17.toNat)) (db (f11 x17.toNat)) (bf (f11 x17.toNat)) x18 x19 x20 x21) (mj (bW (f11 x17.toNat)) x23) (mj (bW (f11 x17.toNat)) x22)) (mj (bW (f11 x17.toNat)) x23))) (B7 (aQ (f11 x17.toNat)) (ca (f11 x17.toNat)) (bW (f11 x17.toNat)) x18 x19 x20 x21 x22 x23)))))))))))))))))))))))))))))
theorem Ue:cJ cL (aP JJ Gt u0 aix [V.agg [V.sl n0 (aa ak f0),V.sl n2 (aa ah f2),vi x4,V.sl n5 (aa aJ f5),V.sl n7 (aa aU f7),V.sl n9 (aa aV f9),V.sl n11 (aa aH f11),V.sl n13 (aa ae f13),V.sl n15 (aa bQ f15)],vi x17,V.agg [vi x18,vi x19,vi x20,vi x21,vi x22,vi x23]]) (XR n0 f0 n2 f2 x4 n5 f5 n7 f7 n9 f9 n11 f11 n13 f13 n15 f15 x17 x18 x19 x20 x21 x22 x23):=⟨by kernel_rfl,by kernel_rfl⟩
theorem ac8 (n0:Nat) (f0:aN) (n2:Nat) (f2:aN) (x4:Int) (n5:Nat) (f5:aN) (n7:Nat) (f7:aN) (n9:Nat) (f9:aN) (n11:Nat) (f11:aN) (n13:Nat) (f13:aN) (n15:Nat) (f15:aN) (x17 x18 x19 x20 x21 x22 x23:Int) (hp:(0<=x17/\x17<(n13:Int))/\(0<=x17/\x17<(n15:Int))/\(0<=x17/\x17<(n11:Int))/\(yaa n0 (aa ak f0)/\yaa n2 (aa ah f2))/\nP n0 n2 (aa ah f2) n13 (aa ae f13) x17/\Hd (db ((aa aH f11) x17.toNat)) (bf ((aa aH f11) x17.toNat))):aR cq (XR n0 f0 n2 f2 x4 n5 f5 n7 f7 n9 f9 n11 f11 n13 f13 n15 f15 x17 x18 x19 x20 x21 x22 x23) (vi (Iq n0 (aa ak f0) n2 (aa ah f2) (aa ae f13) (aa bQ f15) x17 (aQ ((aa aH f11) x17.toNat)) (ca ((aa aH f11) x17.toNat)) (bW ((aa aH f11) x17.toNat)) (db ((aa aH f11) x17.toNat)) (bf ((aa aH f11) x17.toNat)) x18 x19 x20 x21 x22 x23)):=by
 obtain ⟨h0,h1,h2,hz,hx,hd⟩:=hp
 have hk:=aaD (aQ (f11 x17.toNat)) (ca (f11 x17.toNat)) (bW (f11 x17.toNat)) x18 x19 x20 x21 x22 x23
 refine aE (dqt h2) (aE (dqt h0) (aE (dqt hx.2.1) (aE (dqt hx.2.2) (aw (evObt (aw (evObt (aw (evObt (aE (dqt h0) (aE (dqt h1) (evObp hz (evObt (evBr (fun h=>(evObp (by decide) (evObt (evObp hk (evObt (evRet ?_)))))) (fun h=>evBr (fun k=>aw (evObt (evObp (by decide) (evObt (evObp hk (evObt (evRet ?_))))))) (fun k=>(evObp (adP hd) (evObt (evObp ?_ (evObt (evObp ?_ (evObt (aE (dqt h0) (aE (dqt h1) (evObp hz (evObt (evObp hk (evObt (evRet ?_)))))))))))))))))))))))))))))
 ·unfold Iq wnI
  rw [show decide (mj (bW (aa aH f11 x17.toNat)) x22<=0)=true from h];rfl
 ·unfold Iq wnI
  rw [show decide (mj (bW (aa aH f11 x17.toNat)) x22<=0)=false from h,show decide (mj (bW (aa aH f11 x17.toNat)) x23<=0)=true from k];rfl
 ·exact fun e=>of_decide_eq_false h (Int.le_of_eq e)
 ·exact fun e=>of_decide_eq_false h (Int.le_of_eq e)
 ·unfold Iq wnI
  rw [show decide (mj (bW (aa aH f11 x17.toNat)) x22<=0)=false from h,show decide (mj (bW (aa aH f11 x17.toNat)) x23<=0)=false from k];rfl
def aa2:aB:=bF [.agg [.sl ak,.sl ah,tI,.sl aJ,.sl aU,.sl aV,.sl aH,.sl ae,.sl bQ],tI,.agg [tI,tI,tI,tI,tI,tI]] (fun
 |[.agg [.sl n0 f0,.sl n2 f2,.int _ x4,.sl n5 f5,.sl n7 f7,.sl n9 f9,.sl n11 f11,.sl n13 f13,.sl n15 f15],.int _ x17,.agg [.int _ x18,.int _ x19,.int _ x20,.int _ x21,.int _ x22,.int _ x23]]=>(0<=x17/\x17<(n13:Int))/\(0<=x17/\x17<(n15:Int))/\(0<=x17/\x17<(n11:Int))/\(yaa n0 f0/\yaa n2 f2)/\nP n0 n2 f2 n13 f13 x17/\Hd (db (f11 x17.toNat)) (bf (f11 x17.toNat))
 |_=>False) fun
 |[.agg [.sl n0 f0,.sl n2 f2,.int _ x4,.sl n5 f5,.sl n7 f7,.sl n9 f9,.sl n11 f11,.sl n13 f13,.sl n15 f15],.int _ x17,.agg [.int _ x18,.int _ x19,.int _ x20,.int _ x21,.int _ x22,.int _ x23]]=>vi (Iq n0 f0 n2 f2 f13 f15 x17 (aQ (f11 x17.toNat)) (ca (f11 x17.toNat)) (bW (f11 x17.toNat)) (db (f11 x17.toNat)) (bf (f11 x17.toNat)) x18 x19 x20 x21 x22 x23)
 |_=>.any
theorem ac7:(vP aa2).Ok Tryz.prog 95:=bV DL Tryz.func95 (by kernel_rfl) fun ds hp=>cQ (Ue ..) (ac8 _ _ _ _ _ _ _ _ _ _ _ _ _ _ _ _ _ _ _ _ _ _ _ _ hp)
end
end Go.Dx
namespace Go.Dx
open Go.IntKind (i64 u64 u8)
open Go.Sx
noncomputable section
theorem Ct {n d q r:Int} (hd:0<d) (h:n=d*q+r) (h1:0<=r) (h2:r<d):n / d=q:=by
 rw [h,Int.add_comm,Int.add_mul_ediv_left _ _ (by omega),Int.ediv_eq_zero_of_lt h1 h2];omega
theorem qJ {n d B:Int} (hd:0<d) (h1:-B<=n) (h2:n<=B):-B<=n / d/\n / d<=B:=by
 constructor
 ·have:-B<=n / d↔-B*d<=n:=Int.le_ediv_iff_mul_le hd
  rw [this]
  by_cases hB:0<=B
  ·have:B*1<=B*d:=iml (by omega) hB
   have e:-B*d=-(B*d):=Int.neg_mul _ _
   omega
  ·omega
 ·have hB:0<=B:=by omega
  have:n / d<B+1↔n<(B+1)*d:=Int.ediv_lt_iff_lt_mul hd
  have h3:(B+1)*1<=(B+1)*d:=iml (by omega) (by omega)
  have:=this.2 (by omega)
  omega
section
variable {n d:Int} (hd:0<d) (hd2:d<=1000000000) (h1:-1000000000000<=n) (h2:n<=1000000000000)
include n d hd hd2 h1 h2
theorem Pe:qx n d=n / d:=by
 have hb:=qJ hd h1 h2
 unfold qx
 by_cases hn:n<0
 ·rw[dqt hn,cond_true,wrapI (x:=d-1) (by omega) (by omega),wrapI (x:=d-1-n) (by omega) (by omega),Int.tdiv_eq_ediv_of_nonneg (by omega)]
  have e:=Int.mul_ediv_add_emod n d
  have r1:=Int.emod_nonneg n (by omega:d≠0)
  have r2:=Int.emod_lt_of_pos n hd
  have:(d-1-n) / d=-(n / d):=Ct (r:=d-1-n % d) hd (by have:d*-(n / d)=-(d*(n / d)):=Int.mul_neg _ _;omega) (by omega) (by omega)
  rw [this,wrapI (x:=-(n / d)) (by omega) (by omega),wrapI (by omega) (by omega)];omega
 ·rw[gx hn,cond_false,Int.tdiv_eq_ediv_of_nonneg (by omega),wrapI (by omega) (by omega)]
theorem y4:pz n d=n / d:=by
 have hb:=qJ hd h1 h2
 unfold pz
 by_cases hn:n<0
 ·rw [dqt hn,cond_true]
  have e:=Int.mul_ediv_add_emod n d
  have r1:=Int.emod_nonneg n (by omega:d≠0)
  have r2:=Int.emod_lt_of_pos n hd
  have ht:n.tdiv d=-((-n) / d):=by
   have:n=-(-n):=by omega
   rw [this,Int.neg_tdiv,Int.tdiv_eq_ediv_of_nonneg (by omega)];simp
  have hm:n.tmod d=n-d*n.tdiv d:=Int.tmod_def n d
  by_cases hr:n % d=0
  ·have hq:(-n) / d=-(n / d):=Ct (r:=0) hd (by have:d*-(n / d)=-(d*(n / d)):=Int.mul_neg _ _;omega) (by omega) (by omega)
   have ht':n.tdiv d=n / d:=by rw[ht,hq];omega
   have hm0:n.tmod d=0:=by rw[hm,ht'];omega
   rw [hm0,ht']
   exact wrapI (by omega) (by omega)
  ·have h0:d*(-(n / d)-1)=-(d*(n / d))-d:=by rw[Int.mul_sub,Int.mul_neg];omega
   have hq:(-n) / d=-(n / d)-1:=Ct (r:=d-n % d) hd (by omega) (by omega) (by omega)
   have ht':n.tdiv d=n / d+1:=by rw[ht,hq];omega
   have hm0:(n.tmod d != 0)=true:=by
    rw [bne_iff_ne,hm,ht',Int.mul_add];omega
   rw [hm0,ht',cond_true]
   have hb1:n / d<0:=by
    have:=qJ (n:=n) hd h1 h2
    rw [Int.ediv_lt_iff_lt_mul hd];omega
   rw [wrapI (x:=n / d+1) (by omega) (by omega),wrapI (by omega) (by omega)];omega
 ·rw[gx hn,cond_false,cond_false,Int.tdiv_eq_ediv_of_nonneg (by omega),wrapI (by omega) (by omega)]
end
theorem Fp {x p A B:Int} (h1:-A<=x) (h2:x<=A) (h3:0<=p) (h4:p<=B):-(A*B)<=x*p/\x*p<=A*B:=by
 have hA:0<=A:=by omega
 have a1:x*p<=A*p:=Int.mul_le_mul_of_nonneg_right h2 h3
 have a2:A*p<=A*B:=iml h4 hA
 have a3:-A*p<=x*p:=Int.mul_le_mul_of_nonneg_right h1 h3
 rw [Int.neg_mul]at a3
 exact ⟨by omega,by omega⟩
theorem G8 {a b p q:Int} (ha:-100000<=a/\a<=100000) (hb:-100000<=b/\b<=100000) (hp:0<=p/\p<=1000) (hq:0<=q/\q<=1000):F80_0 a b p q=F82_0 a b p q/\F80_1 a b p q=F82_1 a b p q:=by
 have m1:=Fp (x:=b-a) (A:=200000) (by omega) (by omega) hp.1 hp.2
 have m2:=Fp (x:=b-a) (A:=200000) (by omega) (by omega) hq.1 hq.2
 unfold F80_0 F82_0 F80_1 F82_1
 rw [wrapI (x:=1000*a) (by omega) (by omega),wrapI (x:=b-a) (by omega) (by omega),wrapI (x:=(b-a)*p) (by omega) (by omega),wrapI (x:=(b-a)*q) (by omega) (by omega),
  wrapI (x:=1000*a+(b-a)*p) (by omega) (by omega),wrapI (x:=1000*a+(b-a)*q) (by omega) (by omega)]
 generalize (b-a)*p=x at *
 generalize (b-a)*q=y at *
 rw [wrapI (x:=0-max (1000*a+x) (1000*a+y)) (by omega) (by omega)]
 rw [Pe (by omega) (by omega) (by omega) (by omega),y4 (by omega) (by omega) (by omega) (by omega),Pe (by omega) (by omega) (by omega) (by omega),y4 (by omega) (by omega) (by omega) (by omega)]
 exact ⟨rfl,rfl⟩
theorem tw {a l h:Int} (hf:yac a l h=true):l<=a/\a<=h:=by
 unfold yac at hf
 by_cases h1:l<=a
 ·rw[dqt h1,cond_true]at hf;exact⟨h1,of_decide_eq_true hf⟩
 ·rw[gx h1]at hf;cases hf
theorem EA {l:List V} (h:sL l=false):0<=ar l/\ar l<aQ l/\aQ l<=1000:=by
 unfold sL at h
 simp only [Bool.cond_eq_ite]at h
 refine ⟨?_,?_,?_⟩<;>(apply Classical.byContradiction;intro hn)<;>simp_all<;>omega
theorem tP {f4:Nat->List V} {i:Nat} (h:cF f4 i=0) :
 (∀ x,x∈[ar (f4 i),aQ (f4 i),ca (f4 i),bW (f4 i)]->-100000<=x/\x<=100000)/\au (ap (ab (ab (ab (ab (f4 i))))))<=6/\∀ j,j<au (ap (ab (ab (ab (ab (f4 i))))))->sL (al je (aX (ap (ab (ab (ab (ab (f4 i)))))) j))=false:=by
 unfold cF Sv at h
 generalize ar (f4 i)=a at h ⊢
 generalize aQ (f4 i)=b at h ⊢
 generalize ca (f4 i)=c at h ⊢
 generalize bW (f4 i)=d at h ⊢
 generalize au (ap (ab (ab (ab (ab (f4 i))))))=n at h ⊢
 generalize ap (ab (ab (ab (ab (f4 i)))))=w at h ⊢
 cases hp:wk 4 (aa ae (bn [V.int .i64 a,V.int .i64 b,V.int .i64 c,V.int .i64 d] 0 1)) with
 |false=>rw[hp]at h;cases h
 | true =>
   rw [hp,Bool.not_true,cond_false]at h
   cases he:(a==c&&(b==d&&true)) with
   |true=>rw[he]at h;cases h
   | false =>
     rw [he,cond_false]at h
     by_cases hn:6<(n:Int)
     ·rw[dqt hn]at h;cases h
     ·rw [gx hn,cond_false]at h
      cases hw:jh n (fun j=>sL (al je (aX w j))) with
      |true=>rw[hw]at h;cases h
      | false =>
        unfold wk at hp
        have h0:=tw (cS hp 0 (by omega))
        have h1:=tw (cS hp 1 (by omega))
        have h2:=tw (cS hp 2 (by omega))
        have h3:=tw (cS hp 3 (by omega))
        refine ⟨fun x hx=>?_,by omega,fun j hj=>?_⟩
        ·simp only[List.mem_cons,List.not_mem_nil,or_false]at hx
         rcases hx with rfl|rfl|rfl|rfl
         ·exact h0
         ·exact h1
         ·exact h2
         ·exact h3
        ·cases hb:sL (al je (aX w j)) with
         |false=>rfl
         |true=>rw[cn j hj hb]at hw;cases hw
section
variable {e1 e2:Int} {bd:Bool} (h:e1=0->e2=(bif bd then 4 else 0))
include e1 e2 bd h
theorem I1 {z v v':Int} (hv:e1=0->bd=false->v=v') :
 (bif e1==0 then bif e2 != 0 then z else v else bif e1 != 0 then z else v)=(bif bif e1==0 then bd else false then z else bif e1 != 0 then z else v'):=by
 by_cases he:e1=0
 ·rw[h he];subst he
  cases bd with
  |true=>rfl
  |false=>exact hv rfl rfl
 ·have h1:(e1==0)=false:=by simpa using he
  have h2:(e1 != 0)=true:=by simpa using he
  rw [h1,h2];rfl
theorem ajc :
 (bif e1==0 then bif e2 != 0 then e2 else 0 else bif e1 != 0 then e1 else 0)=(bif bif e1==0 then bd else false then 4 else bif e1 != 0 then e1 else 0):=by
 by_cases he:e1=0
 ·rw[h he];subst he
  cases bd<;>rfl
 ·have h1:(e1==0)=false:=by simpa using he
  have h2:(e1 != 0)=true:=by simpa using he
  rw [h1,h2];rfl
end
theorem AY {e i m:Int} (h:I8 e i m=0):e=0/\0<=i/\i<m:=by
 unfold I8 at h
 cases he:e==0 with
 |false=>rw[he,cond_false]at h;rw[h]at he;cases he
 | true =>
   rw [he,cond_true]at h
   refine ⟨eq_of_beq he,?_⟩
   unfold mP at h
   by_cases h1:i<0
   ·rw[dqt h1]at h;cases h
   ·rw[gx h1,cond_false]at h
    by_cases h2:m<=i
    ·rw[dqt h2]at h;cases h
    ·omega
theorem vG {i m:Int} (h:mP i m=false):0<=i/\i<m:=by
 unfold mP at h
 by_cases h1:i<0
 ·rw[dqt h1]at h;cases h
 ·rw[gx h1,cond_false]at h
  have:=of_decide_eq_false h
  omega
section
variable {n0:Nat} {f0:Nat->List V} {n2:Nat} {f2:Nat->List V} {n4:Nat} {f4:Nat->List V} {n6:Nat} {f6:Nat->List V}
theorem gK (x8 x9:Int):nR n0 f0 n2 f2 n4 f4 n6 f6 x8 x9=mY n0 f0 n2 f2 n4 f4 n6 f6 x8 x9/\oz n0 f0 n2 f2 n4 f4 n6 f6 x8 x9=mw n0 f0 n2 f2 n4 f4 n6 f6 x8 x9/\nX n0 f0 n2 f2 n4 f4 n6 f6 x8 x9=mq n0 f0 n2 f2 n4 f4 n6 f6 x8 x9/\om n0 f0 n2 f2 n4 f4 n6 f6 x8 x9=mS n0 f0 n2 f2 n4 f4 n6 f6 x8 x9
 /\ pH n0 f0 n2 f2 n4 f4 n6 f6 x8 x9=qc n0 f0 n2 f2 n4 f4 n6 f6 x8 x9/\qf n0 f0 n2 f2 n4 f4 n6 f6 x8 x9=qo n0 f0 n2 f2 n4 f4 n6 f6 x8 x9/\qu n0 f0 n2 f2 n4 f4 n6 f6 x8 x9=nW n0 f0 n2 f2 n4 f4 n6 f6 x8 x9:=by
 have hc:=alj (n0:=n0) (f0:=f0) (n2:=n2) (f2:=f2) (n4:=n4) (f4:=f4) (n6:=n6) (f6:=f6) (i:=x8) (m:=n4) (fun h=>by have:=(sH h).l4;omega)
 have hd:=Ro (n0:=n0) (f0:=f0) (n2:=n2) (f2:=f2) (n4:=n4) (f4:=f4) (n6:=n6) (f6:=f6) (i:=x8) (m:=n4)
 have hin:I8 (ef n0 (aa aJ f0) n2 (aa aU f2) n4 (aa aV f4) n6 (aa aH f6)) x8 n4=0->ef n0 (aa aJ f0) n2 (aa aU f2) n4 (aa aV f4) n6 (aa aH f6)=0/\cF f4 x8.toNat=0:=fun h=>by
  obtain ⟨h1,h2,h3⟩:=AY h
  exact ⟨h1,(sH h1).fr x8.toNat (by omega)⟩
 have he:I8 (ef n0 (aa aJ f0) n2 (aa aU f2) n4 (aa aV f4) n6 (aa aH f6)) x8 n4=0->jO n0 (aa aJ f0) n2 (aa aU f2) n4 (aa aV f4) n6 (aa aH f6) 2 (aa ae (bn [vi x9,vi (au (ap (ab (ab (ab (ab (f4 x8.toNat)))))))] 0 1))=(bif mP x9 (au (ap (ab (ab (ab (ab (f4 x8.toNat))))))) then 4 else 0):=fun h=>by
  obtain ⟨h1,h2⟩:=hin h
  have:=(tP h2).2.1
  rw [alj (fun _=>by omega),h1];rfl
 have hv:I8 (ef n0 (aa aJ f0) n2 (aa aU f2) n4 (aa aV f4) n6 (aa aH f6)) x8 n4=0->mP x9 (au (ap (ab (ab (ab (ab (f4 x8.toNat)))))))=false ->
  (∀ x,x∈[ar (f4 x8.toNat),aQ (f4 x8.toNat),ca (f4 x8.toNat),bW (f4 x8.toNat)]->-100000<=x/\x<=100000)/\sL (aX (ap (ab (ab (ab (ab (f4 x8.toNat)))))) x9.toNat)=false:=fun h hb=>by
  obtain ⟨h1,h2⟩:=hin h
  obtain ⟨g1,g2,g3⟩:=tP h2
  obtain ⟨k1,k2⟩:=vG hb
  exact ⟨g1,g3 x9.toNat (by omega)⟩
 unfold nR oz nX om pH qf qu mY mw mq mS qc qo nW
 rw [hc,hd]
 refine ⟨I1 he fun a b=>?_,I1 he fun a b=>?_,I1 he fun a b=>?_,I1 he fun a b=>?_,I1 he fun _ _=>rfl,I1 he fun _ _=>rfl,ajc he⟩ <;>
 ·obtain⟨g1,g2⟩:=hv a b
  have w:=EA g2
  have s1:=G8 (g1 (ar (f4 x8.toNat)) (by simp)) (g1 (ca (f4 x8.toNat)) (by simp)) (p:=ar (aX (ap (ab (ab (ab (ab (f4 x8.toNat)))))) x9.toNat)) (q:=aQ (aX (ap (ab (ab (ab (ab (f4 x8.toNat)))))) x9.toNat)) (by omega) (by omega)
  have s2:=G8 (g1 (aQ (f4 x8.toNat)) (by simp)) (g1 (bW (f4 x8.toNat)) (by simp)) (p:=ar (aX (ap (ab (ab (ab (ab (f4 x8.toNat)))))) x9.toNat)) (q:=aQ (aX (ap (ab (ab (ab (ab (f4 x8.toNat)))))) x9.toNat)) (by omega) (by omega)
  first|exact s1.1|exact s2.1|exact s1.2|exact s2.2
end
end
end Go.Dx
namespace Go.Dx
open Go.IntKind (i64 u64 u8)
open Go.Sx Go.Proofs
variable (n0:Nat) (f0:aN) (n2:Nat) (f2:aN) (x4:Int) (n5:Nat) (f5:aN) (n7:Nat) (f7:aN) (n9:Nat) (f9:aN) (n11:Nat) (f11:aN) (n13:Nat) (f13:aN) (n15:Nat) (f15:aN) (n17:Nat) (f17:aN) (x17 x18:Int) (s18:ByteArray) (n19:Nat) (f19:aN) (x19 x20 x21:Int) (n22:Nat) (f22:aN) (x22 x23:Int) (n24:Nat) (f24:aN) (n26:Nat) (f26:aN) (n28:Nat) (f28:aN) (x28:Int) (n29:Nat) (f29:aN) (n30:Nat) (f30:aN) (n31:Nat) (f31:aN) (n32:Nat) (f32:aN) (n33:Nat) (f33:aN) (n35:Nat) (f35:aN) (n37:Nat) (f37:aN) (n39:Nat) (f39:aN)
noncomputable section
theorem Q4 {n0 n2 n13:Nat} {f0 f2 f13 f15:Nat->List V} {i:Nat} (l2:n2<=20) (lm:∀ i,i<n2->af1 n0 (f2 i)) (co:pn f0 n2 f2 f13 f15 i=0) (hi:i<n13) (h:sN f13 i=true):nP n0 n2 f2 n13 f13 (i:Int):=by
 have h:0<=ar (f13 i):=of_decide_eq_true h
 have a:ci (ar (f13 i)) (-1) (wI ((n2:Int)-1))=true:=by
  cases hb:ci (ar (f13 i)) (-1) (wI ((n2:Int)-1)) with
  |true=>rfl
  |false=>unfold pn at co;rw[Yy hb]at co;cases co
 have r:=zj (x:=ar (f13 i)) a
 rw [wrapI (by omega) (by omega)]at r
 have t:=(lm (ar (f13 i)).toNat (by omega)).t
 exact ⟨⟨by omega,by omega⟩,⟨h,by show ar (f13 i)<_;omega⟩,t⟩
theorem ao2 {n0 n2 n13:Nat} {f0 f2 f13:Nat->List V} {i:Int} (x:nP n0 n2 f2 n13 f13 i) (tb:∀ i,i<n0->mU (f0 i)):TS f0 f2 f13 i:=fun k hk=>by
 have t:=tb (aQ (f2 (ar (f13 i.toNat)).toNat)).toNat ((Int.toNat_lt x.2.2.1).2 x.2.2.2)
 have:=t.row k hk
 have:=t.v.1
 omega
theorem pl0:ir 0:=by unfold ir;omega
theorem HV {a b p q:Int} (ha:-100000<=a/\a<=100000) (hb:-100000<=b/\b<=100000) (hp:0<=p/\p<=1000) (hq:0<=q/\q<=1000):ir (F82_0 a b p q)/\ir (F82_1 a b p q):=by
 have m1:=Fp (x:=b-a) (p:=p) (A:=200000) (B:=1000) (by omega) (by omega) hp.1 hp.2
 have m2:=Fp (x:=b-a) (p:=q) (A:=200000) (B:=1000) (by omega) (by omega) hq.1 hq.2
 unfold ir F82_0 F82_1
 rw [wrapI (x:=b-a) (by omega) (by omega),wrapI (x:=(b-a)*p) (by omega) (by omega),wrapI (x:=(b-a)*q) (by omega) (by omega),wrapI (x:=1000*a) (by omega) (by omega),wrapI (x:=1000*a+(b-a)*p) (by omega) (by omega),wrapI (x:=1000*a+(b-a)*q) (by omega) (by omega),wrapI (x:=0-max (1000*a+(b-a)*p) (1000*a+(b-a)*q)) (by omega) (by omega),
  y4 (by omega) (by omega) (by omega) (by omega),y4 (by omega) (by omega) (by omega) (by omega)]
 have d1:=qJ (n:=min (1000*a+(b-a)*p) (1000*a+(b-a)*q)) (d:=1000) (B:=300000000) (by omega) (by omega) (by omega)
 have d2:=qJ (n:=0-max (1000*a+(b-a)*p) (1000*a+(b-a)*q)) (d:=1000) (B:=300000000) (by omega) (by omega) (by omega)
 rw [wrapI (by omega) (by omega)]
 omega
section
variable {n0:Nat} {f0:Nat->List V} {n2:Nat} {f2:Nat->List V} {n4:Nat} {f4:Nat->List V} {n6:Nat} {f6:Nat->List V} {x8 x9:Int}
theorem wsp {c1 c2:Bool} {z:Int} (h:c1=false->c2=false->ir z):ir (bif c1 then 0 else bif c2 then 0 else z):=by
 cases h1:c1 with
 |true=>exact pl0
 | false =>
   cases h2:c2 with
   |true=>exact pl0
   |false=>exact h h1 h2
theorem abR:ir (mY n0 f0 n2 f2 n4 f4 n6 f6 x8 x9)/\ir (mw n0 f0 n2 f2 n4 f4 n6 f6 x8 x9)/\ir (mq n0 f0 n2 f2 n4 f4 n6 f6 x8 x9)/\ir (mS n0 f0 n2 f2 n4 f4 n6 f6 x8 x9):=by
 have hd:=Ro (n0:=n0) (f0:=f0) (n2:=n2) (f2:=f2) (n4:=n4) (f4:=f4) (n6:=n6) (f6:=f6) (i:=x8) (m:=n4)
 have hv:∀ {c2:Bool},(bif I8 (ef n0 (aa aJ f0) n2 (aa aU f2) n4 (aa aV f4) n6 (aa aH f6)) x8 n4==0 then mP x9 (au (ap (ab (ab (ab (ab (f4 x8.toNat))))))) else false)=false->(I8 (ef n0 (aa aJ f0) n2 (aa aU f2) n4 (aa aV f4) n6 (aa aH f6)) x8 n4 != 0)=false ->
  (∀ x,x∈[ar (f4 x8.toNat),aQ (f4 x8.toNat),ca (f4 x8.toNat),bW (f4 x8.toNat)]->-100000<=x/\x<=100000)/\sL (aX (ap (ab (ab (ab (ab (f4 x8.toNat)))))) x9.toNat)=false:=fun {c2} h h2=>by
  have h2:=gE h2
  rw [h2]at h
  obtain ⟨k1,k2⟩:=vG (show mP x9 (au (ap (ab (ab (ab (ab (f4 x8.toNat)))))))=false from h)
  obtain ⟨h3,h4,h5⟩:=AY h2
  have h6:cF f4 x8.toNat=0:=(sH h3).fr x8.toNat (by omega)
  obtain ⟨g1,g2,g3⟩:=tP h6
  exact ⟨g1,g3 x9.toNat (by omega)⟩
 unfold mY mw mq mS
 rw [hd]
 refine ⟨wsp fun a b=>?_,wsp fun a b=>?_,wsp fun a b=>?_,wsp fun a b=>?_⟩ <;>
 ·obtain⟨g1,g2⟩:=hv (c2:=true) a b
  have w:=EA g2
  have s1:=HV (g1 (ar (f4 x8.toNat)) (by simp)) (g1 (ca (f4 x8.toNat)) (by simp)) (p:=ar (aX (ap (ab (ab (ab (ab (f4 x8.toNat)))))) x9.toNat)) (q:=aQ (aX (ap (ab (ab (ab (ab (f4 x8.toNat)))))) x9.toNat)) (by omega) (by omega)
  have s2:=HV (g1 (aQ (f4 x8.toNat)) (by simp)) (g1 (bW (f4 x8.toNat)) (by simp)) (p:=ar (aX (ap (ab (ab (ab (ab (f4 x8.toNat)))))) x9.toNat)) (q:=aQ (aX (ap (ab (ab (ab (ab (f4 x8.toNat)))))) x9.toNat)) (by omega) (by omega)
  first|with_reducible exact s1.1|with_reducible exact s2.1|with_reducible exact s1.2|with_reducible exact s2.2
end
def kH:bj:=(80,.con Y8)::(95,.con aa2)::Gt
theorem pf:aW Tryz.prog eqs its kH:=.con agz (.con ac7 (DL))
def U4 (f2 f13 f15:Nat->List V):Nat->Int:=sR (sN f13) fun i=>XE n0 f0 n2 f2 f13 f15 (i:Int) (bf (f0 (aQ (f2 (ar (f13 i)).toNat)).toNat))
def sI (f2 f13 f15:Nat->List V):Nat->Int:=sR (sN f13) fun i=>uH n0 f0 n2 f2 (ar (f13 i)) (ca (f15 i))
def sG (f2 f13 f15:Nat->List V):Nat->Int:=sR (sN f13) fun i=>u9 n0 f0 n2 f2 (ar (f13 i)) (ca (f15 i))
def Jc (n5:Nat) (f5:aN) (n7:Nat) (f7:aN) (n9:Nat) (f9:aN) (n11:Nat) (f11:aN) (x17:Int) (i:Nat):Bool:=bif sN f13 i then r9 n5 f5 n7 f7 n9 f9 n11 f11 (i:Int) x17 else false
def RX (f2 f13 f15:Nat->List V) (n5:Nat) (f5:aN) (n7:Nat) (f7:aN) (n9:Nat) (f9:aN) (n11:Nat) (f11:aN) (x17 x18:Int):Nat->Int:=sR (Jc f13 n5 f5 n7 f7 n9 f9 n11 f11 x17) fun i=>Iq n0 f0 n2 f2 f13 f15 (i:Int) (aQ (f11 i)) (ca (f11 i)) (bW (f11 i)) (db (f11 i)) (bf (f11 i)) (mY n5 f5 n7 f7 n9 f9 n11 f11 x17 x18) (mw n5 f5 n7 f7 n9 f9 n11 f11 x17 x18) (mq n5 f5 n7 f7 n9 f9 n11 f11 x17 x18) (mS n5 f5 n7 f7 n9 f9 n11 f11 x17 x18) (qc n5 f5 n7 f7 n9 f9 n11 f11 x17 x18) (qo n5 f5 n7 f7 n9 f9 n11 f11 x17 x18)
def v7 (e:Int) (n5:Nat) (f5:aN) (n7:Nat) (f7:aN) (n9:Nat) (f9:aN) (n11:Nat) (f11:aN) (x17 x18:Int):Int:=bif e==0 then nW n5 f5 n7 f7 n9 f9 n11 f11 x17 x18 else e
def I9 (f2 f13 f15:Nat->List V):Nat->Int:=U4 n0 (aa ak f0) n2 (aa ah f2) (aa ae f13) (aa bQ f15)
def pN (f2 f13 f15:Nat->List V):Nat->Int:=sI n0 (aa ak f0) n2 (aa ah f2) (aa ae f13) (aa bQ f15)
def qh (f2 f13 f15:Nat->List V):Nat->Int:=sG n0 (aa ak f0) n2 (aa ah f2) (aa ae f13) (aa bQ f15)
def Ii (f2 f13 f15:Nat->List V) (n5:Nat) (f5:aN) (n7:Nat) (f7:aN) (n9:Nat) (f9:aN) (n11:Nat) (f11:aN) (x17 x18:Int):Nat->Int:=RX n0 (aa ak f0) n2 (aa ah f2) (aa ae f13) (aa bQ f15) n5 (aa aJ f5) n7 (aa aU f7) n9 (aa aV f9) n11 (aa aH f11) x17 x18
def VR (n5:Nat) (f5:aN) (n7:Nat) (f7:aN) (n9:Nat) (f9:aN) (n11:Nat) (f11:aN) (x17:Int) (i:Nat):Bool:=Jc (aa ae f13) n5 (aa aJ f5) n7 (aa aU f7) n9 (aa aV f9) n11 (aa aH f11) x17 i
def GdV:Prop:=Yq n0 (aa ak f0) n2 (aa ah f2) x4 n5 (aa aJ f5) n7 (aa aU f7) n9 (aa aV f9) n11 (aa aH f11) n13 (aa ae f13) n15 (aa bQ f15)
theorem rb {e z a:Int} (h:e=z) (h0:z≠0):ce (V.tup [vi 0,vi z])=ce (V.tup [vi (kU e a),vi e]):=by
 subst h
 unfold kU
 rw [show(e==0)=false from by simpa using h0];rfl
theorem z8 {e a b:Int} (h:¬ e=0):ce (V.tup [V.agg [vi 0,vi 0],vi e])=ce (V.tup [V.agg [vi (kU e a),vi (kU e b)],vi e]):=by
 unfold kU
 rw [show(e==0)=false from by simpa using h];rfl
theorem aaV {e:Int} {n5:Nat} {f5:Nat->List V} {n7:Nat} {f7:Nat->List V} {n9:Nat} {f9:Nat->List V} {n11:Nat} {f11:Nat->List V} {x17 x18:Int} (h:e≠0):v7 e n5 f5 n7 f7 n9 f9 n11 f11 x17 x18=e:=by
 unfold v7;rw[show(e==0)=false from by simpa using h];rfl
theorem Gi {e:Int} {n5:Nat} {f5:Nat->List V} {n7:Nat} {f7:Nat->List V} {n9:Nat} {f9:Nat->List V} {n11:Nat} {f11:Nat->List V} {x17 x18:Int} (h:e=0):v7 e n5 f5 n7 f7 n9 f9 n11 f11 x17 x18=nW n5 f5 n7 f7 n9 f9 n11 f11 x17 x18:=by
 subst h;rfl
inductive qV where
 |L0 (ia0 ia1:Int)
def Sf:qV->bz×List O×Option Ex
 |.L0 ia0 ia1=>([(6,vi ia0),(5,vi ia1),(1,V.pl 0 0)],[O.cells [V.sl n0 (aa ak f0),V.sl n2 (aa ah f2),vi x4,V.sl n5 (aa aJ f5),V.sl n7 (aa aU f7),V.sl n9 (aa aV f9),V.sl n11 (aa aH f11),V.sl n13 (aa ae f13),V.sl n15 (aa bQ f15)] 35],none)
def aib:qV->JJ
 |.L0 ia0 ia1=>(0,[])
def K5:T (bO JJ):=aP JJ kH u0 aht [V.agg [V.sl n0 (aa ak f0),V.sl n2 (aa ah f2),vi x4,V.sl n5 (aa aJ f5),V.sl n7 (aa aU f7),V.sl n9 (aa aV f9),V.sl n11 (aa aH f11),V.sl n13 (aa ae f13),V.sl n15 (aa bQ f15)]]
def BS (cx:List Cx):Lp JJ:=eR (ej (K5 n0 f0 n2 f2 x4 n5 f5 n7 f7 n9 f9 n11 f11 n13 f13 n15 f15) [false])
def aik:JJ->Lp JJ
 |(0,cx)=>BS n0 f0 n2 f2 x4 n5 f5 n7 f7 n9 f9 n11 f11 n13 f13 n15 f15 cx
 |(_,cx)=>BS n0 f0 n2 f2 x4 n5 f5 n7 f7 n9 f9 n11 f11 n13 f13 n15 f15 cx
def akL:LD JJ qV:=⟨aib,aik n0 f0 n2 f2 x4 n5 f5 n7 f7 n9 f9 n11 f11 n13 f13 n15 f15,Sf n0 f0 n2 f2 x4 n5 f5 n7 f7 n9 f9 n11 f11 n13 f13 n15 f15⟩
def CS (n0:Nat) (f0:aN) (n2:Nat) (f2:aN) (x4:Int) (n5:Nat) (f5:aN) (n7:Nat) (f7:aN) (n9:Nat) (f9:aN) (n11:Nat) (f11:aN) (n13:Nat) (f13:aN) (n15:Nat) (f15:aN):qV->RT qV
 |.L0 ia0 ia1=>.am n13 (.br (decide (ia0<(↑n13:Int))) (.ob (dI ia0 n13) (.br (decide (0<=ar (f13 ia0.toNat))) (.ob (dI ia0 n13) (.ob (dI ia0 n15) (.obp (yaa n0 (aa ak f0)/\yaa n2 (aa ah f2)) (.obt (.ob (dI ia0 n13) (.ob (dI (ar (f13 ia0.toNat)) n2) (.ob (dI (aQ (f2 (ar (f13 ia0.toNat)).toNat)) n0) (.obp (nz 1000) (.obt (.next [some (some 0)] (qV.L0 (wI (ia0+1)) (wI (ia1+cY (wI (bf (f0 (aQ (f2 (ar (f13 ia0.toNat)).toNat)).toNat)*yA n0 (aa ak f0) n2 (aa ah f2) (ar (f13 ia0.toNat)) (ar (f15 ia0.toNat)) (aQ (f15 ia0.toNat)) (ca (f15 ia0.toNat)))) 1000))) [])))))))))) (.next [some (some 0)] (qV.L0 (wI (ia0+1)) (ia1)) []))) (.ret (V.tup [vi ia1,vi 0])))
def Zq:RT qV:=.obp (yaa n0 (aa ak f0)/\yaa n2 (aa ah f2)/\yaa n5 (aa aJ f5)/\yaa n11 (aa aH f11)) (.obt (.br (kx n0 f0 n2 f2 x4 n5 f5 n7 f7 n9 f9 n11 f11 n13 f13 n15 f15 != 0) (.ret (V.tup [vi 0,vi (kx n0 f0 n2 f2 x4 n5 f5 n7 f7 n9 f9 n11 f11 n13 f13 n15 f15)])) (.enter [some (some 0)] (qV.L0 (0) (0)) [])))
theorem VZ:dD kH u0 (akL n0 f0 n2 f2 x4 n5 f5 n7 f7 n9 f9 n11 f11 n13 f13 n15 f15) (K5 n0 f0 n2 f2 x4 n5 f5 n7 f7 n9 f9 n11 f11 n13 f13 n15 f15) (Zq n0 f0 n2 f2 x4 n5 f5 n7 f7 n9 f9 n11 f11 n13 f13 n15 f15) (CS n0 f0 n2 f2 x4 n5 f5 n7 f7 n9 f9 n11 f11 n13 f13 n15 f15):=⟨⟨by kernel_rfl,by kernel_rfl⟩,fun s=>by cases s<;>exact⟨by kernel_rfl,by kernel_rfl⟩⟩
theorem aky (hz:yaa n0 (aa ak f0)/\yaa n2 (aa ah f2)) (G:GdV n0 f0 n2 f2 x4 n5 f5 n7 f7 n9 f9 n11 f11 n13 f13 n15 f15) (hn:n13<=9223372036854775807):∀ k,k<=n13->Ev (CS n0 f0 n2 f2 x4 n5 f5 n7 f7 n9 f9 n11 f11 n13 f13 n15 f15) (.L0 (k:Int) (I9 n0 f0 n2 f2 f13 f15 k)) (.tup [vi (I9 n0 f0 n2 f2 f13 f15 n13),vi 0]):=by
 refine cO fun k hk ih=>Ev.of rfl ?_
 have ll:=G.ll
 have lu:=G.lu
 by_cases hlt:k<n13
 ·have hw:wI ((k:Int)+1)=((k+1:Nat):Int):=by rw[wrapI (by omega) (by omega)];omega
  have ih:=ih hlt
  rw [← hw]at ih
  have c:=G.cl k (by omega)
  have ix:sN (aa ae f13) k=true->nP n0 n2 (aa ah f2) n13 (aa ae f13) (k:Int):=fun h=>Q4 (f0:=aa ak f0) (f15:=aa bQ f15) G.v2.l2 G.lm (G.co k (by omega)) hlt h
  refine bg fun _=>eG (dqt (by omega)) (aE (dqt (by omega)) (evBr (fun h=>aE (dqt (by omega)) (aE (dqt (by omega)) (evObp hz (evObt (aE (dqt (by omega)) (aE (dqt (ix h).2.1) (aE (dqt (ix h).2.2) (evObp (by decide) (evObt (aK ?_)))))))))) (fun h=>aK ?_)))
  ·have h:sN (aa ae f13) k=true:=h
   unfold I9 U4 at ih
   rw [mr h]at ih
   exact ih
  ·have h:sN (aa ae f13) k=false:=h
   unfold I9 U4 at ih
   rw [ly h]at ih
   exact ih
 ·have e:k=n13:=by omega
  refine bg fun _=>?_
  refine ed (gx (by omega)) ?_
  rw [e]
  exact evRet rfl
theorem aih (hp:yaa n0 (aa ak f0)/\yaa n2 (aa ah f2)/\yaa n5 (aa aJ f5)/\yaa n11 (aa aH f11)):aR (Ev (CS n0 f0 n2 f2 x4 n5 f5 n7 f7 n9 f9 n11 f11 n13 f13 n15 f15)) (Zq n0 f0 n2 f2 x4 n5 f5 n7 f7 n9 f9 n11 f11 n13 f13 n15 f15) (.tup [vi (kU (iD n0 (aa ak f0) n2 (aa ah f2) x4 n5 (aa aJ f5) n7 (aa aU f7) n9 (aa aV f9) n11 (aa aH f11) n13 (aa ae f13) n15 (aa bQ f15)) (U4 n0 (aa ak f0) n2 (aa ah f2) (aa ae f13) (aa bQ f15) n13)),vi (iD n0 (aa ak f0) n2 (aa ah f2) x4 n5 (aa aJ f5) n7 (aa aU f7) n9 (aa aV f9) n11 (aa aH f11) n13 (aa ae f13) n15 (aa bQ f15))]):=by
 refine evObp hp (evObt (evBr (fun h=>evRet (rb rfl (kZ h))) (fun h=>aF ?_)))
 have h0:(iD n0 (aa ak f0) n2 (aa ah f2) x4 n5 (aa aJ f5) n7 (aa aU f7) n9 (aa aV f9) n11 (aa aH f11) n13 (aa ae f13) n15 (aa bQ f15))=0:=gE h
 by_cases hn:n13<=9223372036854775807
 ·rw[h0]
  exact aky n0 f0 n2 f2 x4 n5 f5 n7 f7 n9 f9 n11 f11 n13 f13 n15 f15 ⟨hp.1,hp.2.1⟩ (rX h0) hn 0 (Nat.zero_le _)
 ·exact Ev.of rfl (evAsm fun h=>absurd (h rfl) hn)
def ZP:aB:=bF [.agg [.sl ak,.sl ah,tI,.sl aJ,.sl aU,.sl aV,.sl aH,.sl ae,.sl bQ]] (fun
 |[.agg [.sl n0 f0,.sl n2 f2,.int _ x4,.sl n5 f5,.sl n7 f7,.sl n9 f9,.sl n11 f11,.sl n13 f13,.sl n15 f15]]=>yaa n0 f0/\yaa n2 f2/\yaa n5 f5/\yaa n11 f11
 |_=>False) fun
 |[.agg [.sl n0 f0,.sl n2 f2,.int _ x4,.sl n5 f5,.sl n7 f7,.sl n9 f9,.sl n11 f11,.sl n13 f13,.sl n15 f15]]=>.tup [vi (kU (iD n0 f0 n2 f2 x4 n5 f5 n7 f7 n9 f9 n11 f11 n13 f13 n15 f15) (U4 n0 f0 n2 f2 f13 f15 n13)),vi (iD n0 f0 n2 f2 x4 n5 f5 n7 f7 n9 f9 n11 f11 n13 f13 n15 f15)]
 |_=>.any
theorem acV:(vP ZP).Ok Tryz.prog 36:=bV pf Tryz.func36 (by kernel_rfl) fun ds hp=>iS (VZ ..) (aih _ _ _ _ _ _ _ _ _ _ _ _ _ _ _ _ _ hp)
inductive qz where
 |L0 (ia0:Int) (na1:Nat) (ia2:Int)
def WW:qz->bz×List O×Option Ex
 |.L0 ia0 na1 ia2=>([(8,vi ia0),(7,vi (↑n13:Int)),(6,V.sl n13 (aa ae f13)),(5,V.pl 2 7),(0,V.yl na1),(1,V.pl 2 0)],[O.cells [V.sl n0 (aa ak f0),V.sl n2 (aa ah f2),vi x4,V.sl n5 (aa aJ f5),V.sl n7 (aa aU f7),V.sl n9 (aa aV f9),V.sl n11 (aa aH f11),V.sl n13 (aa ae f13),V.sl n15 (aa bQ f15)] 35,O.cells [vi ia2] 3,O.cells [V.sl n0 (aa ak f0),V.sl n2 (aa ah f2),vi x4,V.sl n5 (aa aJ f5),V.sl n7 (aa aU f7),V.sl n9 (aa aV f9),V.sl n11 (aa aH f11),V.sl n13 (aa ae f13),V.sl n15 (aa bQ f15)] 35],none)
def ybm:qz->JJ
 |.L0 ia0 na1 ia2=>(0,[Cx.n na1])
def Rb:T (bO JJ):=aP JJ kH u0 agK [V.agg [V.sl n0 (aa ak f0),V.sl n2 (aa ah f2),vi x4,V.sl n5 (aa aJ f5),V.sl n7 (aa aU f7),V.sl n9 (aa aV f9),V.sl n11 (aa aH f11),V.sl n13 (aa ae f13),V.sl n15 (aa bQ f15)]]
def Bb (cx:List Cx):Lp JJ:=eR (ej (afT (ej (Rb n0 f0 n2 f2 x4 n5 f5 n7 f7 n9 f9 n11 f11 n13 f13 n15 f15) [false]) (wL cx 0)) [])
def ag2:JJ->Lp JJ
 |(0,cx)=>Bb n0 f0 n2 f2 x4 n5 f5 n7 f7 n9 f9 n11 f11 n13 f13 n15 f15 cx
 |(_,cx)=>Bb n0 f0 n2 f2 x4 n5 f5 n7 f7 n9 f9 n11 f11 n13 f13 n15 f15 cx
def ajS:LD JJ qz:=⟨ybm,ag2 n0 f0 n2 f2 x4 n5 f5 n7 f7 n9 f9 n11 f11 n13 f13 n15 f15,WW n0 f0 n2 f2 x4 n5 f5 n7 f7 n9 f9 n11 f11 n13 f13 n15 f15⟩
def C5 (n0:Nat) (f0:aN) (n2:Nat) (f2:aN) (x4:Int) (n5:Nat) (f5:aN) (n7:Nat) (f7:aN) (n9:Nat) (f9:aN) (n11:Nat) (f11:aN) (n13:Nat) (f13:aN) (n15:Nat) (f15:aN):qz->RT qz
 |.L0 ia0 na1 ia2=>.br (decide (ia0<(↑n13:Int))) (.ob (dI ia0 n13) (.iv (.obj (decide (0<=ar (f13 ia0.toNat))) (dI ia0 n11) (.iv (.br (decide (0<=ar (f13 ia0.toNat))) (.ob (decide (0<=ar (f13 ia0.toNat))) (.ob (decide (0<=ar (f13 ia0.toNat))) (.obp (((0:Int)<=ia0/\ia0<(↑n13:Int))/\((0:Int)<=ar (f13 ia0.toNat)/\ar (f13 ia0.toNat)<(↑n2:Int))/\(0:Int)<=aQ (f2 (ar (f13 ia0.toNat)).toNat)/\aQ (f2 (ar (f13 ia0.toNat)).toNat)<(↑n0:Int)) (.obt (.obp (((0:Int)<=ia0/\ia0<(↑n13:Int))/\((0:Int)<=ia0/\ia0<(↑n15:Int))/\yaa n0 (aa ak f0)/\yaa n2 (aa ah f2)) (.obt (.next (iR 0 3 []) (qz.L0 (wI (ia0+1)) (na1) (wI (ia2+XE n0 (aa ak f0) n2 (aa ah f2) (aa ae f13) (aa bQ f15) ia0 (bf (f0 (aQ (f2 (ar (f13 ia0.toNat)).toNat)).toNat))))) []))))))) (.next (iR 0 3 []) (qz.L0 (wI (ia0+1)) (na1) (ia2)) [])))))) (.ret (V.tup [vi ia2,vi 0]))
def aaA:RT qz:=.obp (yaa n0 (aa ak f0)/\yaa n2 (aa ah f2)/\yaa n5 (aa aJ f5)/\yaa n11 (aa aH f11)) (.obt (.br (kx n0 f0 n2 f2 x4 n5 f5 n7 f7 n9 f9 n11 f11 n13 f13 n15 f15 != 0) (.ret (V.tup [vi 0,vi (kx n0 f0 n2 f2 x4 n5 f5 n7 f7 n9 f9 n11 f11 n13 f13 n15 f15)])) (.all (fun l_14768=>.am n13 (.enter (iR 0 3 []) (qz.L0 (0) (l_14768) (0)) [])))))
theorem WU:dD kH u0 (ajS n0 f0 n2 f2 x4 n5 f5 n7 f7 n9 f9 n11 f11 n13 f13 n15 f15) (Rb n0 f0 n2 f2 x4 n5 f5 n7 f7 n9 f9 n11 f11 n13 f13 n15 f15) (aaA n0 f0 n2 f2 x4 n5 f5 n7 f7 n9 f9 n11 f11 n13 f13 n15 f15) (C5 n0 f0 n2 f2 x4 n5 f5 n7 f7 n9 f9 n11 f11 n13 f13 n15 f15):=⟨⟨by kernel_rfl,by kernel_rfl⟩,fun s=>by cases s<;>exact⟨by kernel_rfl,by kernel_rfl⟩⟩
theorem akZ (hz:yaa n0 (aa ak f0)/\yaa n2 (aa ah f2)) (G:GdV n0 f0 n2 f2 x4 n5 f5 n7 f7 n9 f9 n11 f11 n13 f13 n15 f15) (hn:n13<=9223372036854775807) (l:Nat):∀ k,k<=n13->Ev (C5 n0 f0 n2 f2 x4 n5 f5 n7 f7 n9 f9 n11 f11 n13 f13 n15 f15) (.L0 (k:Int) l (I9 n0 f0 n2 f2 f13 f15 k)) (.tup [vi (I9 n0 f0 n2 f2 f13 f15 n13),vi 0]):=by
 refine cO fun k hk ih=>Ev.of rfl ?_
 have ll:=G.ll
 have lu:=G.lu
 by_cases hlt:k<n13
 ·have hw:wI ((k:Int)+1)=((k+1:Nat):Int):=by rw[wrapI (by omega) (by omega)];omega
  have ih:=ih hlt
  rw [← hw]at ih
  have c:=G.cl k (by omega)
  have ix:sN (aa ae f13) k=true->nP n0 n2 (aa ah f2) n13 (aa ae f13) (k:Int):=fun h=>Q4 (f0:=aa ak f0) (f15:=aa bQ f15) G.v2.l2 G.lm (G.co k (by omega)) hlt h
  refine eG (dqt (by omega)) (aE (dqt (by omega)) (evObi (evObi (evObi (evObi (evObj (fun _=>(dqt (by omega))) (evObi (evObi (evObi (evObi (evBr (fun h=>aE h (aE h (evObp (ix h) (evObt (evObp ⟨by omega,by omega,hz⟩ (evObt (aK ?_))))))) (fun h=>aK ?_))))))))))))
  ·have h:sN (aa ae f13) k=true:=h
   unfold I9 U4 at ih
   rw [mr h]at ih
   exact ih
  ·have h:sN (aa ae f13) k=false:=h
   unfold I9 U4 at ih
   rw [ly h]at ih
   exact ih
 ·have e:k=n13:=by omega
  refine ed (gx (by omega)) ?_
  rw [e]
  exact evRet rfl
theorem aiJ (hp:yaa n0 (aa ak f0)/\yaa n2 (aa ah f2)/\yaa n5 (aa aJ f5)/\yaa n11 (aa aH f11)):aR (Ev (C5 n0 f0 n2 f2 x4 n5 f5 n7 f7 n9 f9 n11 f11 n13 f13 n15 f15)) (aaA n0 f0 n2 f2 x4 n5 f5 n7 f7 n9 f9 n11 f11 n13 f13 n15 f15) (.tup [vi (kU (iD n0 (aa ak f0) n2 (aa ah f2) x4 n5 (aa aJ f5) n7 (aa aU f7) n9 (aa aV f9) n11 (aa aH f11) n13 (aa ae f13) n15 (aa bQ f15)) (U4 n0 (aa ak f0) n2 (aa ah f2) (aa ae f13) (aa bQ f15) n13)),vi (iD n0 (aa ak f0) n2 (aa ah f2) x4 n5 (aa aJ f5) n7 (aa aU f7) n9 (aa aV f9) n11 (aa aH f11) n13 (aa ae f13) n15 (aa bQ f15))]):=by
 refine evObp hp (evObt (evBr (fun h=>evRet (rb rfl (kZ h))) (fun h=>ul fun l=>bg fun hn=>aF ?_)))
 have h0:(iD n0 (aa ak f0) n2 (aa ah f2) x4 n5 (aa aJ f5) n7 (aa aU f7) n9 (aa aV f9) n11 (aa aH f11) n13 (aa ae f13) n15 (aa bQ f15))=0:=gE h
 rw [h0]
 exact akZ n0 f0 n2 f2 x4 n5 f5 n7 f7 n9 f9 n11 f11 n13 f13 n15 f15 ⟨hp.1,hp.2.1⟩ (rX h0) hn l 0 (Nat.zero_le _)
def Y2:aB:=bF [.agg [.sl ak,.sl ah,tI,.sl aJ,.sl aU,.sl aV,.sl aH,.sl ae,.sl bQ]] (fun
 |[.agg [.sl n0 f0,.sl n2 f2,.int _ x4,.sl n5 f5,.sl n7 f7,.sl n9 f9,.sl n11 f11,.sl n13 f13,.sl n15 f15]]=>yaa n0 f0/\yaa n2 f2/\yaa n5 f5/\yaa n11 f11
 |_=>False) fun
 |[.agg [.sl n0 f0,.sl n2 f2,.int _ x4,.sl n5 f5,.sl n7 f7,.sl n9 f9,.sl n11 f11,.sl n13 f13,.sl n15 f15]]=>.tup [vi (kU (iD n0 f0 n2 f2 x4 n5 f5 n7 f7 n9 f9 n11 f11 n13 f13 n15 f15) (U4 n0 f0 n2 f2 f13 f15 n13)),vi (iD n0 f0 n2 f2 x4 n5 f5 n7 f7 n9 f9 n11 f11 n13 f13 n15 f15)]
 |_=>.any
theorem afV:(vP Y2).Ok Tryz.prog 35:=bV pf Tryz.func35 (by kernel_rfl) fun ds hp=>iS (WU ..) (aiJ _ _ _ _ _ _ _ _ _ _ _ _ _ _ _ _ _ hp)
inductive qT where
 |L0 (ia0 ia1 ia2:Int)
def Sw:qT->bz×List O×Option Ex
 |.L0 ia0 ia1 ia2=>([(6,vi ia0),(5,V.pl 0 0),(4,vi (kx n0 f0 n2 f2 x4 n5 f5 n7 f7 n9 f9 n11 f11 n13 f13 n15 f15)),(2,V.pl 1 0),(1,V.pl 2 0)],[O.cells [vi ia1,vi ia2] 39,O.cells [vi 0,vi 0] 39,O.cells [V.sl n0 (aa ak f0),V.sl n2 (aa ah f2),vi x4,V.sl n5 (aa aJ f5),V.sl n7 (aa aU f7),V.sl n9 (aa aV f9),V.sl n11 (aa aH f11),V.sl n13 (aa ae f13),V.sl n15 (aa bQ f15)] 35],none)
def adn:qT->JJ
 |.L0 ia0 ia1 ia2=>(0,[])
def QT:T (bO JJ):=aP JJ kH u0 ag4 [V.agg [V.sl n0 (aa ak f0),V.sl n2 (aa ah f2),vi x4,V.sl n5 (aa aJ f5),V.sl n7 (aa aU f7),V.sl n9 (aa aV f9),V.sl n11 (aa aH f11),V.sl n13 (aa ae f13),V.sl n15 (aa bQ f15)]]
def Aa (cx:List Cx):Lp JJ:=eR (ej (QT n0 f0 n2 f2 x4 n5 f5 n7 f7 n9 f9 n11 f11 n13 f13 n15 f15) [])
def adu:JJ->Lp JJ
 |(0,cx)=>Aa n0 f0 n2 f2 x4 n5 f5 n7 f7 n9 f9 n11 f11 n13 f13 n15 f15 cx
 |(_,cx)=>Aa n0 f0 n2 f2 x4 n5 f5 n7 f7 n9 f9 n11 f11 n13 f13 n15 f15 cx
def al6:LD JJ qT:=⟨adn,adu n0 f0 n2 f2 x4 n5 f5 n7 f7 n9 f9 n11 f11 n13 f13 n15 f15,Sw n0 f0 n2 f2 x4 n5 f5 n7 f7 n9 f9 n11 f11 n13 f13 n15 f15⟩
def Cy:qT->RT qT
 |.L0 ia0 ia1 ia2=>.am n13 (.ii (.br (bif decide (ia0<(↑n13:Int)) then kx n0 f0 n2 f2 x4 n5 f5 n7 f7 n9 f9 n11 f11 n13 f13 n15 f15==0 else false) (.ob (dI ia0 n13) (.br (decide (0<=ar (f13 ia0.toNat))) (.ob (dI ia0 n13) (.ob (dI ia0 n15) (.obp (yaa n0 (aa ak f0)/\yaa n2 (aa ah f2)) (.obt (.next (iR 0 3 []) (qT.L0 (wI (ia0+1)) (wI (ia1+uH n0 (aa ak f0) n2 (aa ah f2) (ar (f13 ia0.toNat)) (ca (f15 ia0.toNat)))) (wI (ia2+u9 n0 (aa ak f0) n2 (aa ah f2) (ar (f13 ia0.toNat)) (ca (f15 ia0.toNat))))) []))))) (.next (iR 0 3 []) (qT.L0 (wI (ia0+1)) (ia1) (ia2)) []))) (.ret (V.tup [V.agg [vi ia1,vi ia2],vi (kx n0 f0 n2 f2 x4 n5 f5 n7 f7 n9 f9 n11 f11 n13 f13 n15 f15)]))))
def Z1:RT qT:=dm (x4,n7,f7,n9,f9,n13,f13,n15,f15) (.obp (yaa n0 (aa ak f0)/\yaa n2 (aa ah f2)/\yaa n5 (aa aJ f5)/\yaa n11 (aa aH f11)) (.obt (.enter [some (some 2),some (some 1),some (some 0)] (qT.L0 (0) (0) (0)) [])))
theorem WC:dD kH u0 (al6 n0 f0 n2 f2 x4 n5 f5 n7 f7 n9 f9 n11 f11 n13 f13 n15 f15) (QT n0 f0 n2 f2 x4 n5 f5 n7 f7 n9 f9 n11 f11 n13 f13 n15 f15) (Z1 n0 f0 n2 f2 x4 n5 f5 n7 f7 n9 f9 n11 f11 n13 f13 n15 f15) (Cy n0 f0 n2 f2 x4 n5 f5 n7 f7 n9 f9 n11 f11 n13 f13 n15 f15):=⟨⟨by kernel_rfl,by kernel_rfl⟩,fun s=>by cases s<;>exact⟨by kernel_rfl,by kernel_rfl⟩⟩
theorem amN (hz:yaa n0 (aa ak f0)/\yaa n2 (aa ah f2)) (G:GdV n0 f0 n2 f2 x4 n5 f5 n7 f7 n9 f9 n11 f11 n13 f13 n15 f15) (hn:n13<=9223372036854775807) (h0:(kx n0 f0 n2 f2 x4 n5 f5 n7 f7 n9 f9 n11 f11 n13 f13 n15 f15)=0):∀ k,k<=n13->Ev (Cy n0 f0 n2 f2 x4 n5 f5 n7 f7 n9 f9 n11 f11 n13 f13 n15 f15) (.L0 (k:Int) (pN n0 f0 n2 f2 f13 f15 k) (qh n0 f0 n2 f2 f13 f15 k)) (.tup [.agg [vi (pN n0 f0 n2 f2 f13 f15 n13),vi (qh n0 f0 n2 f2 f13 f15 n13)],vi (iD n0 (aa ak f0) n2 (aa ah f2) x4 n5 (aa aJ f5) n7 (aa aU f7) n9 (aa aV f9) n11 (aa aH f11) n13 (aa ae f13) n15 (aa bQ f15))]):=by
 refine cO fun k hk ih=>Ev.of rfl ?_
 have ll:=G.ll
 have lu:=G.lu
 by_cases hlt:k<n13
 ·have hw:wI ((k:Int)+1)=((k+1:Nat):Int):=by rw[wrapI (by omega) (by omega)];omega
  have ih:=ih hlt
  rw [← hw]at ih
  have c:=G.cl k (by omega)
  have ix:sN (aa ae f13) k=true->nP n0 n2 (aa ah f2) n13 (aa ae f13) (k:Int):=fun h=>Q4 (f0:=aa ak f0) (f15:=aa bQ f15) G.v2.l2 G.lm (G.co k (by omega)) hlt h
  refine bg fun _=>evObi (evObi (eG (by rw[dqt (show(k:Int)<(n13:Int) from by omega),h0];rfl) (aE (dqt (by omega)) (evBr (fun h=>aE (dqt (by omega)) (aE (dqt (by omega)) (evObp hz (evObt (aK ?_))))) (fun h=>aK ?_)))))
  ·have h:sN (aa ae f13) k=true:=h
   unfold pN qh sI sG at ih
   rw [mr h,mr h]at ih
   exact ih
  ·have h:sN (aa ae f13) k=false:=h
   unfold pN qh sI sG at ih
   rw [ly h,ly h]at ih
   exact ih
 ·have e:k=n13:=by omega
  refine bg fun _=>evObi (evObi (ed (by rw[gx (show ¬ (k:Int)<(n13:Int) from by omega)];rfl) ?_))
  rw [e]
  exact evRet rfl
theorem ahw (hp:yaa n0 (aa ak f0)/\yaa n2 (aa ah f2)/\yaa n5 (aa aJ f5)/\yaa n11 (aa aH f11)):aR (Ev (Cy n0 f0 n2 f2 x4 n5 f5 n7 f7 n9 f9 n11 f11 n13 f13 n15 f15)) (Z1 n0 f0 n2 f2 x4 n5 f5 n7 f7 n9 f9 n11 f11 n13 f13 n15 f15) (.tup [.agg [vi (kU (iD n0 (aa ak f0) n2 (aa ah f2) x4 n5 (aa aJ f5) n7 (aa aU f7) n9 (aa aV f9) n11 (aa aH f11) n13 (aa ae f13) n15 (aa bQ f15)) (sI n0 (aa ak f0) n2 (aa ah f2) (aa ae f13) (aa bQ f15) n13)),vi (kU (iD n0 (aa ak f0) n2 (aa ah f2) x4 n5 (aa aJ f5) n7 (aa aU f7) n9 (aa aV f9) n11 (aa aH f11) n13 (aa ae f13) n15 (aa bQ f15)) (sG n0 (aa ak f0) n2 (aa ah f2) (aa ae f13) (aa bQ f15) n13))],vi (iD n0 (aa ak f0) n2 (aa ah f2) x4 n5 (aa aJ f5) n7 (aa aU f7) n9 (aa aV f9) n11 (aa aH f11) n13 (aa ae f13) n15 (aa bQ f15))]):=by
 refine evObp hp (evObt (aF ?_))
 by_cases hn:n13<=9223372036854775807
 ·by_cases h0:(iD n0 (aa ak f0) n2 (aa ah f2) x4 n5 (aa aJ f5) n7 (aa aU f7) n9 (aa aV f9) n11 (aa aH f11) n13 (aa ae f13) n15 (aa bQ f15))=0
  ·have q:=amN n0 f0 n2 f2 x4 n5 f5 n7 f7 n9 f9 n11 f11 n13 f13 n15 f15 ⟨hp.1,hp.2.1⟩ (rX h0) hn h0 0 (Nat.zero_le _)
   have e:ce (.tup [.agg [vi (pN n0 f0 n2 f2 f13 f15 n13),vi (qh n0 f0 n2 f2 f13 f15 n13)],vi (iD n0 (aa ak f0) n2 (aa ah f2) x4 n5 (aa aJ f5) n7 (aa aU f7) n9 (aa aV f9) n11 (aa aH f11) n13 (aa ae f13) n15 (aa bQ f15))])=ce (.tup [.agg [vi (kU (iD n0 (aa ak f0) n2 (aa ah f2) x4 n5 (aa aJ f5) n7 (aa aU f7) n9 (aa aV f9) n11 (aa aH f11) n13 (aa ae f13) n15 (aa bQ f15)) (sI n0 (aa ak f0) n2 (aa ah f2) (aa ae f13) (aa bQ f15) n13)),vi (kU (iD n0 (aa ak f0) n2 (aa ah f2) x4 n5 (aa aJ f5) n7 (aa aU f7) n9 (aa aV f9) n11 (aa aH f11) n13 (aa ae f13) n15 (aa bQ f15)) (sG n0 (aa ak f0) n2 (aa ah f2) (aa ae f13) (aa bQ f15) n13))],vi (iD n0 (aa ak f0) n2 (aa ah f2) x4 n5 (aa aJ f5) n7 (aa aU f7) n9 (aa aV f9) n11 (aa aH f11) n13 (aa ae f13) n15 (aa bQ f15))]):=by rw[h0];rfl
   rw [h0]at q ⊢
   exact q
  ·refine Ev.of rfl (bg fun _=>evObi (evObi (ed ?_ (evRet (z8 h0)))))
   rw [show((kx n0 f0 n2 f2 x4 n5 f5 n7 f7 n9 f9 n11 f11 n13 f13 n15 f15)==0)=false from by simpa using(show ¬ (kx n0 f0 n2 f2 x4 n5 f5 n7 f7 n9 f9 n11 f11 n13 f13 n15 f15)=0 from h0)]
   cases decide ((0:Int)<(n13:Int))<;>rfl
 ·exact Ev.of rfl (evAsm fun h=>absurd (h rfl) hn)
def ZN:aB:=bF [.agg [.sl ak,.sl ah,tI,.sl aJ,.sl aU,.sl aV,.sl aH,.sl ae,.sl bQ]] (fun
 |[.agg [.sl n0 f0,.sl n2 f2,.int _ x4,.sl n5 f5,.sl n7 f7,.sl n9 f9,.sl n11 f11,.sl n13 f13,.sl n15 f15]]=>yaa n0 f0/\yaa n2 f2/\yaa n5 f5/\yaa n11 f11
 |_=>False) fun
 |[.agg [.sl n0 f0,.sl n2 f2,.int _ x4,.sl n5 f5,.sl n7 f7,.sl n9 f9,.sl n11 f11,.sl n13 f13,.sl n15 f15]]=>.tup [.agg [vi (kU (iD n0 f0 n2 f2 x4 n5 f5 n7 f7 n9 f9 n11 f11 n13 f13 n15 f15) (sI n0 f0 n2 f2 f13 f15 n13)),vi (kU (iD n0 f0 n2 f2 x4 n5 f5 n7 f7 n9 f9 n11 f11 n13 f13 n15 f15) (sG n0 f0 n2 f2 f13 f15 n13))],vi (iD n0 f0 n2 f2 x4 n5 f5 n7 f7 n9 f9 n11 f11 n13 f13 n15 f15)]
 |_=>.any
theorem acl:(vP ZN).Ok Tryz.prog 38:=bV pf Tryz.func38 (by kernel_rfl) fun ds hp=>iS (WC ..) (ahw _ _ _ _ _ _ _ _ _ _ _ _ _ _ _ _ _ hp)
theorem ap2 {f13:Nat->List V} {n5:Nat} {f5:Nat->List V} {n7:Nat} {f7:Nat->List V} {n9:Nat} {f9:Nat->List V} {n11:Nat} {f11:Nat->List V} {x17:Int} {i:Nat} (h:Jc f13 n5 f5 n7 f7 n9 f9 n11 f11 x17 i=true):sN f13 i=true:=by
 unfold Jc at h
 cases hb:sN f13 i with
 |true=>rfl
 |false=>rw[hb]at h;cases h
inductive pY where
 |L0 (ia0 ia1:Int)
def TB:pY->bz×List O×Option Ex
 |.L0 ia0 ia1=>([(11,vi ia0),(10,vi ia1),(9,V.pl 0 0),(3,V.pl 1 0),(1,vi x17)],[O.cells [vi (mY n5 (aa aJ f5) n7 (aa aU f7) n9 (aa aV f9) n11 (aa aH f11) x17 x18),vi (mw n5 (aa aJ f5) n7 (aa aU f7) n9 (aa aV f9) n11 (aa aH f11) x17 x18),vi (mq n5 (aa aJ f5) n7 (aa aU f7) n9 (aa aV f9) n11 (aa aH f11) x17 x18),vi (mS n5 (aa aJ f5) n7 (aa aU f7) n9 (aa aV f9) n11 (aa aH f11) x17 x18),vi (qc n5 (aa aJ f5) n7 (aa aU f7) n9 (aa aV f9) n11 (aa aH f11) x17 x18),vi (qo n5 (aa aJ f5) n7 (aa aU f7) n9 (aa aV f9) n11 (aa aH f11) x17 x18)] 75,O.cells [V.sl n0 (aa ak f0),V.sl n2 (aa ah f2),vi x4,V.sl n5 (aa aJ f5),V.sl n7 (aa aU f7),V.sl n9 (aa aV f9),V.sl n11 (aa aH f11),V.sl n13 (aa ae f13),V.sl n15 (aa bQ f15)] 35],none)
def agt:pY->JJ
 |.L0 ia0 ia1=>(0,[])
def NV:T (bO JJ):=aP JJ kH u0 ace [V.agg [V.sl n0 (aa ak f0),V.sl n2 (aa ah f2),vi x4,V.sl n5 (aa aJ f5),V.sl n7 (aa aU f7),V.sl n9 (aa aV f9),V.sl n11 (aa aH f11),V.sl n13 (aa ae f13),V.sl n15 (aa bQ f15)],vi x17,vi x18]
def z7 (cx:List Cx):Lp JJ:=eR (ej (NV n0 f0 n2 f2 x4 n5 f5 n7 f7 n9 f9 n11 f11 n13 f13 n15 f15 x17 x18) [false,false])
def ado:JJ->Lp JJ
 |(0,cx)=>z7 n0 f0 n2 f2 x4 n5 f5 n7 f7 n9 f9 n11 f11 n13 f13 n15 f15 x17 x18 cx
 |(_,cx)=>z7 n0 f0 n2 f2 x4 n5 f5 n7 f7 n9 f9 n11 f11 n13 f13 n15 f15 x17 x18 cx
def aja:LD JJ pY:=⟨agt,ado n0 f0 n2 f2 x4 n5 f5 n7 f7 n9 f9 n11 f11 n13 f13 n15 f15 x17 x18,TB n0 f0 n2 f2 x4 n5 f5 n7 f7 n9 f9 n11 f11 n13 f13 n15 f15 x17 x18⟩
def Cb (n0:Nat) (f0:aN) (n2:Nat) (f2:aN) (x4:Int) (n5:Nat) (f5:aN) (n7:Nat) (f7:aN) (n9:Nat) (f9:aN) (n11:Nat) (f11:aN) (n13:Nat) (f13:aN) (n15:Nat) (f15:aN) (x17 x18:Int):pY->RT pY
 |.L0 ia0 ia1=>.am n13 (.br (decide (ia0<(↑n13:Int))) (.obp (yaa n5 (aa aJ f5)/\yaa n11 (aa aH f11)) (.obt (.ob (dI ia0 n13) (.obi (.br (bif decide (0<=ar (f13 ia0.toNat)) then r9 n5 (aa aJ f5) n7 (aa aU f7) n9 (aa aV f9) n11 (aa aH f11) ia0 x17 else false) (.obp (((0:Int)<=ia0/\ia0<(↑n13:Int))/\((0:Int)<=ia0/\ia0<(↑n15:Int))/\((0:Int)<=ia0/\ia0<(↑n11:Int))/\(yaa n0 (aa ak f0)/\yaa n2 (aa ah f2))/\nP n0 n2 (aa ah f2) n13 (aa ae f13) ia0/\Hd (db (f11 ia0.toNat)) (bf (f11 ia0.toNat))) (.obt (.next [some (some 0),some (some 1)] (pY.L0 (wI (ia0+1)) (wI (ia1+Iq n0 (aa ak f0) n2 (aa ah f2) (aa ae f13) (aa bQ f15) ia0 (aQ (f11 ia0.toNat)) (ca (f11 ia0.toNat)) (bW (f11 ia0.toNat)) (db (f11 ia0.toNat)) (bf (f11 ia0.toNat)) (mY n5 (aa aJ f5) n7 (aa aU f7) n9 (aa aV f9) n11 (aa aH f11) x17 x18) (mw n5 (aa aJ f5) n7 (aa aU f7) n9 (aa aV f9) n11 (aa aH f11) x17 x18) (mq n5 (aa aJ f5) n7 (aa aU f7) n9 (aa aV f9) n11 (aa aH f11) x17 x18) (mS n5 (aa aJ f5) n7 (aa aU f7) n9 (aa aV f9) n11 (aa aH f11) x17 x18) (qc n5 (aa aJ f5) n7 (aa aU f7) n9 (aa aV f9) n11 (aa aH f11) x17 x18) (qo n5 (aa aJ f5) n7 (aa aU f7) n9 (aa aV f9) n11 (aa aH f11) x17 x18)))) []))) (.next [some (some 0),some (some 1)] (pY.L0 (wI (ia0+1)) (ia1)) [])))))) (.ret (V.tup [vi ia1,vi 0])))
def Y7:RT pY:=.obp (yaa n0 (aa ak f0)/\yaa n2 (aa ah f2)/\yaa n5 (aa aJ f5)/\yaa n11 (aa aH f11)) (.obt (.br (kx n0 f0 n2 f2 x4 n5 f5 n7 f7 n9 f9 n11 f11 n13 f13 n15 f15 != 0) (.ret (V.tup [vi 0,vi (kx n0 f0 n2 f2 x4 n5 f5 n7 f7 n9 f9 n11 f11 n13 f13 n15 f15)])) (.obp (yaa n5 (aa aJ f5)/\yaa n11 (aa aH f11)) (.obt (.br (nW n5 (aa aJ f5) n7 (aa aU f7) n9 (aa aV f9) n11 (aa aH f11) x17 x18 != 0) (.ret (V.tup [vi 0,vi (nW n5 (aa aJ f5) n7 (aa aU f7) n9 (aa aV f9) n11 (aa aH f11) x17 x18)])) (.enter [some (some 1),some (some 0)] (pY.L0 (0) (0)) []))))))
theorem R6:dD kH u0 (aja n0 f0 n2 f2 x4 n5 f5 n7 f7 n9 f9 n11 f11 n13 f13 n15 f15 x17 x18) (NV n0 f0 n2 f2 x4 n5 f5 n7 f7 n9 f9 n11 f11 n13 f13 n15 f15 x17 x18) (Y7 n0 f0 n2 f2 x4 n5 f5 n7 f7 n9 f9 n11 f11 n13 f13 n15 f15 x17 x18) (Cb n0 f0 n2 f2 x4 n5 f5 n7 f7 n9 f9 n11 f11 n13 f13 n15 f15 x17 x18):=⟨⟨by kernel_rfl,by kernel_rfl⟩,fun s=>by cases s<;>exact⟨by kernel_rfl,by kernel_rfl⟩⟩
theorem amz (hz:yaa n0 (aa ak f0)/\yaa n2 (aa ah f2)) (G:GdV n0 f0 n2 f2 x4 n5 f5 n7 f7 n9 f9 n11 f11 n13 f13 n15 f15) (hn:n13<=9223372036854775807) (hr:yaa n5 (aa aJ f5)/\yaa n11 (aa aH f11)):∀ k,k<=n13->Ev (Cb n0 f0 n2 f2 x4 n5 f5 n7 f7 n9 f9 n11 f11 n13 f13 n15 f15 x17 x18) (.L0 (k:Int) (Ii n0 f0 n2 f2 f13 f15 n5 f5 n7 f7 n9 f9 n11 f11 x17 x18 k)) (.tup [vi (Ii n0 f0 n2 f2 f13 f15 n5 f5 n7 f7 n9 f9 n11 f11 x17 x18 n13),vi 0]):=by
 refine cO fun k hk ih=>Ev.of rfl ?_
 have ll:=G.ll
 have lu:=G.lu
 by_cases hlt:k<n13
 ·have hw:wI ((k:Int)+1)=((k+1:Nat):Int):=by rw[wrapI (by omega) (by omega)];omega
  have ih:=ih hlt
  rw [← hw]at ih
  have c:=G.cl k (by omega)
  have ix:sN (aa ae f13) k=true->nP n0 n2 (aa ah f2) n13 (aa ae f13) (k:Int):=fun h=>Q4 (f0:=aa ak f0) (f15:=aa bQ f15) G.v2.l2 G.lm (G.co k (by omega)) hlt h
  refine bg fun _=>eG (dqt (by omega)) (evObp hr (evObt (aE (dqt (by omega)) (evObi (evBr (fun h=>evObp ⟨by omega,by omega,by omega,hz,ix (ap2 (show VR f13 n5 f5 n7 f7 n9 f9 n11 f11 x17 k=true from h)),c.hd⟩ (evObt (aK ?_))) (fun h=>aK ?_))))))
  ·have h:VR f13 n5 f5 n7 f7 n9 f9 n11 f11 x17 k=true:=h
   unfold Ii RX at ih
   rw [mr (show Jc (aa ae f13) n5 (aa aJ f5) n7 (aa aU f7) n9 (aa aV f9) n11 (aa aH f11) x17 k=true from h)]at ih
   exact ih
  ·have h:VR f13 n5 f5 n7 f7 n9 f9 n11 f11 x17 k=false:=h
   unfold Ii RX at ih
   rw [ly (show Jc (aa ae f13) n5 (aa aJ f5) n7 (aa aU f7) n9 (aa aV f9) n11 (aa aH f11) x17 k=false from h)]at ih
   exact ih
 ·have e:k=n13:=by omega
  refine bg fun _=>?_
  refine ed (gx (by omega)) ?_
  rw [e]
  exact evRet rfl
theorem ac3 (hp:yaa n0 (aa ak f0)/\yaa n2 (aa ah f2)/\yaa n5 (aa aJ f5)/\yaa n11 (aa aH f11)):aR (Ev (Cb n0 f0 n2 f2 x4 n5 f5 n7 f7 n9 f9 n11 f11 n13 f13 n15 f15 x17 x18)) (Y7 n0 f0 n2 f2 x4 n5 f5 n7 f7 n9 f9 n11 f11 n13 f13 n15 f15 x17 x18) (.tup [vi (kU (v7 (iD n0 (aa ak f0) n2 (aa ah f2) x4 n5 (aa aJ f5) n7 (aa aU f7) n9 (aa aV f9) n11 (aa aH f11) n13 (aa ae f13) n15 (aa bQ f15)) n5 (aa aJ f5) n7 (aa aU f7) n9 (aa aV f9) n11 (aa aH f11) x17 x18) (RX n0 (aa ak f0) n2 (aa ah f2) (aa ae f13) (aa bQ f15) n5 (aa aJ f5) n7 (aa aU f7) n9 (aa aV f9) n11 (aa aH f11) x17 x18 n13)),vi (v7 (iD n0 (aa ak f0) n2 (aa ah f2) x4 n5 (aa aJ f5) n7 (aa aU f7) n9 (aa aV f9) n11 (aa aH f11) n13 (aa ae f13) n15 (aa bQ f15)) n5 (aa aJ f5) n7 (aa aU f7) n9 (aa aV f9) n11 (aa aH f11) x17 x18)]):=by
 refine evObp hp (evObt (evBr (fun h=>evRet (rb (aaV (kZ h)) (kZ h))) (fun h=>evObp ⟨hp.2.2.1,hp.2.2.2⟩ (evObt ?_))))
 have h0:(iD n0 (aa ak f0) n2 (aa ah f2) x4 n5 (aa aJ f5) n7 (aa aU f7) n9 (aa aV f9) n11 (aa aH f11) n13 (aa ae f13) n15 (aa bQ f15))=0:=gE h
 have hn:n13<=9223372036854775807:=by have:=(rX h0).ll;have:=(rX h0).v3.l6;omega
 refine evBr (fun h1=>evRet (rb (Gi h0) (kZ h1))) (fun h1=>aF ?_)
 have e:(v7 (iD n0 (aa ak f0) n2 (aa ah f2) x4 n5 (aa aJ f5) n7 (aa aU f7) n9 (aa aV f9) n11 (aa aH f11) n13 (aa ae f13) n15 (aa bQ f15)) n5 (aa aJ f5) n7 (aa aU f7) n9 (aa aV f9) n11 (aa aH f11) x17 x18)=0:=(Gi h0).trans (gE h1)
 rw [e]
 exact amz n0 f0 n2 f2 x4 n5 f5 n7 f7 n9 f9 n11 f11 n13 f13 n15 f15 x17 x18 ⟨hp.1,hp.2.1⟩ (rX h0) hn ⟨hp.2.2.1,hp.2.2.2⟩ 0 (Nat.zero_le _)
def ZS:aB:=bF [.agg [.sl ak,.sl ah,tI,.sl aJ,.sl aU,.sl aV,.sl aH,.sl ae,.sl bQ],tI,tI] (fun
 |[.agg [.sl n0 f0,.sl n2 f2,.int _ x4,.sl n5 f5,.sl n7 f7,.sl n9 f9,.sl n11 f11,.sl n13 f13,.sl n15 f15],.int _ x17,.int _ x18]=>yaa n0 f0/\yaa n2 f2/\yaa n5 f5/\yaa n11 f11
 |_=>False) fun
 |[.agg [.sl n0 f0,.sl n2 f2,.int _ x4,.sl n5 f5,.sl n7 f7,.sl n9 f9,.sl n11 f11,.sl n13 f13,.sl n15 f15],.int _ x17,.int _ x18]=>.tup [vi (kU (v7 (iD n0 f0 n2 f2 x4 n5 f5 n7 f7 n9 f9 n11 f11 n13 f13 n15 f15) n5 f5 n7 f7 n9 f9 n11 f11 x17 x18) (RX n0 f0 n2 f2 f13 f15 n5 f5 n7 f7 n9 f9 n11 f11 x17 x18 n13)),vi (v7 (iD n0 f0 n2 f2 x4 n5 f5 n7 f7 n9 f9 n11 f11 n13 f13 n15 f15) n5 f5 n7 f7 n9 f9 n11 f11 x17 x18)]
 |_=>.any
theorem acC:(vP ZS).Ok Tryz.prog 34:=bV pf Tryz.func34 (by kernel_rfl) fun ds hp=>iS (R6 ..) (ac3 _ _ _ _ _ _ _ _ _ _ _ _ _ _ _ _ _ _ _ hp)
inductive oy where
 |L0 (ia0:Int) (na1:Nat) (ia2:Int)
def Xf:oy->bz×List O×Option Ex
 |.L0 ia0 na1 ia2=>([(8,vi ia0),(7,vi (↑n13:Int)),(6,V.sl n13 (aa ae f13)),(5,V.pl 4 7),(0,V.yl na1),(1,V.pl 4 0)],[O.cells [V.sl n0 (aa ak f0),V.sl n2 (aa ah f2),vi x4,V.sl n5 (aa aJ f5),V.sl n7 (aa aU f7),V.sl n9 (aa aV f9),V.sl n11 (aa aH f11),V.sl n13 (aa ae f13),V.sl n15 (aa bQ f15)] 35,O.cells [vi x17] 3,O.cells [vi (nR n5 (aa aJ f5) n7 (aa aU f7) n9 (aa aV f9) n11 (aa aH f11) x17 x18),vi (oz n5 (aa aJ f5) n7 (aa aU f7) n9 (aa aV f9) n11 (aa aH f11) x17 x18),vi (nX n5 (aa aJ f5) n7 (aa aU f7) n9 (aa aV f9) n11 (aa aH f11) x17 x18),vi (om n5 (aa aJ f5) n7 (aa aU f7) n9 (aa aV f9) n11 (aa aH f11) x17 x18),vi (pH n5 (aa aJ f5) n7 (aa aU f7) n9 (aa aV f9) n11 (aa aH f11) x17 x18),vi (qf n5 (aa aJ f5) n7 (aa aU f7) n9 (aa aV f9) n11 (aa aH f11) x17 x18)] 75,O.cells [vi ia2] 3,O.cells [V.sl n0 (aa ak f0),V.sl n2 (aa ah f2),vi x4,V.sl n5 (aa aJ f5),V.sl n7 (aa aU f7),V.sl n9 (aa aV f9),V.sl n11 (aa aH f11),V.sl n13 (aa ae f13),V.sl n15 (aa bQ f15)] 35],none)
def afn:oy->JJ
 |.L0 ia0 na1 ia2=>(0,[Cx.n na1])
def Jt:T (bO JJ):=aP JJ kH u0 ad9 [V.agg [V.sl n0 (aa ak f0),V.sl n2 (aa ah f2),vi x4,V.sl n5 (aa aJ f5),V.sl n7 (aa aU f7),V.sl n9 (aa aV f9),V.sl n11 (aa aH f11),V.sl n13 (aa ae f13),V.sl n15 (aa bQ f15)],vi x17,vi x18]
def BK (cx:List Cx):Lp JJ:=eR (ej (afT (ej (Jt n0 f0 n2 f2 x4 n5 f5 n7 f7 n9 f9 n11 f11 n13 f13 n15 f15 x17 x18) [false,false]) (wL cx 0)) [])
def aef:JJ->Lp JJ
 |(0,cx)=>BK n0 f0 n2 f2 x4 n5 f5 n7 f7 n9 f9 n11 f11 n13 f13 n15 f15 x17 x18 cx
 |(_,cx)=>BK n0 f0 n2 f2 x4 n5 f5 n7 f7 n9 f9 n11 f11 n13 f13 n15 f15 x17 x18 cx
def ak1:LD JJ oy:=⟨afn,aef n0 f0 n2 f2 x4 n5 f5 n7 f7 n9 f9 n11 f11 n13 f13 n15 f15 x17 x18,Xf n0 f0 n2 f2 x4 n5 f5 n7 f7 n9 f9 n11 f11 n13 f13 n15 f15 x17 x18⟩
def Df (n0:Nat) (f0:aN) (n2:Nat) (f2:aN) (x4:Int) (n5:Nat) (f5:aN) (n7:Nat) (f7:aN) (n9:Nat) (f9:aN) (n11:Nat) (f11:aN) (n13:Nat) (f13:aN) (n15:Nat) (f15:aN) (x17 x18:Int):oy->RT oy
 |.L0 ia0 na1 ia2=>.br (decide (ia0<(↑n13:Int))) (.ob (dI ia0 n13) (.iv (.obj (decide (0<=ar (f13 ia0.toNat))) (dI ia0 n11) (.iv (.br (decide (0<=ar (f13 ia0.toNat))) (.ob (decide (0<=ar (f13 ia0.toNat))) (.ob (decide (0<=ar (f13 ia0.toNat))) (.obp (yaa n5 (aa aJ f5)/\yaa n11 (aa aH f11)) (.obt (.br (xh n5 (aa aJ f5) n7 (aa aU f7) n9 (aa aV f9) n11 (aa aH f11) ia0 x17) (.obp (((0:Int)<=ia0/\ia0<(↑n13:Int))/\((0:Int)<=ia0/\ia0<(↑n15:Int))/\(yaa n0 (aa ak f0)/\yaa n2 (aa ah f2))/\nP n0 n2 (aa ah f2) n13 (aa ae f13) ia0/\TS (aa ak f0) (aa ah f2) (aa ae f13) ia0/\Hd (db (f11 ia0.toNat)) (bf (f11 ia0.toNat))/\ir (aQ (f11 ia0.toNat))/\ir (ca (f11 ia0.toNat))/\ir (nR n5 (aa aJ f5) n7 (aa aU f7) n9 (aa aV f9) n11 (aa aH f11) x17 x18)/\ir (oz n5 (aa aJ f5) n7 (aa aU f7) n9 (aa aV f9) n11 (aa aH f11) x17 x18)/\ir (nX n5 (aa aJ f5) n7 (aa aU f7) n9 (aa aV f9) n11 (aa aH f11) x17 x18)/\ir (om n5 (aa aJ f5) n7 (aa aU f7) n9 (aa aV f9) n11 (aa aH f11) x17 x18)) (.obt (.next (iR 0 5 []) (oy.L0 (wI (ia0+1)) (na1) (wI (ia2+Iq n0 (aa ak f0) n2 (aa ah f2) (aa ae f13) (aa bQ f15) ia0 (aQ (f11 ia0.toNat)) (ca (f11 ia0.toNat)) (bW (f11 ia0.toNat)) (db (f11 ia0.toNat)) (bf (f11 ia0.toNat)) (nR n5 (aa aJ f5) n7 (aa aU f7) n9 (aa aV f9) n11 (aa aH f11) x17 x18) (oz n5 (aa aJ f5) n7 (aa aU f7) n9 (aa aV f9) n11 (aa aH f11) x17 x18) (nX n5 (aa aJ f5) n7 (aa aU f7) n9 (aa aV f9) n11 (aa aH f11) x17 x18) (om n5 (aa aJ f5) n7 (aa aU f7) n9 (aa aV f9) n11 (aa aH f11) x17 x18) (pH n5 (aa aJ f5) n7 (aa aU f7) n9 (aa aV f9) n11 (aa aH f11) x17 x18) (qf n5 (aa aJ f5) n7 (aa aU f7) n9 (aa aV f9) n11 (aa aH f11) x17 x18)))) []))) (.next (iR 0 5 []) (oy.L0 (wI (ia0+1)) (na1) (ia2)) [])))))) (.next (iR 0 5 []) (oy.L0 (wI (ia0+1)) (na1) (ia2)) [])))))) (.ret (V.tup [vi ia2,vi 0]))
def aak:RT oy:=.obp (yaa n0 (aa ak f0)/\yaa n2 (aa ah f2)/\yaa n5 (aa aJ f5)/\yaa n11 (aa aH f11)) (.obt (.br (kx n0 f0 n2 f2 x4 n5 f5 n7 f7 n9 f9 n11 f11 n13 f13 n15 f15 != 0) (.ret (V.tup [vi 0,vi (kx n0 f0 n2 f2 x4 n5 f5 n7 f7 n9 f9 n11 f11 n13 f13 n15 f15)])) (.obp (yaa n5 (aa aJ f5)/\yaa n11 (aa aH f11)) (.obt (.br (qu n5 (aa aJ f5) n7 (aa aU f7) n9 (aa aV f9) n11 (aa aH f11) x17 x18 != 0) (.ret (V.tup [vi 0,vi (qu n5 (aa aJ f5) n7 (aa aU f7) n9 (aa aV f9) n11 (aa aH f11) x17 x18)])) (.all (fun l_15061=>.am n13 (.enter (iR 0 5 []) (oy.L0 (0) (l_15061) (0)) []))))))))
theorem XL:dD kH u0 (ak1 n0 f0 n2 f2 x4 n5 f5 n7 f7 n9 f9 n11 f11 n13 f13 n15 f15 x17 x18) (Jt n0 f0 n2 f2 x4 n5 f5 n7 f7 n9 f9 n11 f11 n13 f13 n15 f15 x17 x18) (aak n0 f0 n2 f2 x4 n5 f5 n7 f7 n9 f9 n11 f11 n13 f13 n15 f15 x17 x18) (Df n0 f0 n2 f2 x4 n5 f5 n7 f7 n9 f9 n11 f11 n13 f13 n15 f15 x17 x18):=⟨⟨by kernel_rfl,by kernel_rfl⟩,fun s=>by cases s<;>exact⟨by kernel_rfl,by kernel_rfl⟩⟩
theorem aj9 (hz:yaa n0 (aa ak f0)/\yaa n2 (aa ah f2)) (G:GdV n0 f0 n2 f2 x4 n5 f5 n7 f7 n9 f9 n11 f11 n13 f13 n15 f15) (hn:n13<=9223372036854775807) (hr:yaa n5 (aa aJ f5)/\yaa n11 (aa aH f11)) (l:Nat):∀ k,k<=n13->Ev (Df n0 f0 n2 f2 x4 n5 f5 n7 f7 n9 f9 n11 f11 n13 f13 n15 f15 x17 x18) (.L0 (k:Int) l (Ii n0 f0 n2 f2 f13 f15 n5 f5 n7 f7 n9 f9 n11 f11 x17 x18 k)) (.tup [vi (Ii n0 f0 n2 f2 f13 f15 n5 f5 n7 f7 n9 f9 n11 f11 x17 x18 n13),vi 0]):=by
 refine cO fun k hk ih=>Ev.of rfl ?_
 have ll:=G.ll
 have lu:=G.lu
 by_cases hlt:k<n13
 ·have hw:wI ((k:Int)+1)=((k+1:Nat):Int):=by rw[wrapI (by omega) (by omega)];omega
  have ih:=ih hlt
  rw [← hw]at ih
  have c:=G.cl k (by omega)
  have ix:sN (aa ae f13) k=true->nP n0 n2 (aa ah f2) n13 (aa ae f13) (k:Int):=fun h=>Q4 (f0:=aa ak f0) (f15:=aa bQ f15) G.v2.l2 G.lm (G.co k (by omega)) hlt h
  have bx:=abR (n0:=n5) (f0:=aa aJ f5) (n2:=n7) (f2:=aa aU f7) (n4:=n9) (f4:=aa aV f9) (n6:=n11) (f6:=aa aH f11) (x8:=x17) (x9:=x18)
  have pc:ir (aQ (aa aH f11 k))/\ir (ca (aa aH f11 k)):=by
   have h1:=c.px
   have h2:=c.py
   exact ⟨⟨by omega,by omega⟩,⟨by omega,by omega⟩⟩
  refine eG (dqt (by omega)) (aE (dqt (by omega)) (evObi (evObi (evObi (evObi (evObj (fun _=>(dqt (by omega))) (evObi (evObi (evObi (evObi (evBr (fun h=>aE h (aE h (evObp hr (evObt (evBr (fun h2=>?_) (fun h2=>aK ?_)))))) (fun h=>aK ?_))))))))))))
  ·rw[(gK x17 x18).1,(gK x17 x18).2.1,(gK x17 x18).2.2.1,(gK x17 x18).2.2.2.1,(gK x17 x18).2.2.2.2.1,(gK x17 x18).2.2.2.2.2.1]
   refine evObp ⟨by omega,by omega,hz,ix h,ao2 (ix h) G.tb,c.hd,pc.1,pc.2,bx.1,bx.2.1,bx.2.2.1,bx.2.2.2⟩ (evObt (aK ?_))
   have h:VR f13 n5 f5 n7 f7 n9 f9 n11 f11 x17 k=true:=by unfold VR Jc;rw[show sN (aa ae f13) k=true from h];exact(AC _ _).1.symm.trans h2
   unfold Ii RX at ih
   rw [mr (show Jc (aa ae f13) n5 (aa aJ f5) n7 (aa aU f7) n9 (aa aV f9) n11 (aa aH f11) x17 k=true from h)]at ih
   exact ih
  ·have h:VR f13 n5 f5 n7 f7 n9 f9 n11 f11 x17 k=false:=by unfold VR Jc;rw[show sN (aa ae f13) k=true from h];exact(AC _ _).1.symm.trans h2
   unfold Ii RX at ih
   rw [ly (show Jc (aa ae f13) n5 (aa aJ f5) n7 (aa aU f7) n9 (aa aV f9) n11 (aa aH f11) x17 k=false from h)]at ih
   exact ih
  ·have h:VR f13 n5 f5 n7 f7 n9 f9 n11 f11 x17 k=false:=by unfold VR Jc;rw[show sN (aa ae f13) k=false from h];rfl
   unfold Ii RX at ih
   rw [ly (show Jc (aa ae f13) n5 (aa aJ f5) n7 (aa aU f7) n9 (aa aV f9) n11 (aa aH f11) x17 k=false from h)]at ih
   exact ih
 ·have e:k=n13:=by omega
  refine ed (gx (by omega)) ?_
  rw [e]
  exact evRet rfl
theorem ac1 (hp:yaa n0 (aa ak f0)/\yaa n2 (aa ah f2)/\yaa n5 (aa aJ f5)/\yaa n11 (aa aH f11)):aR (Ev (Df n0 f0 n2 f2 x4 n5 f5 n7 f7 n9 f9 n11 f11 n13 f13 n15 f15 x17 x18)) (aak n0 f0 n2 f2 x4 n5 f5 n7 f7 n9 f9 n11 f11 n13 f13 n15 f15 x17 x18) (.tup [vi (kU (v7 (iD n0 (aa ak f0) n2 (aa ah f2) x4 n5 (aa aJ f5) n7 (aa aU f7) n9 (aa aV f9) n11 (aa aH f11) n13 (aa ae f13) n15 (aa bQ f15)) n5 (aa aJ f5) n7 (aa aU f7) n9 (aa aV f9) n11 (aa aH f11) x17 x18) (RX n0 (aa ak f0) n2 (aa ah f2) (aa ae f13) (aa bQ f15) n5 (aa aJ f5) n7 (aa aU f7) n9 (aa aV f9) n11 (aa aH f11) x17 x18 n13)),vi (v7 (iD n0 (aa ak f0) n2 (aa ah f2) x4 n5 (aa aJ f5) n7 (aa aU f7) n9 (aa aV f9) n11 (aa aH f11) n13 (aa ae f13) n15 (aa bQ f15)) n5 (aa aJ f5) n7 (aa aU f7) n9 (aa aV f9) n11 (aa aH f11) x17 x18)]):=by
 refine evObp hp (evObt (evBr (fun h=>evRet (rb (aaV (kZ h)) (kZ h))) (fun h=>evObp ⟨hp.2.2.1,hp.2.2.2⟩ (evObt ?_))))
 have h0:(iD n0 (aa ak f0) n2 (aa ah f2) x4 n5 (aa aJ f5) n7 (aa aU f7) n9 (aa aV f9) n11 (aa aH f11) n13 (aa ae f13) n15 (aa bQ f15))=0:=gE h
 rw [(gK x17 x18).2.2.2.2.2.2]
 refine evBr (fun h1=>evRet (rb (Gi h0) (kZ h1))) (fun h1=>ul fun l=>bg fun hn=>aF ?_)
 have e:(v7 (iD n0 (aa ak f0) n2 (aa ah f2) x4 n5 (aa aJ f5) n7 (aa aU f7) n9 (aa aV f9) n11 (aa aH f11) n13 (aa ae f13) n15 (aa bQ f15)) n5 (aa aJ f5) n7 (aa aU f7) n9 (aa aV f9) n11 (aa aH f11) x17 x18)=0:=(Gi h0).trans (gE h1)
 rw [e]
 exact aj9 n0 f0 n2 f2 x4 n5 f5 n7 f7 n9 f9 n11 f11 n13 f13 n15 f15 x17 x18 ⟨hp.1,hp.2.1⟩ (rX h0) hn ⟨hp.2.2.1,hp.2.2.2⟩ l 0 (Nat.zero_le _)
def Zv:aB:=bF [.agg [.sl ak,.sl ah,tI,.sl aJ,.sl aU,.sl aV,.sl aH,.sl ae,.sl bQ],tI,tI] (fun
 |[.agg [.sl n0 f0,.sl n2 f2,.int _ x4,.sl n5 f5,.sl n7 f7,.sl n9 f9,.sl n11 f11,.sl n13 f13,.sl n15 f15],.int _ x17,.int _ x18]=>yaa n0 f0/\yaa n2 f2/\yaa n5 f5/\yaa n11 f11
 |_=>False) fun
 |[.agg [.sl n0 f0,.sl n2 f2,.int _ x4,.sl n5 f5,.sl n7 f7,.sl n9 f9,.sl n11 f11,.sl n13 f13,.sl n15 f15],.int _ x17,.int _ x18]=>.tup [vi (kU (v7 (iD n0 f0 n2 f2 x4 n5 f5 n7 f7 n9 f9 n11 f11 n13 f13 n15 f15) n5 f5 n7 f7 n9 f9 n11 f11 x17 x18) (RX n0 f0 n2 f2 f13 f15 n5 f5 n7 f7 n9 f9 n11 f11 x17 x18 n13)),vi (v7 (iD n0 f0 n2 f2 x4 n5 f5 n7 f7 n9 f9 n11 f11 n13 f13 n15 f15) n5 f5 n7 f7 n9 f9 n11 f11 x17 x18)]
 |_=>.any
theorem abW:(vP Zv).Ok Tryz.prog 29:=bV pf Tryz.func29 (by kernel_rfl) fun ds hp=>iS (XL ..) (ac1 _ _ _ _ _ _ _ _ _ _ _ _ _ _ _ _ _ _ _ hp)
def Zl:RT Empty:=dm (n0,f0,n2,f2,x4,n5,f5,n7,f7,n9,f9,n11,f11,n13,f13,n15,f15,s18,x19,x20,x21,x22,x23,x28,n29,f29,n31,f31,n33,f33,n35,f35) (.ob (dI x17 n37) (.ob (dI x17 n39) (.obp (yaa n24 (aa ak f24)/\yaa n26 (aa ah f26)) (.obt (.ret (V.agg [vi (uH n24 (aa ak f24) n26 (aa ah f26) (ar (f37 x17.toNat)) (ca (f39 x17.toNat))),vi (u9 n24 (aa ak f24) n26 (aa ah f26) (ar (f37 x17.toNat)) (ca (f39 x17.toNat)))]))))))
theorem Xr:cJ cL (aP JJ kH u0 agN [V.agg [V.sl n0 (aa ak f0),V.sl n2 (aa ah f2),vi x4,V.sl n5 (aa aJ f5),V.sl n7 (aa aU f7),V.sl n9 (aa aV f9),V.sl n11 (aa aH f11),V.sl n13 (aa ae f13),V.sl n15 (aa bQ f15),vi x17,V.str s18,vi x19,vi x20,vi x21,vi x22,vi x23],V.pd [V.sl n24 (aa ak f24),V.sl n26 (aa ah f26),vi x28,V.sl n29 (aa aJ f29),V.sl n31 (aa aU f31),V.sl n33 (aa aV f33),V.sl n35 (aa aH f35),V.sl n37 (aa ae f37),V.sl n39 (aa bQ f39)]]) (Zl n0 f0 n2 f2 x4 n5 f5 n7 f7 n9 f9 n11 f11 n13 f13 n15 f15 x17 s18 x19 x20 x21 x22 x23 n24 f24 n26 f26 x28 n29 f29 n31 f31 n33 f33 n35 f35 n37 f37 n39 f39):=⟨by kernel_rfl,by kernel_rfl⟩
theorem acH (n0:Nat) (f0:aN) (n2:Nat) (f2:aN) (x4:Int) (n5:Nat) (f5:aN) (n7:Nat) (f7:aN) (n9:Nat) (f9:aN) (n11:Nat) (f11:aN) (n13:Nat) (f13:aN) (n15:Nat) (f15:aN) (x17:Int) (s18:ByteArray) (x19 x20 x21 x22 x23:Int) (n24:Nat) (f24:aN) (n26:Nat) (f26:aN) (x28:Int) (n29:Nat) (f29:aN) (n31:Nat) (f31:aN) (n33:Nat) (f33:aN) (n35:Nat) (f35:aN) (n37:Nat) (f37:aN) (n39:Nat) (f39:aN) (hp:(0<=x17/\x17<(n37:Int))/\(0<=x17/\x17<(n39:Int))/\(yaa n24 (aa ak f24)/\yaa n26 (aa ah f26))):aR cq (Zl n0 f0 n2 f2 x4 n5 f5 n7 f7 n9 f9 n11 f11 n13 f13 n15 f15 x17 s18 x19 x20 x21 x22 x23 n24 f24 n26 f26 x28 n29 f29 n31 f31 n33 f33 n35 f35 n37 f37 n39 f39) (.agg [vi (uH n24 (aa ak f24) n26 (aa ah f26) (ar ((aa ae f37) x17.toNat)) (ca ((aa bQ f39) x17.toNat))),vi (u9 n24 (aa ak f24) n26 (aa ah f26) (ar ((aa ae f37) x17.toNat)) (ca ((aa bQ f39) x17.toNat)))]):=by
 obtain ⟨h0,h1,hz⟩:=hp
 exact aE (dqt h0) (aE (dqt h1) (evObp hz (evObt (evRet rfl))))
def YE:aB:=bF [.agg [.sl ak,.sl ah,tI,.sl aJ,.sl aU,.sl aV,.sl aH,.sl ae,.sl bQ,tI,.str,tI,tI,tI,tI,tI],.pd [.sl ak,.sl ah,tI,.sl aJ,.sl aU,.sl aV,.sl aH,.sl ae,.sl bQ]] (fun
 |[.agg [.sl n0 f0,.sl n2 f2,.int _ x4,.sl n5 f5,.sl n7 f7,.sl n9 f9,.sl n11 f11,.sl n13 f13,.sl n15 f15,.int _ x17,.str s18,.int _ x19,.int _ x20,.int _ x21,.int _ x22,.int _ x23],.pd [.sl n24 f24,.sl n26 f26,.int _ x28,.sl n29 f29,.sl n31 f31,.sl n33 f33,.sl n35 f35,.sl n37 f37,.sl n39 f39]]=>(0<=x17/\x17<(n37:Int))/\(0<=x17/\x17<(n39:Int))/\(yaa n24 f24/\yaa n26 f26)
 |_=>False) fun
 |[.agg [.sl n0 f0,.sl n2 f2,.int _ x4,.sl n5 f5,.sl n7 f7,.sl n9 f9,.sl n11 f11,.sl n13 f13,.sl n15 f15,.int _ x17,.str s18,.int _ x19,.int _ x20,.int _ x21,.int _ x22,.int _ x23],.pd [.sl n24 f24,.sl n26 f26,.int _ x28,.sl n29 f29,.sl n31 f31,.sl n33 f33,.sl n35 f35,.sl n37 f37,.sl n39 f39]]=>.agg [vi (uH n24 f24 n26 f26 (ar (f37 x17.toNat)) (ca (f39 x17.toNat))),vi (u9 n24 f24 n26 f26 (ar (f37 x17.toNat)) (ca (f39 x17.toNat)))]
 |_=>.any
theorem afP:(vP YE).Ok Tryz.prog 100:=bV pf Tryz.func100 (by kernel_rfl) fun ds hp=>cQ (Xr ..) (acH _ _ _ _ _ _ _ _ _ _ _ _ _ _ _ _ _ _ _ _ _ _ _ _ _ _ _ _ _ _ _ _ _ _ _ _ _ _ _ _ _ hp)
def EO:bj:=(79,.inl Ea u0)::(36,.con ZP)::(35,.con Y2)::(38,.con ZN)::(34,.con ZS)::(29,.con Zv)::(100,.con YE)::kH
theorem KO:aW Tryz.prog eqs its EO:=fZ Tryz.func79 (by kernel_rfl) (.con acV (.con afV (.con acl (.con acC (.con abW (.con afP (pf)))))))
def vE (f19 f30 f32:Nat->List V):Nat->Int:=sR (sN f13) fun i=>uH n17 f17 n19 f19 (ar (f30 i)) (ca (f32 i))
def vF (f19 f30 f32:Nat->List V):Nat->Int:=sR (sN f13) fun i=>u9 n17 f17 n19 f19 (ar (f30 i)) (ca (f32 i))
inductive kS where
 |L0 (ia0:Int) (na1:Nat) (ia2 ia3:Int)
def Qi:kS->bz×List O×Option Ex
 |.L0 ia0 na1 ia2 ia3=>([(8,vi ia0),(7,vi (↑n13:Int)),(6,V.sl n13 (aa ae f13)),(5,V.pl 4 7),(0,V.yl na1),(1,V.pl 4 0)],[O.cells [V.sl n0 (aa ak f0),V.sl n2 (aa ah f2),vi x4,V.sl n5 (aa aJ f5),V.sl n7 (aa aU f7),V.sl n9 (aa aV f9),V.sl n11 (aa aH f11),V.sl n13 (aa ae f13),V.sl n15 (aa bQ f15)] 35,O.cells [V.fn 100 [] [V.pd [V.sl n17 (aa ak f17),V.sl n19 (aa ah f19),vi x21,V.sl n22 (aa aJ f22),V.sl n24 (aa aU f24),V.sl n26 (aa aV f26),V.sl n28 (aa aH f28),V.sl n30 (aa ae f30),V.sl n32 (aa bQ f32)]]] 111,O.cells [vi 0,vi 0] 39,O.cells [vi ia2,vi ia3] 39,O.cells [V.sl n0 (aa ak f0),V.sl n2 (aa ah f2),vi x4,V.sl n5 (aa aJ f5),V.sl n7 (aa aU f7),V.sl n9 (aa aV f9),V.sl n11 (aa aH f11),V.sl n13 (aa ae f13),V.sl n15 (aa bQ f15)] 35],none)
def Wo:kS->JJ
 |.L0 ia0 na1 ia2 ia3=>(0,[Cx.n na1])
def HG:T (bO JJ):=aP JJ EO u0 KJ [V.agg [V.sl n0 (aa ak f0),V.sl n2 (aa ah f2),vi x4,V.sl n5 (aa aJ f5),V.sl n7 (aa aU f7),V.sl n9 (aa aV f9),V.sl n11 (aa aH f11),V.sl n13 (aa ae f13),V.sl n15 (aa bQ f15)],V.fn 100 [] [V.pd [V.sl n17 (aa ak f17),V.sl n19 (aa ah f19),vi x21,V.sl n22 (aa aJ f22),V.sl n24 (aa aU f24),V.sl n26 (aa aV f26),V.sl n28 (aa aH f28),V.sl n30 (aa ae f30),V.sl n32 (aa bQ f32)]]]
def xH (cx:List Cx):Lp JJ:=eR (ej (afT (ej (HG n0 f0 n2 f2 x4 n5 f5 n7 f7 n9 f9 n11 f11 n13 f13 n15 f15 n17 f17 n19 f19 x21 n22 f22 n24 f24 n26 f26 n28 f28 n30 f30 n32 f32) []) (wL cx 0)) [])
def W2:JJ->Lp JJ
 |(0,cx)=>xH n0 f0 n2 f2 x4 n5 f5 n7 f7 n9 f9 n11 f11 n13 f13 n15 f15 n17 f17 n19 f19 x21 n22 f22 n24 f24 n26 f26 n28 f28 n30 f30 n32 f32 cx
 |(_,cx)=>xH n0 f0 n2 f2 x4 n5 f5 n7 f7 n9 f9 n11 f11 n13 f13 n15 f15 n17 f17 n19 f19 x21 n22 f22 n24 f24 n26 f26 n28 f28 n30 f30 n32 f32 cx
def abx:LD JJ kS:=⟨Wo,W2 n0 f0 n2 f2 x4 n5 f5 n7 f7 n9 f9 n11 f11 n13 f13 n15 f15 n17 f17 n19 f19 x21 n22 f22 n24 f24 n26 f26 n28 f28 n30 f30 n32 f32,Qi n0 f0 n2 f2 x4 n5 f5 n7 f7 n9 f9 n11 f11 n13 f13 n15 f15 n17 f17 n19 f19 x21 n22 f22 n24 f24 n26 f26 n28 f28 n30 f30 n32 f32⟩
def yn (n0:Nat) (f0:aN) (n2:Nat) (f2:aN) (x4:Int) (n5:Nat) (f5:aN) (n7:Nat) (f7:aN) (n9:Nat) (f9:aN) (n11:Nat) (f11:aN) (n13:Nat) (f13:aN) (n15:Nat) (f15:aN) (n17:Nat) (f17:aN) (n19:Nat) (f19:aN) (x21:Int) (n22:Nat) (f22:aN) (n24:Nat) (f24:aN) (n26:Nat) (f26:aN) (n28:Nat) (f28:aN) (n30:Nat) (f30:aN) (n32:Nat) (f32:aN):kS->RT kS
 |.L0 ia0 na1 ia2 ia3=>.br (decide (ia0<(↑n13:Int))) (.ob (dI ia0 n13) (.iv (.obj (decide (0<=ar (f13 ia0.toNat))) (dI ia0 n11) (.iv (.br (decide (0<=ar (f13 ia0.toNat))) (.ob (decide (0<=ar (f13 ia0.toNat))) (.ob (decide (0<=ar (f13 ia0.toNat))) (.obp (((0:Int)<=ia0/\ia0<(↑n30:Int))/\((0:Int)<=ia0/\ia0<(↑n32:Int))/\yaa n17 (aa ak f17)/\yaa n19 (aa ah f19)) (.obt (.next (iR 0 5 []) (kS.L0 (wI (ia0+1)) (na1) (wI (ia2+uH n17 (aa ak f17) n19 (aa ah f19) (ar (f30 ia0.toNat)) (ca (f32 ia0.toNat)))) (wI (ia3+u9 n17 (aa ak f17) n19 (aa ah f19) (ar (f30 ia0.toNat)) (ca (f32 ia0.toNat))))) []))))) (.next (iR 0 5 []) (kS.L0 (wI (ia0+1)) (na1) (ia2) (ia3)) [])))))) (.ret (V.agg [vi ia2,vi ia3]))
def NZ:RT kS:=dm (n0,f0,n2,f2,x4,n5,f5,n7,f7,n9,f9,n11,f11,f13,n15,f15,n17,f17,n19,f19,x21,n22,f22,n24,f24,n26,f26,n28,f28,n30,f30,n32,f32) (.all (fun l_14388=>.am n13 (.enter (iR 0 5 []) (kS.L0 (0) (l_14388) (0) (0)) [])))
theorem MD:dD EO u0 (abx n0 f0 n2 f2 x4 n5 f5 n7 f7 n9 f9 n11 f11 n13 f13 n15 f15 n17 f17 n19 f19 x21 n22 f22 n24 f24 n26 f26 n28 f28 n30 f30 n32 f32) (HG n0 f0 n2 f2 x4 n5 f5 n7 f7 n9 f9 n11 f11 n13 f13 n15 f15 n17 f17 n19 f19 x21 n22 f22 n24 f24 n26 f26 n28 f28 n30 f30 n32 f32) (NZ n0 f0 n2 f2 x4 n5 f5 n7 f7 n9 f9 n11 f11 n13 f13 n15 f15 n17 f17 n19 f19 x21 n22 f22 n24 f24 n26 f26 n28 f28 n30 f30 n32 f32) (yn n0 f0 n2 f2 x4 n5 f5 n7 f7 n9 f9 n11 f11 n13 f13 n15 f15 n17 f17 n19 f19 x21 n22 f22 n24 f24 n26 f26 n28 f28 n30 f30 n32 f32):=⟨⟨by kernel_rfl,by kernel_rfl⟩,fun s=>by cases s<;>exact⟨by kernel_rfl,by kernel_rfl⟩⟩
theorem ahP (h1:n13<=n11) (h2:n13<=n30) (h3:n13<=n32) (hz:yaa n17 (aa ak f17)/\yaa n19 (aa ah f19)) (hn:n13<=9223372036854775807) (l:Nat):∀ k,k<=n13->Ev (yn n0 f0 n2 f2 x4 n5 f5 n7 f7 n9 f9 n11 f11 n13 f13 n15 f15 n17 f17 n19 f19 x21 n22 f22 n24 f24 n26 f26 n28 f28 n30 f30 n32 f32) (.L0 (k:Int) l (vE (aa ae f13) n17 (aa ak f17) n19 (aa ah f19) (aa ae f30) (aa bQ f32) k) (vF (aa ae f13) n17 (aa ak f17) n19 (aa ah f19) (aa ae f30) (aa bQ f32) k)) (.agg [vi (vE (aa ae f13) n17 (aa ak f17) n19 (aa ah f19) (aa ae f30) (aa bQ f32) n13),vi (vF (aa ae f13) n17 (aa ak f17) n19 (aa ah f19) (aa ae f30) (aa bQ f32) n13)]):=by
 refine cO fun k hk ih=>Ev.of rfl ?_
 by_cases hlt:k<n13
 ·have hw:wI ((k:Int)+1)=((k+1:Nat):Int):=by rw[wrapI (by omega) (by omega)];omega
  have ih:=ih hlt
  rw [← hw]at ih
  refine eG (dqt (by omega)) (aE (dqt (by omega)) (evObi (evObi (evObi (evObi (evObj (fun _=>(dqt (by omega))) (evObi (evObi (evObi (evObi (evBr (fun h=>aE h (aE h (evObp ⟨by omega,by omega,hz⟩ (evObt (aK ?_))))) (fun h=>aK ?_))))))))))))
  ·have h:sN (aa ae f13) k=true:=h
   unfold vE vF at ih
   rw [mr h,mr h]at ih
   exact ih
  ·have h:sN (aa ae f13) k=false:=h
   unfold vE vF at ih
   rw [ly h,ly h]at ih
   exact ih
 ·have e:k=n13:=by omega
  refine ed (gx (by omega)) ?_
  rw [e]
  exact evRet rfl
theorem US (hp:(n13<=n11/\n13<=n30/\n13<=n32)/\(yaa n17 (aa ak f17)/\yaa n19 (aa ah f19))):aR (Ev (yn n0 f0 n2 f2 x4 n5 f5 n7 f7 n9 f9 n11 f11 n13 f13 n15 f15 n17 f17 n19 f19 x21 n22 f22 n24 f24 n26 f26 n28 f28 n30 f30 n32 f32)) (NZ n0 f0 n2 f2 x4 n5 f5 n7 f7 n9 f9 n11 f11 n13 f13 n15 f15 n17 f17 n19 f19 x21 n22 f22 n24 f24 n26 f26 n28 f28 n30 f30 n32 f32) (.agg [vi (vE (aa ae f13) n17 (aa ak f17) n19 (aa ah f19) (aa ae f30) (aa bQ f32) n13),vi (vF (aa ae f13) n17 (aa ak f17) n19 (aa ah f19) (aa ae f30) (aa bQ f32) n13)]):=by
 obtain ⟨⟨h1,h2,h3⟩,hz⟩:=hp
 exact ul fun l=>bg fun hn=>aF (ahP n0 f0 n2 f2 x4 n5 f5 n7 f7 n9 f9 n11 f11 n13 f13 n15 f15 n17 f17 n19 f19 x21 n22 f22 n24 f24 n26 f26 n28 f28 n30 f30 n32 f32 h1 h2 h3 hz hn l 0 (Nat.zero_le _))
def Nj:aB:=bF [.agg [.sl ak,.sl ah,tI,.sl aJ,.sl aU,.sl aV,.sl aH,.sl ae,.sl bQ],.fn 100 [] [.pd [.sl ak,.sl ah,tI,.sl aJ,.sl aU,.sl aV,.sl aH,.sl ae,.sl bQ]]] (fun
 |[.agg [.sl n0 f0,.sl n2 f2,.int _ x4,.sl n5 f5,.sl n7 f7,.sl n9 f9,.sl n11 f11,.sl n13 f13,.sl n15 f15],.fn _ [] [.pd [.sl n17 f17,.sl n19 f19,.int _ x21,.sl n22 f22,.sl n24 f24,.sl n26 f26,.sl n28 f28,.sl n30 f30,.sl n32 f32]]]=>(n13<=n11/\n13<=n30/\n13<=n32)/\(yaa n17 f17/\yaa n19 f19)
 |_=>False) fun
 |[.agg [.sl n0 f0,.sl n2 f2,.int _ x4,.sl n5 f5,.sl n7 f7,.sl n9 f9,.sl n11 f11,.sl n13 f13,.sl n15 f15],.fn _ [] [.pd [.sl n17 f17,.sl n19 f19,.int _ x21,.sl n22 f22,.sl n24 f24,.sl n26 f26,.sl n28 f28,.sl n30 f30,.sl n32 f32]]]=>.agg [vi (vE f13 n17 f17 n19 f19 f30 f32 n13),vi (vF f13 n17 f17 n19 f19 f30 f32 n13)]
 |_=>.any
theorem W9:(vP Nj).Ok Tryz.prog 48:=bV KO Tryz.func48 (by kernel_rfl) fun ds hp=>iS (MD ..) (US _ _ _ _ _ _ _ _ _ _ _ _ _ _ _ _ _ _ _ _ _ _ _ _ _ _ _ _ _ _ _ _ _ _ hp)
def MF:bj:=(48,.con Nj)::EO
theorem QF:aW Tryz.prog eqs its MF:=.con W9 (KO)
def YQ:RT Empty:=.obp (yaa n0 (aa ak f0)/\yaa n2 (aa ah f2)/\yaa n5 (aa aJ f5)/\yaa n11 (aa aH f11)) (.obt (.br (iD n0 (aa ak f0) n2 (aa ah f2) x4 n5 (aa aJ f5) n7 (aa aU f7) n9 (aa aV f9) n11 (aa aH f11) n13 (aa ae f13) n15 (aa bQ f15)!=0) (.ret (V.tup [V.agg [vi 0,vi 0],vi (iD n0 (aa ak f0) n2 (aa ah f2) x4 n5 (aa aJ f5) n7 (aa aU f7) n9 (aa aV f9) n11 (aa aH f11) n13 (aa ae f13) n15 (aa bQ f15))])) (.obp ((n13<=n11/\n13<=n13/\n13<=n15)/\yaa n0 (aa ak f0)/\yaa n2 (aa ah f2)) (.obt (.ret (V.tup [V.agg [vi (vE (aa ae f13) n0 (aa ak f0) n2 (aa ah f2) (aa ae f13) (aa bQ f15) n13),vi (vF (aa ae f13) n0 (aa ak f0) n2 (aa ah f2) (aa ae f13) (aa bQ f15) n13)],vi 0]))))))
theorem Vl:cJ cL (aP JJ MF u0 afd [V.agg [V.sl n0 (aa ak f0),V.sl n2 (aa ah f2),vi x4,V.sl n5 (aa aJ f5),V.sl n7 (aa aU f7),V.sl n9 (aa aV f9),V.sl n11 (aa aH f11),V.sl n13 (aa ae f13),V.sl n15 (aa bQ f15)]]) (YQ n0 f0 n2 f2 x4 n5 f5 n7 f7 n9 f9 n11 f11 n13 f13 n15 f15):=⟨by kernel_rfl,by kernel_rfl⟩
theorem aim (hp:yaa n0 (aa ak f0)/\yaa n2 (aa ah f2)/\yaa n5 (aa aJ f5)/\yaa n11 (aa aH f11)):aR cq (YQ n0 f0 n2 f2 x4 n5 f5 n7 f7 n9 f9 n11 f11 n13 f13 n15 f15) (.tup [.agg [vi (kU (iD n0 (aa ak f0) n2 (aa ah f2) x4 n5 (aa aJ f5) n7 (aa aU f7) n9 (aa aV f9) n11 (aa aH f11) n13 (aa ae f13) n15 (aa bQ f15)) (sI n0 (aa ak f0) n2 (aa ah f2) (aa ae f13) (aa bQ f15) n13)),vi (kU (iD n0 (aa ak f0) n2 (aa ah f2) x4 n5 (aa aJ f5) n7 (aa aU f7) n9 (aa aV f9) n11 (aa aH f11) n13 (aa ae f13) n15 (aa bQ f15)) (sG n0 (aa ak f0) n2 (aa ah f2) (aa ae f13) (aa bQ f15) n13))],vi (iD n0 (aa ak f0) n2 (aa ah f2) x4 n5 (aa aJ f5) n7 (aa aU f7) n9 (aa aV f9) n11 (aa aH f11) n13 (aa ae f13) n15 (aa bQ f15))]):=by
 refine evObp hp (evObt (evBr (fun h=>evRet (z8 (kZ h))) (fun h=>?_)))
 have h0:(iD n0 (aa ak f0) n2 (aa ah f2) x4 n5 (aa aJ f5) n7 (aa aU f7) n9 (aa aV f9) n11 (aa aH f11) n13 (aa ae f13) n15 (aa bQ f15))=0:=gE h
 have G:=rX h0
 have h1:=G.ll
 have h2:=G.lu
 refine evObp ⟨⟨by omega,by omega,by omega⟩,hp.1,hp.2.1⟩ (evObt (evRet ?_))
 rw [h0];rfl
def Zx:aB:=bF [.agg [.sl ak,.sl ah,tI,.sl aJ,.sl aU,.sl aV,.sl aH,.sl ae,.sl bQ]] (fun
 |[.agg [.sl n0 f0,.sl n2 f2,.int _ x4,.sl n5 f5,.sl n7 f7,.sl n9 f9,.sl n11 f11,.sl n13 f13,.sl n15 f15]]=>yaa n0 f0/\yaa n2 f2/\yaa n5 f5/\yaa n11 f11
 |_=>False) fun
 |[.agg [.sl n0 f0,.sl n2 f2,.int _ x4,.sl n5 f5,.sl n7 f7,.sl n9 f9,.sl n11 f11,.sl n13 f13,.sl n15 f15]]=>.tup [.agg [vi (kU (iD n0 f0 n2 f2 x4 n5 f5 n7 f7 n9 f9 n11 f11 n13 f13 n15 f15) (sI n0 f0 n2 f2 f13 f15 n13)),vi (kU (iD n0 f0 n2 f2 x4 n5 f5 n7 f7 n9 f9 n11 f11 n13 f13 n15 f15) (sG n0 f0 n2 f2 f13 f15 n13))],vi (iD n0 f0 n2 f2 x4 n5 f5 n7 f7 n9 f9 n11 f11 n13 f13 n15 f15)]
 |_=>.any
theorem abO:(vP Zx).Ok Tryz.prog 37:=bV QF Tryz.func37 (by kernel_rfl) fun ds hp=>cQ (Vl ..) (aim _ _ _ _ _ _ _ _ _ _ _ _ _ _ _ _ _ hp)
def ao5 (ts:List Ty) (raw:List V) (r:V):aB:=bF ts (fun ds=>ds=jC ts (al ts raw)) fun _=>r
theorem Xy {P:Program} {eqs:List TypeId} {its:List gk} {ct:bj} {f:FuncId} {fn:Func} {sf:aC} {un:kw} {ts:List Ty} {raw:List V} {r:V} (hT:aW P eqs its ct) (hE:∀ t∈eqs,cD P t) (hI:kh P eqs its) (hf:P.funcs[f]? = some fn)
 (hn : (fn.name == "runtime.NumGoroutine") = false) (hc : dT P eqs its fn = some sf) (hd : eX sf.ntmps sf.body = true) (ho : fq ts = true)
 (h:oU r (aP JJ ct un sf (jC ts (al ts raw)))=aP JJ ct un sf (jC ts (al ts raw))):(vP (fp [(al ts raw,r)])).Ok P f :=
 yz (C:=ao5 ts raw r) (Du (J:=JJ) (un:=un) hT hE hI hf hn hc hd ho fun w0 ds hp=>by rw[hp];exact B3 h) _ (TJ (at1 rfl rfl) S7)
theorem wM {ts:List Ty} {pre:List V->Prop} {preB:List V->Bool} {r:List V->V} (h:∀ ds,preB ds=true->pre ds) {ds:List V} {d p r'} (hc:qZ ts preB r ds=some (d,p,r')):∃ q,bF ts pre r ds=some (d,q,r')/\q:=by
 unfold qZ at hc
 cases hb:preB (jC ts ds) with
 |false=>rw[hb]at hc;cases hc
 | true =>
   rw [hb]at hc
   simp only [cond_true,Option.some.injEq,Prod.mk.injEq]at hc
   obtain ⟨rfl,rfl,rfl⟩:=hc
   exact ⟨_,rfl,h _ hb⟩
theorem P4 {P:Program} {f:FuncId} {ts:List Ty} {pre:List V->Prop} {preB:List V->Bool} {r:List V->V} (h:∀ ds,preB ds=true->pre ds) (hO:(vZ (bF ts pre r)).Ok P f):(vZ (qZ ts preB r)).Ok P f:=by
 refine ⟨fun B m lh w args vs K hrel hargs ⟨ds,d,p,r',X,h1,hX,h2,h3,h5,h6⟩=>?_,fun _ _ _ _ _ hk ⟨ds,d,p,r,X,h1,h2,h3,h4,h5,h6⟩=>⟨ds,d,p,r,X,h1,h2,h3,h4,h5,fun x new hx=>hk _ _ (h6 x new hx)⟩,fun _ _ _ _ ⟨_,_,_,_,_,_,_,_,_,⟨x,new,hx⟩,h6⟩=>h6 x new hx⟩
 obtain ⟨q,e,hq⟩:=wM h h2
 exact hO.sound B m lh w args vs K hrel hargs ⟨ds,d,q,r',X,h1,hX,e,⟨h3.1,hq⟩,h5,h6⟩
def D8:List V->Bool
 |[.agg [.str _,.sl n1 _,.sl n3 _,.sl _ _,.int _ _,.int _ _],.int _ _]=>Nat.ble n1 1000&&Nat.ble n3 1000
 |_=>false
theorem wE (ds:List V) (h:D8 ds=true):X7 ds:=by
 unfold D8 at h
 split at h
 ·simp only[Bool.and_eq_true]at h
  exact ⟨Nat.le_of_ble_eq_true h.1,Nat.le_of_ble_eq_true h.2⟩
 ·cases h
def DV:aB:=qZ yH D8 NJ
theorem TV:(vZ DV).Ok Tryz.prog 89:=P4 wE DT
theorem M9:∀ ds d p r,DV ds=some (d,p,r)->d.1=d.2->p->∀ w0 lh args,bl w0 lh Nu.nil ds args->∃ x new,vr w0 (lh++new) Nu.nil r x:=fun ds d p r h h1 _=>by
 obtain ⟨q,e,hq⟩:=wM wE h
 exact zC ds d q r e h1 hq
def dV (A B:aB):aB:=orC (fun ds=>(A ds).isSome) A B
theorem bm {P:Program} {f:FuncId} {A B:aB} (hA:(vP A).Ok P f) (hB:(vP B).Ok P f):(vP (dV A B)).Ok P f:=D7 _ _ _ hA hB
theorem cG {ct:bj} {f:FuncId} {fn:Func} {sf:aC} {ts:List Ty} {raw:List V} {r:V} (hT:aW Tryz.prog eqs its ct) (hf:Tryz.prog.funcs[f]? = some fn) (hk:fnQ fn sf ts=(false,some sf,true,true)) (h:oU r (aP JJ ct uB sf (jC ts (al ts raw)))=aP JJ ct uB sf (jC ts (al ts raw))):(vP (fp [(al ts raw,r)])).Ok Tryz.prog f:=Xy hT hE hI hf (d9 hk).1 (d9 hk).2.1 (d9 hk).2.2.1 (d9 hk).2.2.2 h
def ael:bj:=[]
theorem aoa:aW Tryz.prog eqs its ael:=.nil
def ai6:V:=.sl 2 fun|0=>[vi 0]|_=>[vi 100]
def akU:V:=.sl 2 fun|0=>[vi 100]|_=>[vi 300]
def ajH:V:=.sl 2 fun|0=>[vi 200]|_=>[vi 600]
def Za:V:=.sl 2 fun|0=>[vi 700]|_=>[vi 700]
def yaO:V:=.str ⟨#[97,115,112,104,97,108,116]⟩
def QS:V:=.sl 2 fun|0=>[vi (-1000)]|_=>[vi 1000]
def xk:V:=.sl 2 fun|0=>[vi (-5000)]|_=>[vi 5000]
def Gv:V:=.sl 2 fun|0=>[vi (-8000000)]|_=>[vi 8000000]
def anB:V:=.sl 1 fun _=>[vi 0,vi 0,vi 1000]
def Ad:V:=.sl 2 fun|0=>[vi (-40000000)]|_=>[vi 40000000]
def DO:V:=.sl 3 fun|0=>[vi (-1000)]|1=>[vi 0]|_=>[vi 2000]
def vH:V:=.sl 3 fun|0=>[vi (-8000000)]|1=>[vi 0]|_=>[vi 16000000]
def yh:V:=.agg [vi (-4000),vi (-4000),vi 0,vi 0]
def ya:V:=.agg [vi (-4000),vi 0,vi (-4000),vi 0]
def xM:V:=.agg [vi (-4000),vi 4000,vi 0,vi 8000]
def zT:V:=.agg [vi (-4000),vi 0,vi 4000,vi 8000]
def De:V:=.agg [.str ⟨#[99]⟩,vi 0,vi 0,vi 80,vi 0,vi 1]
def QO:V:=.sl 1 fun _=>[.str ⟨#[99]⟩,vi 0,vi 0,vi 80,vi 0,vi 1]
def yat:V:=.sl 2 fun|0=>[Za]|_=>[Za]
def afy:V:=.sl 3 fun|0=>[vi 0,vi 0]|1=>[vi 10000,vi 0]|_=>[vi 10000,vi 10000]
def DK:V:=.sl 3 fun|0=>[akU]|1=>[ajH]|_=>[ai6]
def PG:V:=.sl 1 fun _=>[.str ⟨#[104,105,103,104]⟩,vi 0,afy,vi 4000]
def tB:V:=.sl 1 fun _=>[.str ⟨#[104,101,97,100]⟩,vi 0,vi 1,vi 8000,vi 60000,vi 500,vi 50,vi 2,vi 4,vi 3,vi 5,vi 100000,vi 200,vi 0]
def yax:V:=.agg [PG,.sl 0 fun _=>[],.sl 0 fun _=>[],QO]
def K1:V:=.pd [yaO,xk,xk,yat,vi 0,vi 0,Ad,Ad,vi 8000]
def Qz:V:=.agg [yaO,xk,xk,yat,vi 0,vi 0,Ad,Ad,vi 8000]
def ri:V:=.pd [.str ⟨#[119,105,100,101]⟩,DO,QS,DK,vi 50,vi 5,vH,Gv,vi 8000]
def lP:V:=.agg [.str ⟨#[119,105,100,101]⟩,DO,QS,DK,vi 50,vi 5,vH,Gv,vi 8000]
def uo:V:=.sl 2 fun|0=>[.str ⟨#[119,105,100,101]⟩,DO,QS,DK,vi 50,vi 5]|_=>[yaO,xk,xk,yat,vi 0,vi 0]
def o3:V:=.agg [uo,tB,vi 1,PG,.sl 0 fun _=>[],.sl 0 fun _=>[],QO,.sl 1 fun _=>[vi 0],anB,vi 0,.str ⟨#[99]⟩,vi 0,vi 0,vi 80,vi 0,vi 1]
def ai3:List Ty:=[.agg ah,.agg bQ]
def akk:List Ty:=[.agg [.sl ak,.sl ah,tI,.sl aJ,.sl ae,.sl ae,.sl aH,.sl ae,.sl bQ,tI,.str,tI,tI,tI,tI,tI]]
def QH:List Ty:=[.agg bZ,tI,tI,tI,tI]
def kF:List Ty:=[.agg bZ,.sl bZ]
def wU:List Ty:=[.sl ae,tI]
def r7:List Ty:=[tI,.pd [.str,.sl ae,.sl ae,.sl [.sl ae],tI,tI,.sl ae,.sl ae,tI],.pd ae,.pd ae]
def Nf:List Ty:=[.agg [.sl aJ,.sl ae,.sl ae,.sl aH],tI,.agg je]
def J0:List Ty:=[.agg aH,.agg je]
def QZ:List Ty:=[.agg [.sl ak,.sl ah,tI,.sl aJ,.sl ae,.sl ae,.sl aH,.sl ae,.sl bQ,tI,.str,tI,tI,tI,tI,tI],.agg je,tI,tI]
def vd:List Ty:=[.agg [.str,.sl ae,.sl ae,.sl [.sl ae],tI,tI,.sl ae,.sl ae,tI],tI,tI]
def ze:List Ty:=[.agg [.str,.sl ae,.sl ae,.sl [.sl ae],tI,tI,.sl ae,.sl ae,tI],.agg je]
def afh:List Ty:=[.agg [.sl ak,.sl ah],tI,.agg je,tI]
def DY:List Ty:=[.agg [.sl ak,.sl ah],tI,.agg bQ,.agg je,tI]
def Cd:List Ty:=[.agg [.sl ak,.sl ah,tI,.sl aJ,.sl ae,.sl ae,.sl aH,.sl ae,.sl bQ,tI,.str,tI,tI,tI,tI,tI],.agg je,tI]
def ctK:bj:=[(22,.con Kl),(59,.con Ov),(60,.con ybn),(161,.con C86),(133,.con E9),(226,.con El),(165,.con G1),(91,.con LM),(92,.con Rx),(106,.con Oa),(108,.con KR),(143,.con NS),(192,.con NR),(225,.con Lj),(89,.conZ DV M9),(81,.inl alO uB),(206,.inl amg uB),(235,.inl aqH uB),(152,.inl aii uB),(250,.inl ZV uB),(309,.inl PZ uB),(221,.inl Mm uB),(15,.inl aiq uB),(18,.inl ag5 uB),(46,.inl RL uB),(47,.inl aeD uB),(48,.inl KJ uB),(49,.inl acy uB),(50,.inl aio uB),(53,.inl ae9 uB),(54,.inl af7 uB),(55,.inl adb uB),(56,.inl ae4 uB),(61,.inl Mn uB),(71,.inl abm uB),(79,.inl Ea uB),(85,.inl Pl uB),(86,.inl NW uB),(87,.inl JI uB),(113,.inl Mk uB),(114,.inl M5 uB),(115,.inl Jo uB),(123,.inl ahf uB),(153,.inl aeJ uB),(154,.inl Ot uB),(155,.inl Jv uB),(156,.inl PU uB),(159,.inl PH uB),(164,.inl Pp uB),(169,.inl MJ uB),(170,.inl Ky uB),(190,.inl ahl uB),(191,.inl Dm uB),(193,.inl JB uB),(222,.inl Ju uB),(257,.inl M1 uB),(283,.inl LL uB),(284,.inl MM uB)]
theorem alS:aW Tryz.prog eqs its ctK:=.con SD (.con XC (.con am0 (.con PV (.con Ed (.con C8 (.con DJ (.con XG (.con Tp (.con Vi (.con UI (.con Uq (.con VS (.con TL (.conZ TV (fZ Tryz.func81 (by kernel_rfl) (fZ Tryz.func206 (by kernel_rfl) (fZ Tryz.func235 (by kernel_rfl) (fZ Tryz.func152 (by kernel_rfl) (fZ Tryz.func250 (by kernel_rfl) (fZ Tryz.func309 (by kernel_rfl) (fZ Tryz.func221 (by kernel_rfl) (fZ Tryz.func15 (by kernel_rfl) (fZ Tryz.func18 (by kernel_rfl) (fZ Tryz.func46 (by kernel_rfl) (fZ Tryz.func47 (by kernel_rfl) (fZ Tryz.func48 (by kernel_rfl) (fZ Tryz.func49 (by kernel_rfl) (fZ Tryz.func50 (by kernel_rfl) (fZ Tryz.func53 (by kernel_rfl) (fZ Tryz.func54 (by kernel_rfl) (fZ Tryz.func55 (by kernel_rfl) (fZ Tryz.func56 (by kernel_rfl) (fZ Tryz.func61 (by kernel_rfl) (fZ Tryz.func71 (by kernel_rfl) (fZ Tryz.func79 (by kernel_rfl) (fZ Tryz.func85 (by kernel_rfl) (fZ Tryz.func86 (by kernel_rfl) (fZ Tryz.func87 (by kernel_rfl) (fZ Tryz.func113 (by kernel_rfl) (fZ Tryz.func114 (by kernel_rfl) (fZ Tryz.func115 (by kernel_rfl) (fZ Tryz.func123 (by kernel_rfl) (fZ Tryz.func153 (by kernel_rfl) (fZ Tryz.func154 (by kernel_rfl) (fZ Tryz.func155 (by kernel_rfl) (fZ Tryz.func156 (by kernel_rfl) (fZ Tryz.func159 (by kernel_rfl) (fZ Tryz.func164 (by kernel_rfl) (fZ Tryz.func169 (by kernel_rfl) (fZ Tryz.func170 (by kernel_rfl) (fZ Tryz.func190 (by kernel_rfl) (fZ Tryz.func191 (by kernel_rfl) (fZ Tryz.func193 (by kernel_rfl) (fZ Tryz.func222 (by kernel_rfl) (fZ Tryz.func257 (by kernel_rfl) (fZ Tryz.func283 (by kernel_rfl) (fZ Tryz.func284 (by kernel_rfl) (.nil))))))))))))))))))))))))))))))))))))))))))))))))))))))))))
def YO:aB:=fp [(al ai3 [.agg [.str ⟨#[104,101,97,100]⟩,vi 0,vi 1,vi 8000,vi 60000,vi 500,vi 50,vi 2,vi 4,vi 3,vi 5,vi 100000,vi 200,vi 0],.agg [vi 0,vi 0,vi 1000]],.agg [vi 8000,vi 8000])]
theorem akg:(vP YO).Ok Tryz.prog 88:=cG (sf:=QU) alS Tryz.func88 (by kernel_rfl) (by kernel_rfl)
def HQ:bj:=(88,.con YO)::ctK
theorem yar:aW Tryz.prog eqs its HQ:=.con akg alS
def aah:aB:=fp [(al akk [o3],vi 8000)]
theorem akj:(vP aah).Ok Tryz.prog 111:=cG (sf:=N2) yar Tryz.func111 (by kernel_rfl) (by kernel_rfl)
def GL:bj:=(111,.con aah)::HQ
theorem pV:aW Tryz.prog eqs its GL:=.con akj yar
def EJ:aB:=fp [(al QH [.agg [vi 0,vi 1],vi (-4000),vi 4000,vi 0,vi 8000],xM)]
theorem Vu:(vP EJ).Ok Tryz.prog 125:=cG (sf:=zK) pV Tryz.func125 (by kernel_rfl) (by kernel_rfl)
def Hk:aB:=fp [(al QH [.agg [vi 0,vi 1],vi 0,vi 0,vi 0,vi 0],.agg [vi 0,vi 0,vi 0,vi 0])]
theorem Xm:(vP Hk).Ok Tryz.prog 125:=cG (sf:=zK) pV Tryz.func125 (by kernel_rfl) (by kernel_rfl)
def GI:aB:=fp [(al QH [.agg [vi 0,vi 1],vi (-4000),vi (-4000),vi 0,vi 0],yh)]
theorem Wk:(vP GI).Ok Tryz.prog 125:=cG (sf:=zK) pV Tryz.func125 (by kernel_rfl) (by kernel_rfl)
def aa1:aB:=dV EJ (dV Hk (GI))
theorem am8:(vP aa1).Ok Tryz.prog 125:=bm Vu (bm Xm (Wk))
def GR:bj:=(125,.con aa1)::GL
theorem dZ:aW Tryz.prog eqs its GR:=.con am8 pV
def FX:aB:=fp [(al kF [.agg [vi 300,vi 300],.sl 3 fun|0=>[vi 450,vi 450]|1=>[vi 312,vi 313]|_=>[vi 475,vi 475]],.agg [vi 300,vi 475])]
theorem TQ:(vP FX).Ok Tryz.prog 167:=cG (sf:=gj) dZ Tryz.func167 (by kernel_rfl) (by kernel_rfl)
def G4:aB:=fp [(al kF [.agg [vi 300,vi 475],.sl 1 fun _=>[vi 300,vi 300]],.agg [vi 300,vi 475])]
theorem TF:(vP G4).Ok Tryz.prog 167:=cG (sf:=gj) dZ Tryz.func167 (by kernel_rfl) (by kernel_rfl)
def FK:aB:=fp [(al kF [.agg [vi 300,vi 475],.sl 1 fun _=>[vi 450,vi 450]],.agg [vi 300,vi 475])]
theorem TH:(vP FK).Ok Tryz.prog 167:=cG (sf:=gj) dZ Tryz.func167 (by kernel_rfl) (by kernel_rfl)
def yaG:aB:=fp [(al kF [.agg [vi 300,vi 475],.sl 1 fun _=>[vi 312,vi 313]],.agg [vi 300,vi 475])]
theorem SE:(vP yaG).Ok Tryz.prog 167:=cG (sf:=gj) dZ Tryz.func167 (by kernel_rfl) (by kernel_rfl)
def FZ:aB:=fp [(al kF [.agg [vi 300,vi 475],.sl 1 fun _=>[vi 475,vi 475]],.agg [vi 300,vi 475])]
theorem Vw:(vP FZ).Ok Tryz.prog 167:=cG (sf:=gj) dZ Tryz.func167 (by kernel_rfl) (by kernel_rfl)
def Gg:aB:=fp [(al kF [.agg [vi 300,vi 475],.sl 1 fun _=>[vi 400,vi 400]],.agg [vi 300,vi 475])]
theorem VP:(vP Gg).Ok Tryz.prog 167:=cG (sf:=gj) dZ Tryz.func167 (by kernel_rfl) (by kernel_rfl)
def HP:aB:=fp [(al kF [.agg [vi 300,vi 475],.sl 1 fun _=>[vi 600,vi 600]],.agg [vi 300,vi 600])]
theorem Xh:(vP HP).Ok Tryz.prog 167:=cG (sf:=gj) dZ Tryz.func167 (by kernel_rfl) (by kernel_rfl)
def GX:aB:=fp [(al kF [.agg [vi 400,vi 400],.sl 3 fun|0=>[vi 400,vi 400]|1=>[vi 400,vi 400]|_=>[vi 400,vi 400]],.agg [vi 400,vi 400])]
theorem TU:(vP GX).Ok Tryz.prog 167:=cG (sf:=gj) dZ Tryz.func167 (by kernel_rfl) (by kernel_rfl)
def FC:aB:=fp [(al kF [.agg [vi 400,vi 400],.sl 1 fun _=>[vi 400,vi 400]],.agg [vi 400,vi 400])]
theorem Wj:(vP FC).Ok Tryz.prog 167:=cG (sf:=gj) dZ Tryz.func167 (by kernel_rfl) (by kernel_rfl)
def EG:aB:=fp [(al kF [.agg [vi 700,vi 700],.sl 3 fun|0=>[vi 700,vi 700]|1=>[vi 700,vi 700]|_=>[vi 700,vi 700]],.agg [vi 700,vi 700])]
theorem T0:(vP EG).Ok Tryz.prog 167:=cG (sf:=gj) dZ Tryz.func167 (by kernel_rfl) (by kernel_rfl)
def BE:aB:=fp [(al kF [.agg [vi 700,vi 700],.sl 1 fun _=>[vi 700,vi 700]],.agg [vi 700,vi 700])]
theorem P5:(vP BE).Ok Tryz.prog 167:=cG (sf:=gj) dZ Tryz.func167 (by kernel_rfl) (by kernel_rfl)
def AZ:aB:=fp [(al kF [.agg [vi 300,vi 300],.sl 3 fun|0=>[vi 300,vi 300]|1=>[vi 300,vi 300]|_=>[vi 300,vi 300]],.agg [vi 300,vi 300])]
theorem N7:(vP AZ).Ok Tryz.prog 167:=cG (sf:=gj) dZ Tryz.func167 (by kernel_rfl) (by kernel_rfl)
def AT:aB:=fp [(al kF [.agg [vi 300,vi 300],.sl 1 fun _=>[vi 300,vi 300]],.agg [vi 300,vi 300])]
theorem KF:(vP AT).Ok Tryz.prog 167:=cG (sf:=gj) dZ Tryz.func167 (by kernel_rfl) (by kernel_rfl)
def Yk:aB:=dV FX (dV G4 (dV FK (dV yaG (dV FZ (dV Gg (dV HP (dV GX (dV FC (dV EG (dV BE (dV AZ (AT))))))))))))
theorem alb:(vP Yk).Ok Tryz.prog 167:=bm TQ (bm TF (bm TH (bm SE (bm Vw (bm VP (bm Xh (bm TU (bm Wj (bm T0 (bm P5 (bm N7 (KF))))))))))))
def E3:bj:=(167,.con Yk)::GR
theorem ju:aW Tryz.prog eqs its E3:=.con alb dZ
def G7:aB:=fp [(al wU [vH,vi (-4000000)],vi 0)]
theorem VO:(vP G7).Ok Tryz.prog 223:=cG (sf:=o7) ju Tryz.func223 (by kernel_rfl) (by kernel_rfl)
def E6:aB:=fp [(al wU [Gv,vi 0],vi 0)]
theorem TY:(vP E6).Ok Tryz.prog 223:=cG (sf:=o7) ju Tryz.func223 (by kernel_rfl) (by kernel_rfl)
def GT:aB:=fp [(al wU [Gv,vi 8000000],vi 0)]
theorem WQ:(vP GT).Ok Tryz.prog 223:=cG (sf:=o7) ju Tryz.func223 (by kernel_rfl) (by kernel_rfl)
def EI:aB:=fp [(al wU [vH,vi 4000000],vi 1)]
theorem SK:(vP EI).Ok Tryz.prog 223:=cG (sf:=o7) ju Tryz.func223 (by kernel_rfl) (by kernel_rfl)
def EQ:aB:=fp [(al wU [vH,vi 0],vi 1)]
theorem Uo:(vP EQ).Ok Tryz.prog 223:=cG (sf:=o7) ju Tryz.func223 (by kernel_rfl) (by kernel_rfl)
def Gf:aB:=fp [(al wU [Ad,vi 0],vi 0)]
theorem Si:(vP Gf).Ok Tryz.prog 223:=cG (sf:=o7) ju Tryz.func223 (by kernel_rfl) (by kernel_rfl)
def ZA:aB:=dV G7 (dV E6 (dV GT (dV EI (dV EQ (Gf)))))
theorem alG:(vP ZA).Ok Tryz.prog 223:=bm VO (bm TY (bm WQ (bm SK (bm Uo (Si)))))
def GE:bj:=(223,.con ZA)::E3
theorem gi:aW Tryz.prog eqs its GE:=.con alG ju
def FI:aB:=fp [(al r7 [vi 0,ri,.pd [vi 0],.pd [vi 0]],.agg [vi 200,vi 200])]
theorem W7:(vP FI).Ok Tryz.prog 224:=cG (sf:=lr) gi Tryz.func224 (by kernel_rfl) (by kernel_rfl)
def HE:aB:=fp [(al r7 [vi 1,ri,.pd [vi 0],.pd [vi 0]],.agg [vi 400,vi 400])]
theorem UC:(vP HE).Ok Tryz.prog 224:=cG (sf:=lr) gi Tryz.func224 (by kernel_rfl) (by kernel_rfl)
def EM:aB:=fp [(al r7 [vi 0,ri,.pd [vi 0],.pd [vi 8000000]],.agg [vi 300,vi 300])]
theorem UH:(vP EM).Ok Tryz.prog 224:=cG (sf:=lr) gi Tryz.func224 (by kernel_rfl) (by kernel_rfl)
def Er:aB:=fp [(al r7 [vi 1,ri,.pd [vi 0],.pd [vi 8000000]],.agg [vi 600,vi 600])]
theorem Wp:(vP Er).Ok Tryz.prog 224:=cG (sf:=lr) gi Tryz.func224 (by kernel_rfl) (by kernel_rfl)
def Hi:aB:=fp [(al r7 [vi 2,ri,.pd [vi 0],.pd [vi 0]],.agg [vi 50,vi 50])]
theorem Vg:(vP Hi).Ok Tryz.prog 224:=cG (sf:=lr) gi Tryz.func224 (by kernel_rfl) (by kernel_rfl)
def Fl:aB:=fp [(al r7 [vi 2,ri,.pd [vi 0],.pd [vi 8000000]],.agg [vi 100,vi 100])]
theorem Wh:(vP Fl).Ok Tryz.prog 224:=cG (sf:=lr) gi Tryz.func224 (by kernel_rfl) (by kernel_rfl)
def H3:aB:=fp [(al r7 [vi 0,K1,.pd [vi 0],.pd [vi 0]],.agg [vi 700,vi 700])]
theorem Ve:(vP H3).Ok Tryz.prog 224:=cG (sf:=lr) gi Tryz.func224 (by kernel_rfl) (by kernel_rfl)
def Ep:aB:=fp [(al r7 [vi 1,K1,.pd [vi 0],.pd [vi 0]],.agg [vi 700,vi 700])]
theorem To:(vP Ep).Ok Tryz.prog 224:=cG (sf:=lr) gi Tryz.func224 (by kernel_rfl) (by kernel_rfl)
def Zf:aB:=dV FI (dV HE (dV EM (dV Er (dV Hi (dV Fl (dV H3 (Ep)))))))
theorem alA:(vP Zf).Ok Tryz.prog 224:=bm W7 (bm UC (bm UH (bm Wp (bm Vg (bm Wh (bm Ve (To)))))))
def Ek:bj:=(224,.con Zf)::GE
theorem qa:aW Tryz.prog eqs its Ek:=.con alA gi
def Zn:aB:=fp [(al Nf [yax,vi 0,zT],.tup [vi 0,vi 0])]
theorem akl:(vP Zn).Ok Tryz.prog 188:=cG (sf:=abf) qa Tryz.func188 (by kernel_rfl) (by kernel_rfl)
def YR:aB:=fp [(al Nf [yax,vi 0,.agg [vi 0,vi 0,vi 0,vi 0]],.tup [vi 0,vi 0])]
theorem alw:(vP YR).Ok Tryz.prog 188:=cG (sf:=abf) qa Tryz.func188 (by kernel_rfl) (by kernel_rfl)
def aaI:aB:=fp [(al Nf [yax,vi 0,ya],.tup [vi 0,vi 0])]
theorem al8:(vP aaI).Ok Tryz.prog 188:=cG (sf:=abf) qa Tryz.func188 (by kernel_rfl) (by kernel_rfl)
def K17:aB:=dV Zn (dV YR (aaI))
theorem k17:(vP K17).Ok Tryz.prog 188:=bm akl (bm alw (al8))
def Ze:bj:=(188,.con K17)::Ek
theorem xY:aW Tryz.prog eqs its Ze:=.con k17 qa
def Gm:aB:=fp [(al J0 [De,zT],xM)]
theorem UD:(vP Gm).Ok Tryz.prog 68:=cG (sf:=zM) xY Tryz.func68 (by kernel_rfl) (by kernel_rfl)
def G2:aB:=fp [(al J0 [De,.agg [vi 0,vi 0,vi 0,vi 0]],.agg [vi 0,vi 0,vi 0,vi 0])]
theorem SU:(vP G2).Ok Tryz.prog 68:=cG (sf:=zM) xY Tryz.func68 (by kernel_rfl) (by kernel_rfl)
def FG:aB:=fp [(al J0 [De,ya],yh)]
theorem Te:(vP FG).Ok Tryz.prog 68:=cG (sf:=zM) xY Tryz.func68 (by kernel_rfl) (by kernel_rfl)
def aaK:aB:=dV Gm (dV G2 (FG))
theorem ai8:(vP aaK).Ok Tryz.prog 68:=bm UD (bm SU (Te))
def FD:bj:=(68,.con aaK)::Ze
theorem pU:aW Tryz.prog eqs its FD:=.con ai8 xY
def E2:aB:=fp [(al QZ [o3,zT,vi 11,vi 75],.agg [vi 11,vi 75])]
theorem T6:(vP E2).Ok Tryz.prog 116:=cG (sf:=CN) pU Tryz.func116 (by kernel_rfl) (by kernel_rfl)
def Em:aB:=fp [(al QZ [o3,.agg [vi 0,vi 0,vi 0,vi 0],vi 3500,vi 3500],.agg [vi 3500,vi 3500])]
theorem Ug:(vP Em).Ok Tryz.prog 116:=cG (sf:=CN) pU Tryz.func116 (by kernel_rfl) (by kernel_rfl)
def Hf:aB:=fp [(al QZ [o3,ya,vi 26,vi 27],.agg [vi 26,vi 27])]
theorem SC:(vP Hf).Ok Tryz.prog 116:=cG (sf:=CN) pU Tryz.func116 (by kernel_rfl) (by kernel_rfl)
def Y9:aB:=dV E2 (dV Em (Hf))
theorem ajg:(vP Y9).Ok Tryz.prog 116:=bm T6 (bm Ug (SC))
def H8:bj:=(116,.con Y9)::FD
theorem hZ:aW Tryz.prog eqs its H8:=.con ajg pU
def Gl:aB:=fp [(al vd [lP,vi (-4000000),vi 0],.agg [vi 300,vi 300])]
theorem Sl:(vP Gl).Ok Tryz.prog 168:=cG (sf:=m4) hZ Tryz.func168 (by kernel_rfl) (by kernel_rfl)
def H5:aB:=fp [(al vd [lP,vi (-4000000),vi 8000000],.agg [vi 450,vi 450])]
theorem Ss:(vP H5).Ok Tryz.prog 168:=cG (sf:=m4) hZ Tryz.func168 (by kernel_rfl) (by kernel_rfl)
def HO:aB:=fp [(al vd [lP,vi 4000000,vi 0],.agg [vi 312,vi 313])]
theorem Uu:(vP HO).Ok Tryz.prog 168:=cG (sf:=m4) hZ Tryz.func168 (by kernel_rfl) (by kernel_rfl)
def F9:aB:=fp [(al vd [lP,vi 4000000,vi 8000000],.agg [vi 475,vi 475])]
theorem WM:(vP F9).Ok Tryz.prog 168:=cG (sf:=m4) hZ Tryz.func168 (by kernel_rfl) (by kernel_rfl)
def yaF:aB:=fp [(al vd [lP,vi 0,vi 0],.agg [vi 400,vi 400])]
theorem S3:(vP yaF).Ok Tryz.prog 168:=cG (sf:=m4) hZ Tryz.func168 (by kernel_rfl) (by kernel_rfl)
def Ey:aB:=fp [(al vd [lP,vi 0,vi 8000000],.agg [vi 600,vi 600])]
theorem Vt:(vP Ey).Ok Tryz.prog 168:=cG (sf:=m4) hZ Tryz.func168 (by kernel_rfl) (by kernel_rfl)
def Fv:aB:=fp [(al vd [Qz,vi 0,vi 0],.agg [vi 700,vi 700])]
theorem Wa:(vP Fv).Ok Tryz.prog 168:=cG (sf:=m4) hZ Tryz.func168 (by kernel_rfl) (by kernel_rfl)
def aaX:aB:=dV Gl (dV H5 (dV HO (dV F9 (dV yaF (dV Ey (Fv))))))
theorem ajD:(vP aaX).Ok Tryz.prog 168:=bm Sl (bm Ss (bm Uu (bm WM (bm S3 (bm Vt (Wa))))))
def FP:bj:=(168,.con aaX)::H8
theorem mu:aW Tryz.prog eqs its FP:=.con ajD hZ
def Gb:aB:=fp [(al ze [lP,xM],.agg [vi 300,vi 600])]
theorem U2:(vP Gb).Ok Tryz.prog 90:=cG (sf:=uh) mu Tryz.func90 (by kernel_rfl) (by kernel_rfl)
def HT:aB:=fp [(al ze [lP,.agg [vi 0,vi 0,vi 0,vi 0]],.agg [vi 400,vi 400])]
theorem Xt:(vP HT).Ok Tryz.prog 90:=cG (sf:=uh) mu Tryz.func90 (by kernel_rfl) (by kernel_rfl)
def ER:aB:=fp [(al ze [Qz,.agg [vi 0,vi 0,vi 0,vi 0]],.agg [vi 700,vi 700])]
theorem V6:(vP ER).Ok Tryz.prog 90:=cG (sf:=uh) mu Tryz.func90 (by kernel_rfl) (by kernel_rfl)
def EC:aB:=fp [(al ze [lP,yh],.agg [vi 300,vi 300])]
theorem ybf:(vP EC).Ok Tryz.prog 90:=cG (sf:=uh) mu Tryz.func90 (by kernel_rfl) (by kernel_rfl)
def aaC:aB:=dV Gb (dV HT (dV ER (EC)))
theorem ak9:(vP aaC).Ok Tryz.prog 90:=bm U2 (bm Xt (bm V6 (ybf)))
def EF:bj:=(90,.con aaC)::FP
theorem AW:aW Tryz.prog eqs its EF:=.con ak9 mu
def YD:aB:=fp [(al afh [.agg [uo,tB],vi 1,.agg [vi 0,vi 0,vi 0,vi 0],vi 8000],.tup [.agg [vi 700,vi 700],vi 0])]
theorem ant:(vP YD).Ok Tryz.prog 124:=cG (sf:=agc) AW Tryz.func124 (by kernel_rfl) (by kernel_rfl)
def EY:bj:=(124,.con YD)::EF
theorem qn:aW Tryz.prog eqs its EY:=.con ant AW
def FF:aB:=fp [(al DY [.agg [uo,tB],vi 0,.agg [vi 0,vi 0,vi 1000],xM,vi 8000],.tup [.agg [vi 2400,vi 4800],vi 0])]
theorem W0:(vP FF).Ok Tryz.prog 33:=cG (sf:=yG) qn Tryz.func33 (by kernel_rfl) (by kernel_rfl)
def E5:aB:=fp [(al DY [.agg [uo,tB],vi 0,.agg [vi 0,vi 0,vi 1000],.agg [vi 0,vi 0,vi 0,vi 0],vi 8000],.tup [.agg [vi 3200,vi 3200],vi 0])]
theorem SP:(vP E5).Ok Tryz.prog 33:=cG (sf:=yG) qn Tryz.func33 (by kernel_rfl) (by kernel_rfl)
def E0:aB:=fp [(al DY [.agg [uo,tB],vi 0,.agg [vi 0,vi 0,vi 1000],yh,vi 8000],.tup [.agg [vi 2400,vi 2400],vi 0])]
theorem Va:(vP E0).Ok Tryz.prog 33:=cG (sf:=yG) qn Tryz.func33 (by kernel_rfl) (by kernel_rfl)
def aaz:aB:=dV FF (dV E5 (E0))
theorem akX:(vP aaz).Ok Tryz.prog 33:=bm W0 (bm SP (Va))
def GP:bj:=(33,.con aaz)::EY
theorem qI:aW Tryz.prog eqs its GP:=.con akX qn
def EU:aB:=fp [(al Cd [o3,zT,vi 8000],.agg [vi 2400,vi 4800])]
theorem TO:(vP EU).Ok Tryz.prog 112:=cG (sf:=Ca) qI Tryz.func112 (by kernel_rfl) (by kernel_rfl)
def FL:aB:=fp [(al Cd [o3,.agg [vi 0,vi 0,vi 0,vi 0],vi 8000],.agg [vi 3200,vi 3200])]
theorem Sb:(vP FL).Ok Tryz.prog 112:=cG (sf:=Ca) qI Tryz.func112 (by kernel_rfl) (by kernel_rfl)
def Hc:aB:=fp [(al Cd [o3,ya,vi 8000],.agg [vi 2400,vi 2400])]
theorem ybe:(vP Hc).Ok Tryz.prog 112:=cG (sf:=Ca) qI Tryz.func112 (by kernel_rfl) (by kernel_rfl)
def aaf:aB:=dV EU (dV FL (Hc))
theorem alk:(vP aaf).Ok Tryz.prog 112:=bm TO (bm Sb (ybe))
def S2:bj:=(112,.con aaf)::GP
theorem MB:aW Tryz.prog eqs its S2:=.con alk qI
def aaL:aB:=bF [] (fun _=>True) fun _=>.bool true
theorem adl:(vP aaL).Ok Tryz.prog 17:=Du (J:=JJ) (un:=uB) (sf:=afS) MB hE hI Tryz.func17 (by kernel_rfl) (by kernel_rfl) (by kernel_rfl) rfl (fun w0 ds hp=>B3 (by kernel_rfl))
def aaY:bj:=(17,.con aaL)::(37,.con Zx)::MF
theorem afc:aW Tryz.prog eqs its aaY:=.con adl (.con abO (QF))
def Q2:RT Empty:=.obp (yaa n0 (aa ak f0)/\yaa n2 (aa ah f2)/\yaa n5 (aa aJ f5)/\yaa n11 (aa aH f11)) (.obt (.obp (yaa n0 (aa ak f0)/\yaa n2 (aa ah f2)/\yaa n5 (aa aJ f5)/\yaa n11 (aa aH f11)) (.obt (.ii (.obi (.br (bif kU (v7 (kx n0 f0 n2 f2 x4 n5 f5 n7 f7 n9 f9 n11 f11 n13 f13 n15 f15) n5 (aa aJ f5) n7 (aa aU f7) n9 (aa aV f9) n11 (aa aH f11) x17 x18) (Ii n0 f0 n2 f2 f13 f15 n5 f5 n7 f7 n9 f9 n11 f11 x17 x18 n13)!=kU (v7 (kx n0 f0 n2 f2 x4 n5 f5 n7 f7 n9 f9 n11 f11 n13 f13 n15 f15) n5 (aa aJ f5) n7 (aa aU f7) n9 (aa aV f9) n11 (aa aH f11) x17 x18) (Ii n0 f0 n2 f2 f13 f15 n5 f5 n7 f7 n9 f9 n11 f11 x17 x18 n13) then true else v7 (kx n0 f0 n2 f2 x4 n5 f5 n7 f7 n9 f9 n11 f11 n13 f13 n15 f15) n5 (aa aJ f5) n7 (aa aU f7) n9 (aa aV f9) n11 (aa aH f11) x17 x18 != v7 (kx n0 f0 n2 f2 x4 n5 f5 n7 f7 n9 f9 n11 f11 n13 f13 n15 f15) n5 (aa aJ f5) n7 (aa aU f7) n9 (aa aV f9) n11 (aa aH f11) x17 x18) (.ret (V.kb false)) (.obp (yaa n0 (aa ak f0)/\yaa n2 (aa ah f2)/\yaa n5 (aa aJ f5)/\yaa n11 (aa aH f11)) (.obt (.obp (yaa n0 (aa ak f0)/\yaa n2 (aa ah f2)/\yaa n5 (aa aJ f5)/\yaa n11 (aa aH f11)) (.obt (.ii (.obi (.br (bif kU (kx n0 f0 n2 f2 x4 n5 f5 n7 f7 n9 f9 n11 f11 n13 f13 n15 f15) (I9 n0 f0 n2 f2 f13 f15 n13)!=kU (kx n0 f0 n2 f2 x4 n5 f5 n7 f7 n9 f9 n11 f11 n13 f13 n15 f15) (I9 n0 f0 n2 f2 f13 f15 n13) then true else kx n0 f0 n2 f2 x4 n5 f5 n7 f7 n9 f9 n11 f11 n13 f13 n15 f15 != kx n0 f0 n2 f2 x4 n5 f5 n7 f7 n9 f9 n11 f11 n13 f13 n15 f15) (.ret (V.kb false)) (.obp (yaa n0 (aa ak f0)/\yaa n2 (aa ah f2)/\yaa n5 (aa aJ f5)/\yaa n11 (aa aH f11)) (.obt (.obp (yaa n0 (aa ak f0)/\yaa n2 (aa ah f2)/\yaa n5 (aa aJ f5)/\yaa n11 (aa aH f11)) (.obt (.ii (.obi (.br (bif kU (kx n0 f0 n2 f2 x4 n5 f5 n7 f7 n9 f9 n11 f11 n13 f13 n15 f15) (pN n0 f0 n2 f2 f13 f15 n13)==kU (kx n0 f0 n2 f2 x4 n5 f5 n7 f7 n9 f9 n11 f11 n13 f13 n15 f15) (pN n0 f0 n2 f2 f13 f15 n13)&&(kU (kx n0 f0 n2 f2 x4 n5 f5 n7 f7 n9 f9 n11 f11 n13 f13 n15 f15) (qh n0 f0 n2 f2 f13 f15 n13)==kU (kx n0 f0 n2 f2 x4 n5 f5 n7 f7 n9 f9 n11 f11 n13 f13 n15 f15) (qh n0 f0 n2 f2 f13 f15 n13)&&true) then kx n0 f0 n2 f2 x4 n5 f5 n7 f7 n9 f9 n11 f11 n13 f13 n15 f15==kx n0 f0 n2 f2 x4 n5 f5 n7 f7 n9 f9 n11 f11 n13 f13 n15 f15 else false) (.cb (.ret (V.bool true))) (.ret (V.kb false))))))))))))))))))))))
theorem UB:cJ cL (aP JJ aaY u0 ail [V.agg [V.sl n0 (aa ak f0),V.sl n2 (aa ah f2),vi x4,V.sl n5 (aa aJ f5),V.sl n7 (aa aU f7),V.sl n9 (aa aV f9),V.sl n11 (aa aH f11),V.sl n13 (aa ae f13),V.sl n15 (aa bQ f15)],vi x17,vi x18]) (Q2 n0 f0 n2 f2 x4 n5 f5 n7 f7 n9 f9 n11 f11 n13 f13 n15 f15 x17 x18):=⟨by kernel_rfl,by kernel_rfl⟩
def lN:Bool:=bif bif kU (v7 (kx n0 f0 n2 f2 x4 n5 f5 n7 f7 n9 f9 n11 f11 n13 f13 n15 f15) n5 (aa aJ f5) n7 (aa aU f7) n9 (aa aV f9) n11 (aa aH f11) x17 x18) (Ii n0 f0 n2 f2 f13 f15 n5 f5 n7 f7 n9 f9 n11 f11 x17 x18 n13)!=kU (v7 (kx n0 f0 n2 f2 x4 n5 f5 n7 f7 n9 f9 n11 f11 n13 f13 n15 f15) n5 (aa aJ f5) n7 (aa aU f7) n9 (aa aV f9) n11 (aa aH f11) x17 x18) (Ii n0 f0 n2 f2 f13 f15 n5 f5 n7 f7 n9 f9 n11 f11 x17 x18 n13) then true else v7 (kx n0 f0 n2 f2 x4 n5 f5 n7 f7 n9 f9 n11 f11 n13 f13 n15 f15) n5 (aa aJ f5) n7 (aa aU f7) n9 (aa aV f9) n11 (aa aH f11) x17 x18 != v7 (kx n0 f0 n2 f2 x4 n5 f5 n7 f7 n9 f9 n11 f11 n13 f13 n15 f15) n5 (aa aJ f5) n7 (aa aU f7) n9 (aa aV f9) n11 (aa aH f11) x17 x18 then false else bif bif kU (kx n0 f0 n2 f2 x4 n5 f5 n7 f7 n9 f9 n11 f11 n13 f13 n15 f15) (I9 n0 f0 n2 f2 f13 f15 n13)!=kU (kx n0 f0 n2 f2 x4 n5 f5 n7 f7 n9 f9 n11 f11 n13 f13 n15 f15) (I9 n0 f0 n2 f2 f13 f15 n13) then true else kx n0 f0 n2 f2 x4 n5 f5 n7 f7 n9 f9 n11 f11 n13 f13 n15 f15 != kx n0 f0 n2 f2 x4 n5 f5 n7 f7 n9 f9 n11 f11 n13 f13 n15 f15 then false else bif bif kU (kx n0 f0 n2 f2 x4 n5 f5 n7 f7 n9 f9 n11 f11 n13 f13 n15 f15) (pN n0 f0 n2 f2 f13 f15 n13)==kU (kx n0 f0 n2 f2 x4 n5 f5 n7 f7 n9 f9 n11 f11 n13 f13 n15 f15) (pN n0 f0 n2 f2 f13 f15 n13)&&(kU (kx n0 f0 n2 f2 x4 n5 f5 n7 f7 n9 f9 n11 f11 n13 f13 n15 f15) (qh n0 f0 n2 f2 f13 f15 n13)==kU (kx n0 f0 n2 f2 x4 n5 f5 n7 f7 n9 f9 n11 f11 n13 f13 n15 f15) (qh n0 f0 n2 f2 f13 f15 n13)&&true) then kx n0 f0 n2 f2 x4 n5 f5 n7 f7 n9 f9 n11 f11 n13 f13 n15 f15==kx n0 f0 n2 f2 x4 n5 f5 n7 f7 n9 f9 n11 f11 n13 f13 n15 f15 else false then true else false
def xl:V:=.bool (lN n0 f0 n2 f2 x4 n5 f5 n7 f7 n9 f9 n11 f11 n13 f13 n15 f15 x17 x18)
theorem aia (hp:yaa n0 f0/\yaa n2 f2/\yaa n5 f5/\yaa n11 f11):aR cq (Q2 n0 f0 n2 f2 x4 n5 f5 n7 f7 n9 f9 n11 f11 n13 f13 n15 f15 x17 x18) (xl n0 f0 n2 f2 x4 n5 f5 n7 f7 n9 f9 n11 f11 n13 f13 n15 f15 x17 x18):=evObp (by first|assumption|(exact hp)) (evObt (evObp (by first|assumption|(exact hp)) (evObt (evObi (evObi (evObi (evBr (fun h0=>evRet (by unfold xl lN;try rw[h0];rfl)) (fun h0=>evObp (by first|assumption|(exact hp)) (evObt (evObp (by first|assumption|(exact hp)) (evObt (evObi (evObi (evObi (evBr (fun h1=>evRet (by unfold xl lN;try rw[h0];try rw[h1];rfl)) (fun h1=>evObp (by first|assumption|(exact hp)) (evObt (evObp (by first|assumption|(exact hp)) (evObt (evObi (evObi (evObi (evBr (fun h2=>aw (evObt (evRet (by unfold xl lN;try rw[h0];try rw[h1];try rw[h2];rfl)))) (fun h2=>evRet (by unfold xl lN;try rw[h0];try rw[h1];try rw[h2];rfl)))))))))))))))))))))))))
theorem TI:lN n0 f0 n2 f2 x4 n5 f5 n7 f7 n9 f9 n11 f11 n13 f13 n15 f15 x17 x18=true:=by
 unfold lN
 simp only [BEq.rfl,bne_self_eq_false,cond_true,cond_false,Bool.and_self,Bool.not_true,Bool.and_true]
theorem Tm (hp:yaa n0 f0/\yaa n2 f2/\yaa n5 f5/\yaa n11 f11):aR cq (Q2 n0 f0 n2 f2 x4 n5 f5 n7 f7 n9 f9 n11 f11 n13 f13 n15 f15 x17 x18) (.bool true):=by
 have h:=aia n0 f0 n2 f2 x4 n5 f5 n7 f7 n9 f9 n11 f11 n13 f13 n15 f15 x17 x18 hp
 unfold xl at h
 rw [TI n0 f0 n2 f2 x4 n5 f5 n7 f7 n9 f9 n11 f11 n13 f13 n15 f15 x17 x18]at h
 exact h
def tys1010:List Ty:=[.agg [.sl ak,.sl ah,tI,.sl aJ,.sl aU,.sl aV,.sl aH,.sl ae,.sl bQ],tI,tI]
theorem ok1010:(vP (lawC tys1010)).Ok Tryz.prog 10:=bV afc Tryz.func10 (by kernel_rfl) fun ds hp=>cQ (UB ..) (Tm _ _ _ _ _ _ _ _ _ _ _ _ _ _ _ _ _ _ _ (by have h:fY [.agg [.sl ak,.sl ah,tI,.sl aJ,.sl aU,.sl aV,.sl aH,.sl ae,.sl bQ],tI,tI] _:=hp;exact⟨fun i hi=>(h.1.1 i hi).1,fun i hi=>(h.1.2.1 i hi).1,fun i hi=>(h.1.2.2.2.1 i hi).1,fun i hi=>(h.1.2.2.2.2.2.2.1 i hi).1⟩))
end
end Go.Dx
