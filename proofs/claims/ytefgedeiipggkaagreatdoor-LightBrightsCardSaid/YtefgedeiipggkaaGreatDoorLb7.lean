/- Part 7 of a proof. No conditions. -/
import Derived.Test.YtefgedeiipggkaaGreatDoorLb6
import Derived.Laws.MathBits
set_option maxRecDepth 100000
set_option linter.unusedVariables false
set_option linter.unusedSimpArgs false
namespace Go.Dx
open Go.IntKind (i64 u64 u8)
open Go.Sx Go.Proofs
variable (H:Nat) (G:be) (T:Int) (s0:ByteArray) (S:Int) (R:Nat) (N:be) (W U O:Int) (n5:Nat) (q:be) (x5 x6:Int) (n7:Nat) (f7:be) (Z Y:Int) (b8:Bool) (n9:Nat) (f9:be) (x9 PV:Int) (Qx:Bool) (PS:Nat) (At:be) (PT PZ:Int) (Pi:Nat) (Pf:be) (Pm:Nat) (Ph:be) (Pb Pw:Int) (RL:ByteArray) (Ps Pr Py Pz QQ QY QZ Qa Qb Qq:Int)
noncomputable section
def Fe (Pe:Int->Int->Prop) (g0 g1:Int->Int->Int) (o:Int×Int):Prop:=(∃u v,Pe u v/\g0 u v=o.1)/\∃u v,Pe u v/\g1 u v=o.2
def uw (g0 g1:Int->Int->Int) (u v:Int) (o:Int×Int):Prop:=o.1<=g0 u v/\g1 u v<=o.2
def CL (a b:Int×Int):Prop:=a.1<=b.1/\b.2<=a.2
theorem CL.refl (a:Int×Int):CL a a:=⟨Int.le_refl _,Int.le_refl _⟩
theorem CL.trans {a b c:Int×Int} (h:CL a b) (k:CL b c):CL a c:=⟨Int.le_trans h.1 k.1,Int.le_trans k.2 h.2⟩
theorem uw.le {g0 g1:Int->Int->Int} {u v:Int} {o p:Int×Int} (h:uw g0 g1 u v o) (k:CL p o):uw g0 g1 u v p:=⟨Int.le_trans k.1 h.1,Int.le_trans h.2 k.2⟩
theorem at7 {Pe:Int->Int->Prop} {g0 g1:Int->Int->Int} {a b:Int×Int} (h:Fe Pe g0 g1 a) (c:∀ u v,Pe u v->uw g0 g1 u v a) (k:Fe Pe g0 g1 b) (d:∀ u v,Pe u v->uw g0 g1 u v b):a=b:=by
 obtain⟨⟨u,v,s,e⟩,⟨p,PX,t,f⟩⟩:=h;obtain⟨⟨u',v',s',e'⟩,⟨p',q',t',f'⟩⟩:=k;have M:=(d u v s).1;have Q:=(c u' v' s').1;have h3:=(d p PX t).2;have h4:=(c p' q' t').2;have S:a.1=b.1:=by omega
 have W:a.2=b.2:=by omega
 exact Prod.ext S W
theorem sC {Pe:Int->Int->Prop} {g0 g1:Int->Int->Int} {o:Int×Int} {u v:Int} (h:Fe Pe g0 g1 o) (s:Pe u v):Fe Pe g0 g1 (min o.1 (g0 u v),max o.2 (g1 u v)):=by
 obtain⟨⟨a,b,s1,e1⟩,⟨c,d,s2,e2⟩⟩:=h;refine⟨?_,?_⟩
 ·show ∃ u' v',Pe u' v'/\g0 u' v'=min o.1 (g0 u v)
  rw[Int.min_def];split
  ·exact⟨a,b,s1,e1⟩
  ·exact⟨u,v,s,rfl⟩
 ·show ∃ u' v',Pe u' v'/\g1 u' v'=max o.2 (g1 u v)
  rw[Int.max_def];split
  ·exact⟨u,v,s,rfl⟩
  ·exact⟨c,d,s2,e2⟩
theorem aw0 {g0 g1:Int->Int->Int} {o:Int×Int} {u v:Int}:CL (min o.1 (g0 u v),max o.2 (g1 u v)) o/\uw g0 g1 u v (min o.1 (g0 u v),max o.2 (g1 u v)) :=
 ⟨⟨Int.min_le_left _ _,Int.le_max_left _ _⟩,⟨Int.min_le_right _ _,Int.le_max_right _ _⟩⟩
section
variable (q:be) (Z:Int) (n9:Nat) (f9:be) (PS:Nat) (At:be)
def MY (n:Nat) (f:be) (a b u:Int):Prop:=u=a∨u=b∨∃j,j<n/\Dh a b (aA (f j))=true/\u=aA (f j)
theorem GK {Pe:Int->Int->Prop} {u v:Int} {o:Int×Int} (h:Fe Pe (bq q n9 f9 PS At) (Aq q Z n9 f9 PS At) o) (s:bE n9 f9 PS At u v=true->Pe u v):Fe Pe (bq q n9 f9 PS At) (Aq q Z n9 f9 PS At) (OF q Z n9 f9 PS At u v o):=by
 cases hb:bE n9 f9 PS At u v with
 |true=>rw[q5 hb];exact sC h (s hb)|false=>rw[tD hb];exact h
theorem xu (u v:Int) (o:Int×Int):CL (OF q Z n9 f9 PS At u v o) o:=by
 cases hb:bE n9 f9 PS At u v with
 |true=>rw[q5 hb];exact(aw0 (g0:=bq q n9 f9 PS At) (g1:=Aq q Z n9 f9 PS At)).1|false=>rw[tD hb];exact CL.refl o
theorem Gz (u v:Int) (o:Int×Int) (hb:bE n9 f9 PS At u v=true):uw (bq q n9 f9 PS At) (Aq q Z n9 f9 PS At) u v (OF q Z n9 f9 PS At u v o):=by rw[q5 hb];exact(aw0 (g0:=bq q n9 f9 PS At) (g1:=Aq q Z n9 f9 PS At)).2
theorem wP {y0 y1 u:Int} {o:Int×Int}:∀ k,k<=PS ->
 (∀Pe:Int->Int->Prop,Fe Pe (bq q n9 f9 PS At) (Aq q Z n9 f9 PS At) o->(∀v,MY PS At y0 y1 v->bE n9 f9 PS At u v=true->Pe u v)->Fe Pe (bq q n9 f9 PS At) (Aq q Z n9 f9 PS At) (Df q Z n9 f9 PS At y0 y1 u o k)) /\
 CL (Df q Z n9 f9 PS At y0 y1 u o k) o /\
 ∀j,j<k->Dh y0 y1 (aA (At j))=true->bE n9 f9 PS At u (aA (At j))=true->uw (bq q n9 f9 PS At) (Aq q Z n9 f9 PS At) u (aA (At j)) (Df q Z n9 f9 PS At y0 y1 u o k)
 |0,_=>⟨λPe h _=>h,CL.refl o,λj hj=>absurd hj (Fj j)⟩
 |k+1,hk=>by
   obtain⟨M,Q,h3⟩:=wP (y0:=y0) (y1:=y1) (u:=u) (o:=o) k K;cases hb:Dh y0 y1 (aA (At k)) with
   |false=>
     rw[Kd hb];refine⟨M,Q,λj hj a b=>?_⟩;rcases Nat.lt_succ_iff_lt_or_eq.1 hj with h|h
     ·exact h3 j h a b
     ·subst h;rw[hb]at a;cases a
   |true=>
     rw[xK hb];refine⟨λPe h s=>GK q Z n9 f9 PS At (M Pe h s) (s _ (.inr (.inr ⟨k,K,hb,rfl⟩))),CL.trans (xu ..) Q,λj hj a b=>?_⟩;rcases Nat.lt_succ_iff_lt_or_eq.1 hj with h|h
     ·exact uw.le (h3 j h a b) (xu ..)
     ·subst h;exact Gz _ _ _ _ _ _ _ _ _ b
theorem y7 {y0 y1 u:Int} {o:Int×Int} {Pe:Int->Int->Prop} (h:Fe Pe (bq q n9 f9 PS At) (Aq q Z n9 f9 PS At) o) (s:∀ v,MY PS At y0 y1 v->bE n9 f9 PS At u v=true->Pe u v):Fe Pe (bq q n9 f9 PS At) (Aq q Z n9 f9 PS At) (XI q Z n9 f9 PS At y0 y1 u o) :=
 (wP q Z n9 f9 PS At PS (Ah _)).1 Pe (GK _ _ _ _ _ _ (GK _ _ _ _ _ _ h (s _ (.inl rfl))) (s _ (.inr (.inl rfl)))) s
theorem xD (y0 y1 u:Int) (o:Int×Int):CL (XI q Z n9 f9 PS At y0 y1 u o) o :=
 CL.trans (wP q Z n9 f9 PS At PS (Ah _)).2.1 (CL.trans (xu ..) (xu ..))
theorem Gv {y0 y1 u v:Int} {o:Int×Int} (hv:MY PS At y0 y1 v) (hb:bE n9 f9 PS At u v=true):uw (bq q n9 f9 PS At) (Aq q Z n9 f9 PS At) u v (XI q Z n9 f9 PS At y0 y1 u o):=by
 have k:=wP q Z n9 f9 PS At (y0:=y0) (y1:=y1) (u:=u) (o:=GB q Z n9 f9 PS At y0 y1 u o) PS (Ah _);rcases hv with h|h|⟨j,hj,a,e⟩
 ·subst h;exact uw.le (uw.le (Gz _ _ _ _ _ _ _ _ _ hb) (xu ..)) k.2.1
 ·subst h;exact uw.le (Gz _ _ _ _ _ _ _ _ _ hb) k.2.1
 ·subst e;exact k.2.2 j hj a hb
def zo (T S y0 y1 u v:Int):Prop:=((u=T∨u=S)/\(v=y0∨v=y1))∨(MY n9 f9 T S u/\MY PS At y0 y1 v/\bE n9 f9 PS At u v=true)
theorem BV {T S y0 y1:Int} {o:Int×Int} (ho:Fe (zo n9 f9 PS At T S y0 y1) (bq q n9 f9 PS At) (Aq q Z n9 f9 PS At) o):∀ k,k<=n9 ->
 Fe (zo n9 f9 PS At T S y0 y1) (bq q n9 f9 PS At) (Aq q Z n9 f9 PS At) (Gg q Z n9 f9 PS At T S y0 y1 o k) /\
 CL (Gg q Z n9 f9 PS At T S y0 y1 o k) o /\
 ∀j,j<k->Dh T S (aA (f9 j))=true->∀v,MY PS At y0 y1 v->bE n9 f9 PS At (aA (f9 j)) v=true->uw (bq q n9 f9 PS At) (Aq q Z n9 f9 PS At) (aA (f9 j)) v (Gg q Z n9 f9 PS At T S y0 y1 o k)
 |0,_=>⟨ho,CL.refl o,λj hj=>absurd hj (Fj j)⟩
 |k+1,hk=>by
   obtain⟨M,Q,h3⟩:=BV ho k K;cases hb:Dh T S (aA (f9 k)) with
   |false=>
     rw[aaD hb];refine⟨M,Q,λj hj a v hv b=>?_⟩;rcases Nat.lt_succ_iff_lt_or_eq.1 hj with h|h
     ·exact h3 j h a v hv b
     ·subst h;rw[hb]at a;cases a
   |true=>
     rw[aey hb];refine⟨y7 _ _ _ _ _ _ M (λv hv hh=>.inr ⟨.inr (.inr ⟨k,K,hb,rfl⟩),hv,hh⟩),CL.trans (xD ..) Q,λj hj a v hv b=>?_⟩;rcases Nat.lt_succ_iff_lt_or_eq.1 hj with h|h
     ·exact uw.le (h3 j h a v hv b) (xD ..)
     ·subst h;exact Gv _ _ _ _ _ _ hv b
theorem h3' (T S y0 y1:Int):Fe (zo n9 f9 PS At T S y0 y1) (bq q n9 f9 PS At) (Aq q Z n9 f9 PS At) (Jz q Z n9 f9 PS At T S y0 y1) :=
 have a:Fe (zo n9 f9 PS At T S y0 y1) (bq q n9 f9 PS At) (Aq q Z n9 f9 PS At) (bq q n9 f9 PS At T y0,Aq q Z n9 f9 PS At T y0):=⟨⟨T,y0,.inl ⟨.inl rfl,.inl rfl⟩,rfl⟩,⟨T,y0,.inl ⟨.inl rfl,.inl rfl⟩,rfl⟩⟩
 sC (sC (sC a (.inl ⟨.inl rfl,.inr rfl⟩)) (.inl ⟨.inr rfl,.inl rfl⟩)) (.inl ⟨.inr rfl,.inr rfl⟩)
theorem akr {T S y0 y1 u v:Int} (hu:u=T∨u=S) (hv:v=y0∨v=y1):uw (bq q n9 f9 PS At) (Aq q Z n9 f9 PS At) u v (Jz q Z n9 f9 PS At T S y0 y1):=by unfold uw Jz;rcases hu with rfl|rfl<;>rcases hv with rfl|rfl<;>dsimp only<;>omega
theorem aix (T S y0 y1:Int):Fe (zo n9 f9 PS At T S y0 y1) (bq q n9 f9 PS At) (Aq q Z n9 f9 PS At) (L8 q Z n9 f9 PS At T S y0 y1) :=
 (BV q Z n9 f9 PS At (y7 _ _ _ _ _ _ (y7 _ _ _ _ _ _ (h3' ..) (λv hv hh=>.inr ⟨.inl rfl,hv,hh⟩)) (λv hv hh=>.inr ⟨.inr (.inl rfl),hv,hh⟩)) n9 (Ah _)).1
theorem aje {T S y0 y1 u v:Int} (h:zo n9 f9 PS At T S y0 y1 u v):uw (bq q n9 f9 PS At) (Aq q Z n9 f9 PS At) u v (L8 q Z n9 f9 PS At T S y0 y1):=by
 have k:=BV q Z n9 f9 PS At (y7 _ _ _ _ _ _ (y7 _ _ _ _ _ _ (h3' q Z n9 f9 PS At T S y0 y1) (λv hv hh=>.inr ⟨.inl rfl,hv,hh⟩)) (λv hv hh=>.inr ⟨.inr (.inl rfl),hv,hh⟩)) n9 (Ah _);rcases h with ⟨hu,hv⟩|⟨hu,hv,hb⟩
 ·exact uw.le (uw.le (uw.le (akr _ _ _ _ _ _ hu hv) (xD ..)) (xD ..)) k.2.1
 ·rcases hu with h|h|⟨j,hj,a,e⟩
  ·subst h;exact uw.le (uw.le (Gv _ _ _ _ _ _ hv hb) (xD ..)) k.2.1
  ·subst h;exact uw.le (Gv _ _ _ _ _ _ hv hb) k.2.1
  ·subst e;exact k.2.2 j hj a v hv hb
end
section
variable (n1:Nat) (f1:be) (n3:Nat) (f3:be) (q:be) (Z x9 PV PT PZ Pk:Int)
def vD (u v:Int):Prop:=∃i k,i<(bb n1 f1 x9 PV Pk).length/\k<(bb n3 f3 PT PZ Pk).length/\Fh n1 f1 n3 f3 q Z x9 PV PT PZ Pk i k=false/\u=aA (jr (bb n1 f1 x9 PV Pk) i)/\v=aA (jr (bb n3 f3 PT PZ Pk) k)
def Jr (Pe:Int->Int->Prop) (o:Bool×Int×Int):Prop:=o.1=true∨Fe Pe (λu v=>il n1 f1 n3 f3 q u v Pk) (λu v=>ij n1 f1 n3 f3 q Z u v Pk) o.2
def IJ (u v:Int) (o:Bool×Int×Int):Prop:=o.1=false/\uw (λu v=>il n1 f1 n3 f3 q u v Pk) (λu v=>ij n1 f1 n3 f3 q Z u v Pk) u v o.2
theorem ake {Pe:Int->Int->Prop} {i k:Nat} {o:Bool×Int×Int} (h:Jr n1 f1 n3 f3 q Z Pk Pe o) (s:Fh n1 f1 n3 f3 q Z x9 PV PT PZ Pk i k=false->Pe (aA (jr (bb n1 f1 x9 PV Pk) i)) (aA (jr (bb n3 f3 PT PZ Pk) k))):Jr n1 f1 n3 f3 q Z Pk Pe (Uz n1 f1 n3 f3 q Z x9 PV PT PZ Pk i k o):=by
 unfold Uz;cases hk:Fh n1 f1 n3 f3 q Z x9 PV PT PZ Pk i k with
 |true=>exact h
 |false=>
   have s:=s hk;cases hb:o.1 with
   |true=>exact .inr ⟨⟨_,_,s,(Int.min_self _).symm⟩,⟨_,_,s,(Int.max_self _).symm⟩⟩
   |false=>
     rcases h with h|h
     ·rw[hb]at h;cases h
     ·exact .inr (sC h s)
theorem yaB {u v:Int} {i k:Nat} {o:Bool×Int×Int} (h:IJ n1 f1 n3 f3 q Z Pk u v o):IJ n1 f1 n3 f3 q Z Pk u v (Uz n1 f1 n3 f3 q Z x9 PV PT PZ Pk i k o):=by
 unfold Uz;cases hk:Fh n1 f1 n3 f3 q Z x9 PV PT PZ Pk i k with
 |true=>exact h
 |false=>rw[h.1];exact⟨rfl,uw.le h.2 ⟨Int.min_le_left _ _,Int.le_max_left _ _⟩⟩
theorem alp {i k:Nat} {o:Bool×Int×Int} (hk:Fh n1 f1 n3 f3 q Z x9 PV PT PZ Pk i k=false):IJ n1 f1 n3 f3 q Z Pk (aA (jr (bb n1 f1 x9 PV Pk) i)) (aA (jr (bb n3 f3 PT PZ Pk) k)) (Uz n1 f1 n3 f3 q Z x9 PV PT PZ Pk i k o):=by
 unfold Uz;rw[hk];cases hb:o.1 with
 |true=>exact⟨rfl,⟨Int.min_le_right _ _,Int.le_max_right _ _⟩⟩|false=>exact⟨rfl,⟨Int.min_le_right _ _,Int.le_max_right _ _⟩⟩
theorem avC {i:Nat} (hi:i<(bb n1 f1 x9 PV Pk).length) {o:Bool×Int×Int} (ho:Jr n1 f1 n3 f3 q Z Pk (vD n1 f1 n3 f3 q Z x9 PV PT PZ Pk) o):∀ k,k<=(bb n3 f3 PT PZ Pk).length ->
 Jr n1 f1 n3 f3 q Z Pk (vD n1 f1 n3 f3 q Z x9 PV PT PZ Pk) (ME n1 f1 n3 f3 q Z x9 PV PT PZ Pk i o k) /\
 (∀u v,IJ n1 f1 n3 f3 q Z Pk u v o->IJ n1 f1 n3 f3 q Z Pk u v (ME n1 f1 n3 f3 q Z x9 PV PT PZ Pk i o k)) /\
 ∀j,j<k->Fh n1 f1 n3 f3 q Z x9 PV PT PZ Pk i j=false->IJ n1 f1 n3 f3 q Z Pk (aA (jr (bb n1 f1 x9 PV Pk) i)) (aA (jr (bb n3 f3 PT PZ Pk) j)) (ME n1 f1 n3 f3 q Z x9 PV PT PZ Pk i o k)
 |0,_=>⟨ho,λ_ _ h=>h,λj hj=>absurd hj (Fj j)⟩
 |k+1,hk=>by
   obtain⟨M,Q,h3⟩:=avC hi ho k K;refine⟨ake _ _ _ _ _ _ _ _ _ _ _ M (λs=>⟨i,k,hi,K,s,rfl,rfl⟩),λu v h=>yaB _ _ _ _ _ _ _ _ _ _ _ (Q u v h),λj hj a=>?_⟩;rcases Nat.lt_succ_iff_lt_or_eq.1 hj with h|h
   ·exact yaB _ _ _ _ _ _ _ _ _ _ _ (h3 j h a)
   ·subst h;exact alp _ _ _ _ _ _ _ _ _ _ _ a
theorem anA:∀ i,i<=(bb n1 f1 x9 PV Pk).length ->
 Jr n1 f1 n3 f3 q Z Pk (vD n1 f1 n3 f3 q Z x9 PV PT PZ Pk) (Zf n1 f1 n3 f3 q Z x9 PV PT PZ Pk i) /\
 ∀j k,j<i->k<(bb n3 f3 PT PZ Pk).length->Fh n1 f1 n3 f3 q Z x9 PV PT PZ Pk j k=false->IJ n1 f1 n3 f3 q Z Pk (aA (jr (bb n1 f1 x9 PV Pk) j)) (aA (jr (bb n3 f3 PT PZ Pk) k)) (Zf n1 f1 n3 f3 q Z x9 PV PT PZ Pk i)
 |0,_=>⟨.inl rfl,λj k hj=>absurd hj (Fj j)⟩
 |i+1,hi=>by
   obtain⟨M,Q⟩:=anA i K;obtain⟨k1,k2,k3⟩:=avC n1 f1 n3 f3 q Z x9 PV PT PZ Pk (i:=i) K M _ (Ah _);refine⟨k1,λj k hj hk a=>?_⟩;rcases Nat.lt_succ_iff_lt_or_eq.1 hj with h|h
   ·exact k2 _ _ (Q j k h hk a)
   ·subst h;exact k3 k hk a
theorem awr {i k:Nat} (hi:i<=1) (hk:k<=1):Fh n1 f1 n3 f3 q Z x9 PV PT PZ Pk i k=false:=by unfold Fh;rw[show decide (1<(i:Int))=false from eM K,show decide (1<(k:Int))=false from eM K];generalize fU n1 f1 n3 f3 _ _ Pk=b;cases b<;>rfl
theorem aiI {i k:Nat} (h:fU n1 f1 n3 f3 (aA (jr (bb n1 f1 x9 PV Pk) i)) (aA (jr (bb n3 f3 PT PZ Pk) k)) Pk=true):Fh n1 f1 n3 f3 q Z x9 PV PT PZ Pk i k=false:=by unfold Fh;rw[h];rfl
theorem m51 {i k:Nat} (h:Fh n1 f1 n3 f3 q Z x9 PV PT PZ Pk i k=false):fU n1 f1 n3 f3 (aA (jr (bb n1 f1 x9 PV Pk) i)) (aA (jr (bb n3 f3 PT PZ Pk) k)) Pk=true∨(i<=1/\k<=1):=by
 unfold Fh at h;cases hb:fU n1 f1 n3 f3 (aA (jr (bb n1 f1 x9 PV Pk) i)) (aA (jr (bb n3 f3 PT PZ Pk) k)) Pk with
 |true=>exact .inl rfl
 |false=>
   rw[hb]at h;cases hi:decide (1<(i:Int)) with
   |true=>rw[hi]at h;cases h
   |false=>rw[hi]at h;have h:decide (1<(k:Int))=false:=h;have a:=D2 hi;have b:=D2 h;exact .inr ⟨K,K⟩
theorem yae:Fe (vD n1 f1 n3 f3 q Z x9 PV PT PZ Pk) (λu v=>il n1 f1 n3 f3 q u v Pk) (λu v=>ij n1 f1 n3 f3 q Z u v Pk) (iY n1 f1 n3 f3 q Z x9 PV PT PZ Pk,jh n1 f1 n3 f3 q Z x9 PV PT PZ Pk) /\
 ∀u v,vD n1 f1 n3 f3 q Z x9 PV PT PZ Pk u v->uw (λu v=>il n1 f1 n3 f3 q u v Pk) (λu v=>ij n1 f1 n3 f3 q Z u v Pk) u v (iY n1 f1 n3 f3 q Z x9 PV PT PZ Pk,jh n1 f1 n3 f3 q Z x9 PV PT PZ Pk):=by
 have k:=anA n1 f1 n3 f3 q Z x9 PV PT PZ Pk _ (Ah _);have l1:=(qy (FH f1 (E (1000*x9)) (E (1000*PV)) Pk) (λi=>E (aA (f1 i)*Pk)) (E (1000*x9)) (E (1000*PV)) n1).1;have l3:=(qy (FH f3 (E (1000*PT)) (E (1000*PZ)) Pk) (λi=>E (aA (f3 i)*Pk)) (E (1000*PT)) (E (1000*PZ)) n3).1;have c:=k.2 0 0 (by unfold bb;omega) (by unfold bb;omega) (awr _ _ _ _ _ _ _ _ _ _ _ K K);refine⟨?_,λu v=>?_⟩
 ·rcases k.1 with h|h
  ·rw[c.1]at h;cases h
  ·exact h
 ·rintro⟨i,j,hi,hj,s,rfl,rfl⟩;exact(k.2 i j hi hj s).2
end
theorem alB (p:Nat->Bool) (w:Nat->Int) (a b x:Int):∀ n,x∈Ss p w a b n↔x=a∨x=b∨∃ j,j<n/\p j=true/\x=w j
 |0=>by unfold Ss;simp
 |n+1=>by
   have ih:=alB p w a b x n;unfold Ss;cases hp:p n with
   |true=>
     simp only[cond_true,IC,I9,ih];constructor
     ·rintro ((h|h|⟨j,hj,h⟩)|h)
      ·exact .inl h
      ·exact .inr (.inl h)
      ·exact .inr (.inr ⟨j,K,h⟩)
      ·exact .inr (.inr ⟨n,K,hp,h⟩)
     ·rintro (h|h|⟨j,hj,M,Q⟩)
      ·exact .inl (.inl h)
      ·exact .inl (.inr (.inl h))
      ·rcases Nat.lt_succ_iff_lt_or_eq.1 hj with h|h
       ·exact .inl (.inr (.inr ⟨j,h,M,Q⟩))
       ·subst h;exact .inr Q
   |false=>
     simp only[cond_false,ih];constructor
     ·rintro (h|h|⟨j,hj,h⟩)
      ·exact .inl h
      ·exact .inr (.inl h)
      ·exact .inr (.inr ⟨j,K,h⟩)
     ·rintro (h|h|⟨j,hj,M,Q⟩)
      ·exact .inl h
      ·exact .inr (.inl h)
      ·rcases Nat.lt_succ_iff_lt_or_eq.1 hj with h|h
       ·exact .inr (.inr ⟨j,h,M,Q⟩)
       ·subst h;rw[hp]at M;cases M
theorem GL (p:Nat->Bool) (w:Nat->Int) (a b:Int):∀ n,∃ t,Ss p w a b n=a::b::t
 |0=>⟨[],rfl⟩
 |n+1=>by
   obtain⟨t,e⟩:=GL p w a b n;unfold Ss;rw[e];cases p n with
   |true=>exact⟨t++[w n],rfl⟩|false=>exact⟨t,rfl⟩
theorem wL {QS:List Int} {x:Int}:x∈QS↔∃ i,i<QS.length/\x=aA (jr QS i):=by
 have e:∀i,aA (jr QS i)=QS.getD i 0:=λi=>rfl;simp only[e];constructor
 ·intro h;obtain⟨i,hi,rfl⟩:=List.getElem_of_mem h;exact⟨i,hi,by rw[H6,Ds hi];rfl⟩
 ·rintro⟨i,hi,rfl⟩;rw[H6,Ds hi];exact List.getElem_mem hi
theorem yv {f:Nat->Int} {t:Int} {n:Nat} (hm:∀ a b,a<b->b<n->f a<f b):∀ d i j:Nat,j-i<=d->i<=j->j<=n->(∀ a,a<i->f a<t)->(∀ a,j<=a->a<n->t<=f a) ->
 (FF f t d i j<=n/\∀a,a<n->(f a<t↔a<FF f t d i j))
 |0,i,j,hd,Tu,hj,M,Q=>by
   have:i=j:=by omega
   subst this;refine⟨hj,λa ha=>⟨λh=>?_,λh=>M a h⟩⟩;have e:FF f t 0 i i=i:=rfl;rw[e];rcases EM a i with PX|PX
   ·exact PX
   ·have:=Q a PX ha;omega
 |d+1,i,j,hd,Tu,hj,M,Q=>by
   unfold FF;cases hb:Nat.blt i j with
   |false=>
     have hn:¬i<j:=λh=>by rw[Nat.blt_eq.mpr h]at hb;cases hb
     have:i=j:=by omega
     subst this;refine⟨hj,λa ha=>⟨λh=>?_,λh=>M a h⟩⟩;show a<i;rcases EM a i with PX|PX
     ·exact PX
     ·have:=Q a PX ha;omega
   |true=>
     have Pj:i<j:=Nat.blt_eq.mp hb;show(bif decide (f ((i+j) / 2)<t) then FF f t d ((i+j) / 2+1) j else FF f t d i ((i+j) / 2))<=n/\∀a,a<n->(f a<t↔a<(bif decide (f ((i+j) / 2)<t) then FF f t d ((i+j) / 2+1) j else FF f t d i ((i+j) / 2)));by_cases hc:f ((i+j) / 2)<t
     ·rw [AG hc]
      refine yv hm d _ j K K hj (λa ha=>?_) Q;rcases EM a ((i+j) / 2) with PX|PX
      ·have:=hm a _ PX K;omega
      ·have:a=(i+j) / 2:=by omega
       subst this;exact hc
     ·rw [eM hc]
      refine yv hm d i _ K K K M (λa ha hn=>?_);rcases EM ((i+j) / 2) a with PX|PX
      ·have:=hm _ a PX hn;omega
      ·have:a=(i+j) / 2:=by omega
       subst this;omega
theorem ha2 {p:Nat->Bool} {r:Nat}:∀ k,(∀ a,a<k->(p a=true↔a<r))->MS p k=min (r-1) (k-1)
 |0,_=>by unfold MS;omega
 |k+1,h=>by
   have ih:=ha2 (p:=p) (r:=r) k (λa ha=>h a K);have hk:=h k K;unfold MS;cases hp:p k with
   |true=>have:=hk.1 hp;show k=_;omega
   |false=>
     have:¬k<r:=λPX=>by rw[hk.2 PX]at hp;cases hp
     show MS p k=_;rw[ih];omega
theorem aei {n:Nat} {f:Nat->Int} (h:∀ i,i+1<n->f i<f (i+1)):∀ a b,a<b->b<n->f a<f b
 |a,0,SI,_=>absurd SI (Fj a)
 |a,b+1,SI,hb=>by
   have M:=h b hb;rcases Nat.lt_succ_iff_lt_or_eq.1 SI with PX|PX
   ·have:=aei h a b PX K;omega
   ·subst PX;exact M
section
variable {n:Nat} {f:be} {Pu:Int} (u:qN n f) (hn:2<=n/\n<=12) (hH:1<=Pu/\Pu<=30000)
include u hn hH
theorem KX (i:Nat) (hi:i<n):E (aA (f i)*Pu)=aA (f i)*Pu/\-150000000<=aA (f i)*Pu/\aA (f i)*Pu<=150000000:=by have _:=hn;have r:=u.r i hi;have M:aA (f i)*Pu<=5000*Pu:=Eo r.2 K;have Q:(-5000)*Pu<=aA (f i)*Pu:=Eo r.1 K;exact⟨AX K K,K,K⟩
theorem au1 (i:Nat) (hi:i+1<n):E (aA (f i)*Pu)<E (aA (f (i+1))*Pu):=by rw[(KX u hn hH i K).1,(KX u hn hH (i+1) hi).1];exact Int.mul_lt_mul_of_pos_right (u.u i hi) K
theorem h12 {x:Int} (hx:-200000000<=x/\x<=200000000):aY n (A L (A L (dh f Pu))) x=aS n (A L f) x Pu:=by
 have hb:=yv (f:=λk=>E (aA (f k)*Pu)) (t:=x+1) (n:=n) (aei (au1 u hn hH)) n 0 n K K (Ah _) (λa ha=>absurd ha (Fj a)) (λa M Q=>by omega);have e:HK n (A L (A L (A L (dh f Pu)))) (x+1)=FF (λk=>E (aA (f k)*Pu)) (x+1) n 0 n:=rfl;have c:=ha2 (p:=λi=>decide (E (aA (f i)*Pu)<=x)) (r:=FF (λk=>E (aA (f k)*Pu)) (x+1) n 0 n) (n-1) (λa ha=>by
  rw[← hb.2 a K];constructor
  ·intro h;have:=As h;omega
  ·intro h;exact AG K)
 unfold aY aS j4;rw[AX (x:=x+1) K K,e,show(λi=>decide (E (aA (A L f i)*Pu)<=x))=λi=>decide (E (aA (f i)*Pu)<=x) from rfl,c];have M:=hb.1;rw[AX (x:=(n:Int)-2) K K,AX K K];omega
theorem aeJ (i:Nat) (hi:i+1<n):E (E (aA (f (i+1))*Pu)-E (aA (f i)*Pu))=E (E (aA (f (i+1))-aA (f i))*Pu):=by have r0:=u.r i K;have r1:=u.r (i+1) hi;rw[(KX u hn hH i K).1,(KX u hn hH (i+1) hi).1,AX (x:=aA (f (i+1))-aA (f i)) K K,Int.sub_mul]
end
theorem Gy (n:Nat) (f:be) (m:Nat) (g:be) (a b Pu:Int):bE n (A L (dh f Pu)) m (A L (dh g Pu)) a b=fU n f m g a b Pu:=by unfold bE fU aB;show(bif(bif decide (E (aA (f 0)*Pu)<=a) then decide (a<=E (aA (f (E ((n:Int)-1)).toNat)*Pu)) else false) then(bif decide (E (aA (g 0)*Pu)<=b) then decide (b<=E (aA (g (E ((m:Int)-1)).toNat)*Pu)) else false) else false)=_;generalize decide (E (aA (f 0)*Pu)<=a)=p;generalize decide (a<=E (aA (f (E ((n:Int)-1)).toNat)*Pu))=PX;cases p<;>cases PX<;>rfl
section
variable {x y a b v Pu:Int} (h:E (E (b*Pu)-E (a*Pu))=E (E (b-a)*Pu))
include x y a b v Pu h
theorem api:ml x y (E (a*Pu)) (E (b*Pu)) v=dT (d5 x y a b v Pu) (cU a b Pu):=by unfold ml d5 cU;rw[h];rfl
theorem auw:mn x y (E (a*Pu)) (E (b*Pu)) v=eQ (d5 x y a b v Pu) (cU a b Pu):=by unfold mn d5 cU;rw[h];rfl
end
section
variable {n:Nat} {f:be} {m:Nat} {g:be} {w:be} {Pu:Int} (hu:qN n f) (hv:qN m g) (hn:2<=n/\n<=12) (hm:2<=m/\m<=12) (hH:1<=Pu/\Pu<=30000)
include hu hv hn hm hH
theorem apG {a b side:Int} (ha:-200000000<=a/\a<=200000000) (hb:-200000000<=b/\b<=200000000) :
 bq w n (A L (dh f Pu)) m (A L (dh g Pu)) a b=il n f m g w a b Pu /\
 Aq w side n (A L (dh f Pu)) m (A L (dh g Pu)) a b=ij n f m g w side a b Pu:=by
 unfold bq Aq il ij;rw[h12 hu hn hH ha,h12 hv hm hH hb];have e:bE n (A L (A L (dh f Pu))) m (A L (A L (dh g Pu))) a b=fU n (A L f) m (A L g) a b Pu:=Gy n f m g a b Pu;rw[e];have p:=e8 (A L f) a Pu (n:=n) K;have PX:=e8 (A L g) b Pu (n:=m) K;revert p PX;generalize aS n (A L f) a Pu=i;generalize aS m (A L g) b Pu=k;intro p PX;rw[show E (i+0)=i from by rw[Int.add_zero];exact AX K K,show E (i+E (0+1))=i+1 from(show E (i+1)=i+1 from AX K K),show E (i+1)=i+1 from AX K K,show E (k+1)=k+1 from AX K K];have di:=aeJ hu hn hH i.toNat K;have dk:=aeJ hv hm hH k.toNat K;rw[show i.toNat+1=(i+1).toNat from by omega]at di;rw[show k.toNat+1=(k+1).toNat from by omega]at dk;cases fU n (A L f) m (A L g) a b Pu with
 |false=>simp only[Ff,cond_true,and_self]
 |true=>
   simp only[Fs,cond_false];refine⟨?_,?_⟩
   ·refine (api di).trans ?_
    have r:∀j:Int,mj j (A [Ty.sl L] w) (A L (A L (dh g Pu))) k b=dT (d5 (aA (bz (av (w j.toNat)) k.toNat)) (aA (bz (av (w j.toNat)) (k+1).toNat)) (aA (g k.toNat)) (aA (g (k+1).toNat)) b Pu) (cU (aA (g k.toNat)) (aA (g (k+1).toNat)) Pu):=λj=>by unfold mj;rw[show E (k+1)=k+1 from AX K K];exact api dk
    rw[r i,r (i+1)]
   ·refine (auw di).trans ?_
    have r:∀j:Int,mt j (A [Ty.sl L] w) (A L (A L (dh g Pu))) k b=eQ (d5 (aA (bz (av (w j.toNat)) k.toNat)) (aA (bz (av (w j.toNat)) (k+1).toNat)) (aA (g k.toNat)) (aA (g (k+1).toNat)) b Pu) (cU (aA (g k.toNat)) (aA (g (k+1).toNat)) Pu):=λj=>by unfold mt;rw[show E (k+1)=k+1 from AX K K];exact auw dk
    rw[r i,r (i+1)]
end
theorem CQ {n:Nat} {f:be} {x y Pu a:Int}:a∈bb n f x y Pu↔MY n (A L (dh f Pu)) (E (1000*x)) (E (1000*y)) a:=by
 unfold bb MY;rw[alB];have e:∀j,aA (A L (dh f Pu) j)=E (aA (f j)*Pu):=λj=>rfl;simp only[e];constructor
 ·rintro (h|h|⟨j,hj,M,Q⟩)
  ·exact .inl h
  ·exact .inr (.inl h)
  ·have Q:a=E (aA (f j)*Pu):=Q
   by_cases ha:a=E (1000*x)
   ·exact .inl ha
   ·by_cases hb:a=E (1000*y)
    ·exact .inr (.inl hb)
    ·refine .inr (.inr ⟨j,hj,?_,Q⟩)
     have PX:(bif decide (E (1000*x)<=E (aA (f j)*Pu)) then decide (E (aA (f j)*Pu)<=E (1000*y)) else false)=true:=M;cases c:decide (E (1000*x)<=E (aA (f j)*Pu)) with
     |false=>rw[c]at PX;cases PX
     |true=>rw[c]at PX;have c:=As c;have PX:decide (E (aA (f j)*Pu)<=E (1000*y))=true:=PX;have PX:=As PX;unfold Dh;rw[AG (show E (1000*x)<E (aA (f j)*Pu) from by omega)];exact AG K
 ·rintro (h|h|⟨j,hj,M,Q⟩)
  ·exact .inl h
  ·exact .inr (.inl h)
  ·refine .inr (.inr ⟨j,hj,?_,Q⟩)
   unfold Dh at M;unfold FH;cases c:decide (E (1000*x)<E (aA (f j)*Pu)) with
   |false=>rw[c]at M;cases M
   |true=>rw[c]at M;have M:decide (E (aA (f j)*Pu)<E (1000*y))=true:=M;have M:=As M;have c:=As c;rw[AG (show E (1000*x)<=E (aA (f j)*Pu) from by omega)];exact AG K
section
variable (n:Nat) (f:be) (x y Pu:Int)
include n f x y Pu
theorem asL:aA (jr (bb n f x y Pu) 0)=E (1000*x):=by unfold bb;obtain⟨t,e⟩:=GL (FH f (E (1000*x)) (E (1000*y)) Pu) (λi=>E (aA (f i)*Pu)) (E (1000*x)) (E (1000*y)) n;rw[e];rfl
theorem atv:aA (jr (bb n f x y Pu) 1)=E (1000*y):=by unfold bb;obtain⟨t,e⟩:=GL (FH f (E (1000*x)) (E (1000*y)) Pu) (λi=>E (aA (f i)*Pu)) (E (1000*x)) (E (1000*y)) n;rw[e];rfl
theorem fd1:2<=(bb n f x y Pu).length:=(qy ..).1
end
section
variable {n:Nat} {f:be} {m:Nat} {g w:be} {s:Int}
include n f m g w s
theorem uK {x9 PV PT PZ Pu u v:Int} :
 zo n (A L (dh f Pu)) m (A L (dh g Pu)) (E (1000*x9)) (E (1000*PV)) (E (1000*PT)) (E (1000*PZ)) u v↔vD n f m g w s x9 PV PT PZ Pu u v:=by
 have end_:∀ {n:Nat} {f:be} {x y u:Int},u=E (1000*x)∨u=E (1000*y)->∃ i,i<=1/\u=aA (jr (bb n f x y Pu) i):=λ{n f x y u} h=>by
  rcases h with h|h
  ·exact⟨0,K,h.trans (asL n f x y Pu).symm⟩
  ·exact⟨1,K,h.trans (atv n f x y Pu).symm⟩
 have l1:=fd1 n f x9 PV Pu;have l2:=fd1 m g PT PZ Pu;constructor
 ·rintro (⟨M,Q⟩|⟨M,Q,h3⟩)
  ·obtain⟨i,hi,e1⟩:=end_ (n:=n) (f:=f) M;obtain⟨k,hk,e2⟩:=end_ (n:=m) (f:=g) Q;exact⟨i,k,K,K,awr _ _ _ _ _ _ _ _ _ _ _ hi hk,e1,e2⟩
  ·obtain⟨i,hi,e1⟩:=wL.1 (CQ.2 M);obtain⟨k,hk,e2⟩:=wL.1 (CQ.2 Q);rw[Gy]at h3;subst e1;subst e2;exact⟨i,k,hi,hk,aiI _ _ _ _ _ _ _ _ _ _ _ h3,rfl,rfl⟩
 ·rintro ⟨i,k,hi,hk,h,e1,e2⟩
  rcases m51 _ _ _ _ _ _ _ _ _ _ _ h with h|⟨M,Q⟩
  ·subst e1;subst e2;exact .inr ⟨CQ.1 (wL.2 ⟨i,hi,rfl⟩),CQ.1 (wL.2 ⟨k,hk,rfl⟩),by rw[Gy];exact h⟩
  ·have low:∀ {n:Nat} {f:be} {x y:Int} {i:Nat},i<=1->aA (jr (bb n f x y Pu) i)=E (1000*x)∨aA (jr (bb n f x y Pu) i)=E (1000*y):=λ{n f x y i} h=>by
    rcases EM i 1 with PX|PX
    ·rw[show i=0 by omega];exact .inl (asL ..)
    ·rw[show i=1 by omega];exact .inr (atv ..)
   subst e1;subst e2;exact .inl ⟨low M,low Q⟩
theorem afc {a c d e Pu:Int} (hu:qN n f) (hv:qN m g) (hn:2<=n/\n<=12) (hm:2<=m/\m<=12) (hH:1<=Pu/\Pu<=30000)
 (M:-200000<=a/\a<=200000) (Q:-200000<=c/\c<=200000) (h3:-200000<=d/\d<=200000) (h4:-200000<=e/\e<=200000) :
 (iW w s n (A L (dh f Pu)) m (A L (dh g Pu)) a c d e,iX w s n (A L (dh f Pu)) m (A L (dh g Pu)) a c d e)=(iY n f m g w s a c d e Pu,jh n f m g w s a c d e Pu):=by
 have rng:∀ {n:Nat} {f:be} {x y u:Int},(-200000<=x/\x<=200000)->(-200000<=y/\y<=200000)->MY n f (E (1000*x)) (E (1000*y)) u->-200000000<=u/\u<=200000000:=λ{n f x y u} hx hy h=>by
  unfold MY at h;rw[AX (x:=1000*x) K K,AX (x:=1000*y) K K]at h;rcases h with h|h|⟨j,_,hb,e⟩
  ·omega
  ·omega
  ·unfold Dh at hb
   cases c:decide (1000*x<aA (f j)) with
   |false=>rw[c]at hb;cases hb
   |true=>rw[c]at hb;have hb:decide (aA (f j)<1000*y)=true:=hb;have:=As hb;have:=As c;omega
 have pt:∀ {p PX},vD n f m g w s a c d e Pu p PX->_:=λ{p PX} z=>by
  have z:=uK.2 z;have hp:MY n (A L (dh f Pu)) (E (1000*a)) (E (1000*c)) p/\MY m (A L (dh g Pu)) (E (1000*d)) (E (1000*e)) PX:=by
   rcases z with ⟨k1,k2⟩|⟨k1,k2,_⟩
   ·exact⟨k1.elim .inl (λz=>.inr (.inl z)),k2.elim .inl (λz=>.inr (.inl z))⟩
   ·exact⟨k1,k2⟩
  exact apG (w:=w) (side:=s) hu hv hn hm hH (rng M Q hp.1) (rng h3 h4 hp.2)
 have QG:=aix w s n (A L (dh f Pu)) m (A L (dh g Pu)) (E (1000*a)) (E (1000*c)) (E (1000*d)) (E (1000*e));have B:=yae n f m g w s a c d e Pu;refine at7 (Pe:=vD n f m g w s a c d e Pu) (g0:=λp PX=>il n f m g w p PX Pu) (g1:=λp PX=>ij n f m g w s p PX Pu) ?_ (λp PX z=>?_) B.1 B.2
 ·obtain⟨⟨p,PX,z,e1⟩,⟨p',q',z',e2⟩⟩:=QG;exact⟨⟨p,PX,uK.1 z,(pt (uK.1 z)).1.symm.trans e1⟩,⟨p',q',uK.1 z',(pt (uK.1 z')).2.symm.trans e2⟩⟩
 ·have k:=aje w s n _ m _ (uK.2 z);exact⟨by have:=k.1;rw[(pt z).1]at this;exact this,by have:=k.2;rw[(pt z).2]at this;exact this⟩
end
theorem avK {x:List V} {a c d e Pu:Int} (t:qR x) (u:qN (aw (av (I x))) (bz (av (I x)))) (v:qN (aw (av (I (I x)))) (bz (av (I (I x))))) (hH:1<=Pu/\Pu<=30000)
 (M:-200000<=a/\a<=200000) (Q:-200000<=c/\c<=200000) (h3:-200000<=d/\d<=200000) (h4:-200000<=e/\e<=200000):RN x a c d e Pu=JR x a c d e Pu/\Px x a c d e Pu=Lm x a c d e Pu :=
 have k:=afc (w:=zM x) (s:=cq x) u v t.u t.v hH M Q h3 h4
 ⟨congrArg Prod.fst k,congrArg Prod.snd k⟩
theorem B4 (a b c d h:Int):fT a b c d h=dJ a b c d h:=by unfold fT dJ;rw[qA];rw[show(dz 4 λi=>aG (aA (A L (b9 [D a,D b,D c,D d] 0 1) i)) (-200000) 200000)=((((true&&dV a)&&dV b)&&dV c)&&dV d) from rfl,show aB h 1 30000=aG h 1 30000 from rfl];generalize dV a=p;generalize dV b=PX;generalize dV c=r;generalize dV d=s;cases p<;>cases PX<;>cases r<;>cases s<;>rfl
theorem Kw {b:Bool} {z:Int} (h:(bif !!b then z else 7)=0):b=true/\z=0:=by
 cases b with
 |true=>exact⟨rfl,h⟩|false=>cases h
theorem N7 {a b c d h:Int} (e:dJ a b c d h=0):(1<=h/\h<=30000)/\(-200000<=a/\a<=200000)/\(-200000<=b/\b<=200000)/\(-200000<=c/\c<=200000)/\(-200000<=d/\d<=200000):=by unfold dJ at e;obtain⟨M,e⟩:=Kw e;obtain⟨Q,e⟩:=Kw e;obtain⟨h3,e⟩:=Kw e;obtain⟨h4,e⟩:=Kw e;obtain⟨h5,_⟩:=lP e aO;exact⟨wZ M,wZ Q,wZ h3,wZ h4,wZ (Ck h5)⟩
theorem awB {H:Nat} {G:be} {R:Nat} {N:be} {O:Int} (h:cY H G R N O=0) :
 (bH H (A al G) R (A ao N)!=0)=false/\(!aB O 0 (E ((R:Int)-1)))=false:=by
 unfold cY at h;cases e:(bH H (A al G) R (A ao N)!=0) with
 |true=>rw[e]at h;have h:bH H (A al G) R (A ao N)=0:=h;rw[h]at e;cases e
 |false=>
   rw[e]at h;cases hh:(!aB O 0 (E ((R:Int)-1))) with
   |true=>rw[hh]at h;cases h|false=>exact⟨rfl,rfl⟩
theorem zw (ts:List Ty) (f:be):A ts (A ts f)=A ts f:=funext λi=>eb ts (f i)
section
variable (H:Nat) (G:be) (R:Nat) (N:be) (O x5 x6 Z Y x9 PV PT PZ:Int)
theorem aip:FI H G R N O x5 x6 Z Y x9 PV PT PZ=OU H G R N O x5 x6 Z Y x9 PV PT PZ:=by unfold FI OU;rw[iw0,← ix8,← B4];cases jo x5 x6 Z<;>rfl
theorem ne6 (h:FI H (A al G) R (A ao N) O x5 x6 Z Y x9 PV PT PZ=0) :
 PC H (A al G) R (A ao N) O x5 x6 Z Y x9 PV PT PZ=ON H (A al G) R (A ao N) O x5 x6 Z Y x9 PV PT PZ /\
 P8 H (A al G) R (A ao N) O x5 x6 Z Y x9 PV PT PZ=OK H (A al G) R (A ao N) O x5 x6 Z Y x9 PV PT PZ:=by
 have M:cY H (A al G) R (A ao N) O=0/\fT Y x9 PV PT PZ=0:=by
  unfold FI at h;cases e:cY H (A al G) R (A ao N) O==0 with
  |true=>
    rw[e]at h;refine⟨DU e,?_⟩;cases k:jo x5 x6 Z with
    |true=>rw[k]at h;cases h|false=>rw[k]at h;exact h
  |false=>rw[e]at h;have h:cY H (A al G) R (A ao N) O=0:=h;rw[h]at e;cases e
 obtain⟨hl,hr⟩:=M;have hb:=asF hl;have l0:=awB hl;rw[B4]at hr;have r:=N7 hr;have w:=hb.2;rw[zw]at w;have t:=BE w;have u:=Qy w;have PX:=avK t u.1 u.2 r.1 r.2.1 r.2.2.1 r.2.2.2.1 r.2.2.2.2;have a1:b6 H (A al G) R (A ao N) O=aR (A ao N O.toNat):=by unfold b6;rw[l0.1,l0.2];rfl
 have a3:jX H (A al G) R (A ao N) O=bf (A ao N O.toNat):=by unfold jX;rw[l0.1,l0.2];rfl
 have id4:mu H (A al G) R (A ao N) O=bG (I (I (A ao N O.toNat))):=by unfold mu;rw[l0.1,l0.2];rfl
 have m64:mi H (A al G) R (A ao N) O=bG (I (I (I (A ao N O.toNat)))):=by unfold mi;rw[l0.1,l0.2];rfl
 have a9:mH H (A al G) R (A ao N) O=bG (I (I (I (I (A ao N O.toNat))))):=by unfold mH;rw[l0.1,l0.2];rfl
 have a10:km H (A al G) R (A ao N) O=bG (I (I (I (I (I (A ao N O.toNat)))))):=by unfold km;rw[l0.1,l0.2];rfl
 unfold PC P8 ON OK;rw[PX.1,PX.2,a1,a3,id4,m64,a9,a10,ic5,hsn];exact⟨rfl,rfl⟩
theorem hf4:gM H (A al G) R (A ao N) O x5 x6 Z Y x9 PV PT PZ=jO H (A al G) R (A ao N) O x5 x6 Z Y x9 PV PT PZ /\
 gJ H (A al G) R (A ao N) O x5 x6 Z Y x9 PV PT PZ=jU H (A al G) R (A ao N) O x5 x6 Z Y x9 PV PT PZ /\
 io H (A al G) R (A ao N) O x5 x6 Z Y x9 PV PT PZ=mN H (A al G) R (A ao N) O x5 x6 Z Y x9 PV PT PZ:=by
 have e:=aip H (A al G) R (A ao N) O x5 x6 Z Y x9 PV PT PZ;unfold gM gJ io jO jU mN;cases h:FI H (A al G) R (A ao N) O x5 x6 Z Y x9 PV PT PZ==0 with
 |true=>have PX:=ne6 H G R N O x5 x6 Z Y x9 PV PT PZ (DU h);rw[← e,h,PX.1,PX.2];exact⟨rfl,rfl,rfl⟩
 |false=>rw[← e,h];exact⟨rfl,rfl,rfl⟩
end
def Jy:bo:=(60,.con abB)::Qk
theorem HA:ba Tryz.prog AQ AS Jy:=.con aks (dvY)
def aa0:RT Empty:=dm (O,n5,q,n7,f7,n9,f9,PS,At,RL,Py) (.ob (dI Pb Pi) (.ob (dI Pb Pm) (.obp ((((-1000:Int)<=Pz/\Pz<=(1000:Int))/\((-1000:Int)<=QQ/\QQ<=(1000:Int))/\(Pz≠(0:Int)∨QQ≠(0:Int)))/\((-400000000:Int)<=Ps/\Ps<=(400000000:Int))/\((-400000000:Int)<=Pr/\Pr<=(400000000:Int))/\((-400000000:Int)<=QY/\QY<=(400000000:Int))/\((-400000000:Int)<=QZ/\QZ<=(400000000:Int))/\((-400000000:Int)<=Qa/\Qa<=(400000000:Int))/\(-400000000:Int)<=Qb/\Qb<=(400000000:Int)) (.obt (.obp ((aC H G)/\aC R N) (.obt (.ret (V.agg [D (gM H (A al G) R (A ao N) (aA (Pf Pb.toNat)) (aA (Ph Pb.toNat)) (aR (Ph Pb.toNat)) (bX (Ph Pb.toNat)) (jM Ps Pr Pz QQ QY QZ Qa Qb) (jP Ps Pr Pz QQ QY QZ Qa Qb) (jS Ps Pr Pz QQ QY QZ Qa Qb) (jT Ps Pr Pz QQ QY QZ Qa Qb) Qq),D (gJ H (A al G) R (A ao N) (aA (Pf Pb.toNat)) (aA (Ph Pb.toNat)) (aR (Ph Pb.toNat)) (bX (Ph Pb.toNat)) (jM Ps Pr Pz QQ QY QZ Qa Qb) (jP Ps Pr Pz QQ QY QZ Qa Qb) (jS Ps Pr Pz QQ QY QZ Qa Qb) (jT Ps Pr Pz QQ QY QZ Qa Qb) Qq)]))))))))
theorem nm7:cV cX (aQ JJ Jy u0 Bh [V.agg [V.sl H (A al G),V.sl R (A ao N),D O,V.sl n5 (A aZ q),V.sl n7 (A bj f7),V.sl n9 (A bm f9),V.sl PS (A aV At),V.sl Pi (A L Pf),V.sl Pm (A cg Ph),D Pb,V.str RL,D Ps,D Pr,D Py,D Pz,D QQ],V.agg [D QY,D QZ,D Qa,D Qb],D Qq]) (aa0 H G R N O n5 q n7 f7 n9 f9 PS At Pi Pf Pm Ph Pb RL Ps Pr Py Pz QQ QY QZ Qa Qb Qq):=bF
def vV (N Pf Ph:be) (i cx cy dx dy a b c d h:Int):Int:=jO H G R N (aA (Pf i.toNat)) (aA (Ph i.toNat)) (aR (Ph i.toNat)) (bX (Ph i.toNat)) (jM cx cy dx dy a b c d) (jP cx cy dx dy a b c d) (jS cx cy dx dy a b c d) (jT cx cy dx dy a b c d) h
def v8 (N Pf Ph:be) (i cx cy dx dy a b c d h:Int):Int:=jU H G R N (aA (Pf i.toNat)) (aA (Ph i.toNat)) (aR (Ph i.toNat)) (bX (Ph i.toNat)) (jM cx cy dx dy a b c d) (jP cx cy dx dy a b c d) (jS cx cy dx dy a b c d) (jT cx cy dx dy a b c d) h
theorem alI (H:Nat) (G:be) (R:Nat) (N:be) (O:Int) (n5:Nat) (q:be) (n7:Nat) (f7:be) (n9:Nat) (f9:be) (PS:Nat) (At:be) (Pi:Nat) (Pf:be) (Pm:Nat) (Ph:be) (Pb:Int) (RL:ByteArray) (Ps Pr Py Pz QQ QY QZ Qa Qb Qq:Int) (hp:(0<=Pb/\Pb<(Pi:Int))/\(0<=Pb/\Pb<(Pm:Int))/\(aC H (A al G)/\aC R (A ao N))/\Hd Pz QQ/\jV Ps/\jV Pr/\jV QY/\jV QZ/\jV Qa/\jV Qb):aU cN (aa0 H G R N O n5 q n7 f7 n9 f9 PS At Pi Pf Pm Ph Pb RL Ps Pr Py Pz QQ QY QZ Qa Qb Qq) (.agg [D (vV H (A al G) R (A ao N) (A L Pf) (A cg Ph) Pb Ps Pr Pz QQ QY QZ Qa Qb Qq),D (v8 H (A al G) R (A ao N) (A L Pf) (A cg Ph) Pb Ps Pr Pz QQ QY QZ Qa Qb Qq)]):=by obtain⟨h0,M,hz,hd,hc⟩:=hp;refine aF (AG h0) (aF (AG M) (aI ⟨hd,hc⟩ (ac (aI hz (ac ?_)))));rw[(hf4 ..).1,(hf4 ..).2.1];exact AF rfl
def aa4:aD:=bP [.agg [.sl al,.sl ao,tI,.sl aZ,.sl bj,.sl bm,.sl aV,.sl L,.sl cg,tI,.str,tI,tI,tI,tI,tI],.agg gP,tI] (λ
 |[.agg [.sl H G,.sl R N,.int _ O,.sl n5 q,.sl n7 f7,.sl n9 f9,.sl PS At,.sl Pi Pf,.sl Pm Ph,.int _ Pb,.str RL,.int _ Ps,.int _ Pr,.int _ Py,.int _ Pz,.int _ QQ],.agg [.int _ QY,.int _ QZ,.int _ Qa,.int _ Qb],.int _ Qq]=>(0<=Pb/\Pb<(Pi:Int))/\(0<=Pb/\Pb<(Pm:Int))/\(aC H G/\aC R N)/\Hd Pz QQ/\jV Ps/\jV Pr/\jV QY/\jV QZ/\jV Qa/\jV Qb|_=>False) λ
 |[.agg [.sl H G,.sl R N,.int _ O,.sl n5 q,.sl n7 f7,.sl n9 f9,.sl PS At,.sl Pi Pf,.sl Pm Ph,.int _ Pb,.str RL,.int _ Ps,.int _ Pr,.int _ Py,.int _ Pz,.int _ QQ],.agg [.int _ QY,.int _ QZ,.int _ Qa,.int _ Qb],.int _ Qq]=>.agg [D (vV H G R N Pf Ph Pb Ps Pr Pz QQ QY QZ Qa Qb Qq),D (v8 H G R N Pf Ph Pb Ps Pr Pz QQ QY QZ Qa Qb Qq)]|_=>.any
theorem agt:b7 aa4 27:=aT HA λ_ hp=>c7 (nm7 ..) (alI _ _ _ _ _ _ _ _ _ _ _ _ _ _ _ _ _ _ _ _ _ _ _ _ _ _ _ _ _ hp)
def aa3:RT Empty:=dm (O,n5,q,n7,f7,n9,f9) (.ob (dI Pb Pi) (.ob (dI Pb Pm) (.ob (dI Pb PS) (.obp ((dE (E ((1000000:Int)*E (E (cq (At Pb.toNat)*cq (At Pb.toNat))+E (bG (At Pb.toNat)*bG (At Pb.toNat)))))=(0:Int)->False)/\(dW (E ((1000000:Int)*E (E (cq (At Pb.toNat)*cq (At Pb.toNat))+E (bG (At Pb.toNat)*bG (At Pb.toNat)))))=(0:Int)->False)) (.obt (.obp ((aC H G)/\aC R N) (.obt (.ret (V.agg [D (jO H (A al G) R (A ao N) (aA (Pf Pb.toNat)) (aA (Ph Pb.toNat)) (aR (Ph Pb.toNat)) (bX (Ph Pb.toNat)) (jM (aR (At Pb.toNat)) (bX (At Pb.toNat)) (cq (At Pb.toNat)) (bG (At Pb.toNat)) Pw Ps Pr Py) (jP (aR (At Pb.toNat)) (bX (At Pb.toNat)) (cq (At Pb.toNat)) (bG (At Pb.toNat)) Pw Ps Pr Py) (jS (aR (At Pb.toNat)) (bX (At Pb.toNat)) (cq (At Pb.toNat)) (bG (At Pb.toNat)) Pw Ps Pr Py) (jT (aR (At Pb.toNat)) (bX (At Pb.toNat)) (cq (At Pb.toNat)) (bG (At Pb.toNat)) Pw Ps Pr Py) Pz),D (jU H (A al G) R (A ao N) (aA (Pf Pb.toNat)) (aA (Ph Pb.toNat)) (aR (Ph Pb.toNat)) (bX (Ph Pb.toNat)) (jM (aR (At Pb.toNat)) (bX (At Pb.toNat)) (cq (At Pb.toNat)) (bG (At Pb.toNat)) Pw Ps Pr Py) (jP (aR (At Pb.toNat)) (bX (At Pb.toNat)) (cq (At Pb.toNat)) (bG (At Pb.toNat)) Pw Ps Pr Py) (jS (aR (At Pb.toNat)) (bX (At Pb.toNat)) (cq (At Pb.toNat)) (bG (At Pb.toNat)) Pw Ps Pr Py) (jT (aR (At Pb.toNat)) (bX (At Pb.toNat)) (cq (At Pb.toNat)) (bG (At Pb.toNat)) Pw Ps Pr Py) Pz)])))))))))
theorem jcg:cV cX (aQ JJ Jy u0 aju [V.agg [V.sl H (A al G),V.sl R (A ao N),D O,V.sl n5 (A aZ q),V.sl n7 (A bj f7),V.sl n9 (A bm f9),V.sl PS (A aV At),V.sl Pi (A L Pf),V.sl Pm (A cg Ph)],D Pb,V.agg [D Pw,D Ps,D Pr,D Py],D Pz]) (aa3 H G R N O n5 q n7 f7 n9 f9 PS At Pi Pf Pm Ph Pb Pw Ps Pr Py Pz):=bF
theorem ah1 (H:Nat) (G:be) (R:Nat) (N:be) (O:Int) (n5:Nat) (q:be) (n7:Nat) (f7:be) (n9:Nat) (f9:be) (PS:Nat) (At:be) (Pi:Nat) (Pf:be) (Pm:Nat) (Ph:be) (Pb Pw Ps Pr Py Pz:Int) (hp:(0<=Pb/\Pb<(Pi:Int))/\(0<=Pb/\Pb<(Pm:Int))/\(0<=Pb/\Pb<(PS:Int))/\(aC H (A al G)/\aC R (A ao N))/\Kz (E (E (cq (((A aV At) Pb.toNat))*cq (((A aV At) Pb.toNat)))+E (bG (((A aV At) Pb.toNat))*bG (((A aV At) Pb.toNat)))))):aU cN (aa3 H G R N O n5 q n7 f7 n9 f9 PS At Pi Pf Pm Ph Pb Pw Ps Pr Py Pz) (.agg [D (vV H (A al G) R (A ao N) (A L Pf) (A cg Ph) Pb (aR (((A aV At) Pb.toNat))) (bX (((A aV At) Pb.toNat))) (cq (((A aV At) Pb.toNat))) (bG (((A aV At) Pb.toNat))) Pw Ps Pr Py Pz),D (v8 H (A al G) R (A ao N) (A L Pf) (A cg Ph) Pb (aR (((A aV At) Pb.toNat))) (bX (((A aV At) Pb.toNat))) (cq (((A aV At) Pb.toNat))) (bG (((A aV At) Pb.toNat))) Pw Ps Pr Py Pz)]):=by obtain⟨h0,M,Q,hz,hr⟩:=hp;exact aF (AG h0) (aF (AG M) (aF (AG Q) (aI hr (ac (aI hz (ac (AF rfl)))))))
def aa9:aD:=bP [.agg [.sl al,.sl ao,tI,.sl aZ,.sl bj,.sl bm,.sl aV,.sl L,.sl cg],tI,.agg gP,tI] (λ
 |[.agg [.sl H G,.sl R N,.int _ O,.sl n5 q,.sl n7 f7,.sl n9 f9,.sl PS At,.sl Pi Pf,.sl Pm Ph],.int _ Pb,.agg [.int _ Pw,.int _ Ps,.int _ Pr,.int _ Py],.int _ Pz]=>(0<=Pb/\Pb<(Pi:Int))/\(0<=Pb/\Pb<(Pm:Int))/\(0<=Pb/\Pb<(PS:Int))/\(aC H G/\aC R N)/\Kz (E (E (cq ((At Pb.toNat))*cq ((At Pb.toNat)))+E (bG ((At Pb.toNat))*bG ((At Pb.toNat)))))|_=>False) λ
 |[.agg [.sl H G,.sl R N,.int _ O,.sl n5 q,.sl n7 f7,.sl n9 f9,.sl PS At,.sl Pi Pf,.sl Pm Ph],.int _ Pb,.agg [.int _ Pw,.int _ Ps,.int _ Pr,.int _ Py],.int _ Pz]=>.agg [D (vV H G R N Pf Ph Pb (aR ((At Pb.toNat))) (bX ((At Pb.toNat))) (cq ((At Pb.toNat))) (bG ((At Pb.toNat))) Pw Ps Pr Py Pz),D (v8 H G R N Pf Ph Pb (aR ((At Pb.toNat))) (bX ((At Pb.toNat))) (cq ((At Pb.toNat))) (bG ((At Pb.toNat))) Pw Ps Pr Py Pz)]|_=>.any
theorem ah4:b7 aa9 36:=aT HA λ_ hp=>c7 (jcg ..) (ah1 _ _ _ _ _ _ _ _ _ _ _ _ _ _ _ _ _ _ _ _ _ _ _ hp)
def azA (cx cy h vx vy dx dy:Int):Prop:=(-100000<=cx/\cx<=100000)/\(-100000<=cy/\cy<=100000)/\(1<=h/\h<=200)/\(-100000<=vx/\vx<=100000)/\(-100000<=vy/\vy<=100000)/\Hd dx dy
theorem asC:dS=fq:=rfl
theorem asH:eV=gK:=rfl
theorem azc {a b:Int} {QG B:Nat} (h:a.natAbs<=QG) (k:b.natAbs<=B):(a*b).natAbs<=QG*B:=by rw[Int.natAbs_mul];exact Ei h k
section
variable {cx cy h vx vy dx dy:Int} (o:azA cx cy h vx vy dx dy)
include o
end
end
noncomputable section
def zW (p:Nat->Bool) (v:Nat->Int):Nat->Int
 |0=>0|k+1=>bif p k then E (zW p v k+v k) else zW p v k
theorem ug {p:Nat->Bool} {v:Nat->Int} {k:Nat} (h:p k=true):zW p v (k+1)=E (zW p v k+v k):=by show(bif p k then _ else _)=_;rw[h];rfl
theorem uF {p:Nat->Bool} {v:Nat->Int} {k:Nat} (h:p k=false):zW p v (k+1)=zW p v k:=by show(bif p k then _ else _)=_;rw[h];rfl
def UG (i:Nat):Bool:=decide (0<=aA (Pf i))
end
noncomputable section
theorem rP {e z a b:Int} (h:e=z) (h0:z≠0):dj (V.tup [V.agg [D 0,D 0],D z])=dj (V.tup [V.agg [D (zJ e a),D (zJ e b)],D e]):=by subst h;unfold zJ;rw[show(e==0)=false from by simpa using h0];rfl
theorem xE {x:Int} (h:(x !=0)=true):x≠0:=by simpa using h
theorem Nv {x:Int} (h:(x==0)=false):x≠0:=by simpa using h
theorem abw {e a b:Int} (h:e=0):dj (V.tup [V.agg [D a,D b],D 0])=dj (V.tup [V.agg [D (zJ e a),D (zJ e b)],D e]):=by subst h;rfl
theorem qlo (a b:Int):qe a b=iw a b:=by unfold qe iw;show(bif bg a (-1000) 1000 then bif bg b (-1000) 1000 then !(a==0&&(b==0&&true)) else false else false)=_;rw[bne,bne];cases bg a (-1000) 1000<;>cases bg b (-1000) 1000<;>cases (a==0)<;>cases (b==0)<;>rfl
theorem aoL {a b:Int} (h:iw a b=true):Hd a b:=by
 unfold iw at h;cases M:bg a (-1000) 1000 with
 |false=>rw[M]at h;cases h
 |true=>
   rw[M]at h;cases Q:bg b (-1000) 1000 with
   |false=>rw[Q]at h;cases h
   |true=>
     rw[Q]at h;refine⟨wZ M,wZ Q,?_⟩;cases h3:a !=0 with
     |true=>exact .inl (by simpa using h3)
     |false=>rw[h3]at h;exact .inr (by simpa using(show(b !=0)=true from h))
theorem nf6 (x:Int):kU H G R N x=eu H G R N x:=by have c:bH H (A al G) R (A ao N)=bW H (A al G) R (A ao N):=congrArg (λp=>p.2.2) (nt H (A al G) R (A ao N));unfold kU eu;rw[c];rfl
theorem ybq {H:Nat} {G:be} {R:Nat} {N:be} {O:Int} (h:eu H G R N O=0) :
 (0<=O/\O<(H:Int))/\iJ (A al (A al G)) O.toNat=0:=by
 unfold eu at h;have e:bW H (A al G) R (A ao N)=0:=by
  by_cases e:bW H (A al G) R (A ao N)=0
  ·exact e
  ·have:(bW H (A al G) R (A ao N)==0)=false:=by simpa using e
   rw[this]at h;exact h
 have v:zi H (A al G) R (A ao N):=uE e;rw[e]at h;have hb:(!aG O 0 (E ((H:Int)-1)))=false:=by
  cases hh:(!aG O 0 (E ((H:Int)-1))) with
  |false=>rfl|true=>rw[hh]at h;cases h
 have l0:=v.l0;have r:=As (Ku K hb);exact⟨r,v.tb _ K⟩
def Dr (O a b c d h:Int):Int:=bif eu H G R N O==0 then dJ a b c d h else eu H G R N O
def xU (O a b c d h:Int):Int:=bif Dr H G R N O a b c d h==0 then JR (G O.toNat) a b c d h else 0
def xq (O a b c d h:Int):Int:=bif Dr H G R N O a b c d h==0 then Lm (G O.toNat) a b c d h else 0
theorem acC {H:Nat} {G:be} {R:Nat} {N:be} {O a b c d h:Int} (k:eu H G R N O≠0):Dr H G R N O a b c d h=eu H G R N O:=by unfold Dr;rw[show(eu H G R N O==0)=false from by simpa using k];rfl
theorem KJ {H:Nat} {G:be} {R:Nat} {N:be} {O a b c d h:Int} (k:eu H G R N O=0):Dr H G R N O a b c d h=dJ a b c d h:=by unfold Dr;rw[k];rfl
theorem BX {H:Nat} {G:be} {R:Nat} {N:be} {O a b c d h z:Int} (k:Dr H G R N O a b c d h=z) (k0:z≠0):dj (V.tup [V.agg [D 0,D 0],D z])=dj (V.tup [V.agg [D (xU H G R N O a b c d h),D (xq H G R N O a b c d h)],D (Dr H G R N O a b c d h)]):=by unfold xU xq;rw[k,show(z==0)=false from by simpa using k0];rfl
theorem aes {H:Nat} {G:be} {R:Nat} {N:be} {O a b c d h:Int} (k:Dr H G R N O a b c d h=0):dj (V.tup [V.agg [D (JR (G O.toNat) a b c d h),D (Lm (G O.toNat) a b c d h)],D 0])=dj (V.tup [V.agg [D (xU H G R N O a b c d h),D (xq H G R N O a b c d h)],D (Dr H G R N O a b c d h)]):=by unfold xU xq;rw[k];rfl
def JP:bo:=(25,.inl hdi u0)::(27,.con aa4)::(36,.con aa9)::Jy
theorem FW:ba Tryz.prog AQ AS JP:=iz Tryz.func25 bD (.con agt (.con ah4 (HA)))
def Cr:RT Empty:=.ob (dI O H) (.obp (aw (av (I (G O.toNat)))<=(1000:Nat)/\aw (av (I (I (G O.toNat))))<=(1000:Nat)) (.obt (.obp (((2:Nat)<=aw (av (I (G O.toNat)))/\aw (av (I (G O.toNat)))<=(1000:Nat))/\((2:Nat)<=aw (av (I (I (G O.toNat))))/\aw (av (I (I (G O.toNat))))<=(1000:Nat))/\aw (av (I (G O.toNat)))<=aw (av (I (I (I (G O.toNat)))))/\(∀(i:Nat),i<aw (av (I (I (I (G O.toNat)))))->aw (av (I (I (G O.toNat))))<=aw (av (bz (av (I (I (I (G O.toNat))))) i)))/\(∀(i:Nat),i+(1:Nat)<aw (av (I (G O.toNat)))->E (aA (dh (λi=>ap L (bz (av (I (G O.toNat))) i)) x9 (i+(1:Nat)))-aA (dh (λi=>ap L (bz (av (I (G O.toNat))) i)) x9 i))≠(0:Int))/\∀(i:Nat),i+(1:Nat)<aw (av (I (I (G O.toNat))))->E (aA (dh (λi=>ap L (bz (av (I (I (G O.toNat)))) i)) x9 (i+(1:Nat)))-aA (dh (λi=>ap L (bz (av (I (I (G O.toNat)))) i)) x9 i))≠(0:Int)) (.obt (.ret (V.tup [V.agg [D (iW (λi=>ap [Ty.sl L] (bz (av (I (I (I (G O.toNat))))) i)) (cq (G O.toNat)) (aw (av (I (G O.toNat)))) (A L (dh (λi=>ap L (bz (av (I (G O.toNat))) i)) x9)) (aw (av (I (I (G O.toNat))))) (A L (dh (λi=>ap L (bz (av (I (I (G O.toNat)))) i)) x9)) x5 x6 Z Y),D (iX (λi=>ap [Ty.sl L] (bz (av (I (I (I (G O.toNat))))) i)) (cq (G O.toNat)) (aw (av (I (G O.toNat)))) (A L (dh (λi=>ap L (bz (av (I (G O.toNat))) i)) x9)) (aw (av (I (I (G O.toNat))))) (A L (dh (λi=>ap L (bz (av (I (I (G O.toNat)))) i)) x9)) x5 x6 Z Y)],D 0]))))))
def NQ:RT Empty:=.obp (aC H (A al G)/\aC R (A ao N)) (.obt (.br (kU H (A al G) R (A ao N) O==0) (.cb (.br (fT x5 x6 Z Y x9 !=0) (.ret (V.tup [V.agg Au,D (fT x5 x6 Z Y x9)])) (Cr H G O x5 x6 Z Y x9))) (.br (kU H (A al G) R (A ao N) O !=0) (.ret (V.tup [V.agg Au,D (kU H (A al G) R (A ao N) O)])) (Cr H G O x5 x6 Z Y x9))))
theorem aas:cV cX (aQ JJ JP u0 hca [V.agg [V.sl H (A al G),V.sl R (A ao N)],D O,V.agg [D x5,D x6,D Z,D Y],D x9]) (NQ H G R N O x5 x6 Z Y x9):=bF
theorem alq (hp:aC H (A al G)/\aC R (A ao N)):aU cN (NQ H G R N O x5 x6 Z Y x9) (.tup [.agg [D (xU H (A al G) R (A ao N) O x5 x6 Z Y x9),D (xq H (A al G) R (A ao N) O x5 x6 Z Y x9)],D (Dr H (A al G) R (A ao N) O x5 x6 Z Y x9)]):=by
 have L1:eu H (A al G) R (A ao N) O=0->dJ x5 x6 Z Y x9=0->aU cN (Cr H G O x5 x6 Z Y x9) (.tup [.agg [D (xU H (A al G) R (A ao N) O x5 x6 Z Y x9),D (xq H (A al G) R (A ao N) O x5 x6 Z Y x9)],D (Dr H (A al G) R (A ao N) O x5 x6 Z Y x9)]):=λh0 hr=>by have ht:Dr H (A al G) R (A ao N) O x5 x6 Z Y x9=0:=(KJ h0).trans hr;have hb:=ybq h0;have w:=hb.2;rw[zw]at w;have t:=BE w;have u:=Qy w;have r:=N7 hr;have vw:=at9 (Pu:=x9) t u.1 u.2 r.1;refine aF (AG hb.1) (aI ⟨vw.1.2,vw.2.1.2⟩ (ac (aI vw (ac (AF ?_)))));have PX:=avK t u.1 u.2 r.1 r.2.1 r.2.2.1 r.2.2.2.1 r.2.2.2.2;show dj (V.tup [V.agg [D (RN (A al G O.toNat) x5 x6 Z Y x9),D (Px (A al G O.toNat) x5 x6 Z Y x9)],D 0])=_;rw[PX.1,PX.2];exact aes ht
 unfold NQ;rw[nf6,B4];refine aI hp (ac (AP (λh=>AM (ac (AP (λQ=>?_) (λQ=>L1 (DU h) (pU Q))))) (λh=>AP (λQ=>?_) (λQ=>?_))))
 ·exact AF (BX (KJ (DU h)) (xE Q))
 ·exact AF (BX (acC (xE Q)) (xE Q))
 ·exact absurd (pU Q) (Nv h)
def abD:aD:=bP [.agg [.sl al,.sl ao],tI,.agg gP,tI] (λ
 |[.agg [.sl H G,.sl R N],.int _ O,.agg [.int _ x5,.int _ x6,.int _ Z,.int _ Y],.int _ x9]=>aC H G/\aC R N|_=>False) λ
 |[.agg [.sl H G,.sl R N],.int _ O,.agg [.int _ x5,.int _ x6,.int _ Z,.int _ Y],.int _ x9]=>.tup [.agg [D (xU H G R N O x5 x6 Z Y x9),D (xq H G R N O x5 x6 Z Y x9)],D (Dr H G R N O x5 x6 Z Y x9)]|_=>.any
theorem ah3:b7 abD 45:=aT FW λ_ hp=>c7 (aas ..) (alq _ _ _ _ _ _ _ _ _ _ hp)
def BZ:RT Empty:=.ob (dI O H) (.obp (((2:Nat)<=aw (av (I (G O.toNat)))/\aw (av (I (G O.toNat)))<=(1000:Nat))/\((2:Nat)<=aw (av (I (I (G O.toNat))))/\aw (av (I (I (G O.toNat))))<=(1000:Nat))/\aw (av (I (G O.toNat)))<=aw (av (I (I (I (G O.toNat)))))/\(∀(i:Nat),i<aw (av (I (I (I (G O.toNat)))))->aw (av (I (I (G O.toNat))))<=aw (av (bz (av (I (I (I (G O.toNat))))) i)))/\(∀(i:Nat),i+(1:Nat)<aw (av (I (G O.toNat)))->E (E (aA (bz (av (I (G O.toNat))) (i+(1:Nat)))-aA (bz (av (I (G O.toNat))) i))*x9)≠(0:Int))/\∀(i:Nat),i+(1:Nat)<aw (av (I (I (G O.toNat))))->E (E (aA (bz (av (I (I (G O.toNat)))) (i+(1:Nat)))-aA (bz (av (I (I (G O.toNat)))) i))*x9)≠(0:Int)) (.obt (.ret (V.tup [V.agg [D (iY (aw (av (I (G O.toNat)))) (λi=>ap L (bz (av (I (G O.toNat))) i)) (aw (av (I (I (G O.toNat))))) (λi=>ap L (bz (av (I (I (G O.toNat)))) i)) (λi=>ap [Ty.sl L] (bz (av (I (I (I (G O.toNat))))) i)) (cq (G O.toNat)) x5 x6 Z Y x9),D (jh (aw (av (I (G O.toNat)))) (λi=>ap L (bz (av (I (G O.toNat))) i)) (aw (av (I (I (G O.toNat))))) (λi=>ap L (bz (av (I (I (G O.toNat)))) i)) (λi=>ap [Ty.sl L] (bz (av (I (I (I (G O.toNat))))) i)) (cq (G O.toNat)) x5 x6 Z Y x9)],D 0]))))
def acj:RT Empty:=.obp (aC H (A al G)/\aC R (A ao N)) (.obt (.br (eu H (A al G) R (A ao N) O==0) (.cb (.br (dJ x5 x6 Z Y x9 !=0) (.ret (V.tup [V.agg Au,D (dJ x5 x6 Z Y x9)])) (BZ H G O x5 x6 Z Y x9))) (.br (eu H (A al G) R (A ao N) O !=0) (.ret (V.tup [V.agg Au,D (eu H (A al G) R (A ao N) O)])) (BZ H G O x5 x6 Z Y x9))))
theorem yac:cV cX (aQ JJ JP u0 ahZ [V.agg [V.sl H (A al G),V.sl R (A ao N)],D O,V.agg [D x5,D x6,D Z,D Y],D x9]) (acj H G R N O x5 x6 Z Y x9):=bF
theorem alv (hp:aC H (A al G)/\aC R (A ao N)):aU cN (acj H G R N O x5 x6 Z Y x9) (.tup [.agg [D (xU H (A al G) R (A ao N) O x5 x6 Z Y x9),D (xq H (A al G) R (A ao N) O x5 x6 Z Y x9)],D (Dr H (A al G) R (A ao N) O x5 x6 Z Y x9)]):=by
 have L1:eu H (A al G) R (A ao N) O=0->dJ x5 x6 Z Y x9=0->aU cN (BZ H G O x5 x6 Z Y x9) (.tup [.agg [D (xU H (A al G) R (A ao N) O x5 x6 Z Y x9),D (xq H (A al G) R (A ao N) O x5 x6 Z Y x9)],D (Dr H (A al G) R (A ao N) O x5 x6 Z Y x9)]):=λh0 hr=>by have ht:Dr H (A al G) R (A ao N) O x5 x6 Z Y x9=0:=(KJ h0).trans hr;have hb:=ybq h0;have w:=hb.2;rw[zw]at w;have t:=BE w;have u:=Qy w;have r:=N7 hr;have vw:=aog (Pu:=x9) t u.1 u.2 r.1;exact aF (AG hb.1) (aI vw (ac (AF (aes ht))))
 skip
 refine aI hp (ac (AP (λh=>AM (ac (AP (λQ=>?_) (λQ=>L1 (DU h) (pU Q))))) (λh=>AP (λQ=>?_) (λQ=>?_))))
 ·exact AF (BX (KJ (DU h)) (xE Q))
 ·exact AF (BX (acC (xE Q)) (xE Q))
 ·exact absurd (pU Q) (Nv h)
def ab0:aD:=bP [.agg [.sl al,.sl ao],tI,.agg gP,tI] (λ
 |[.agg [.sl H G,.sl R N],.int _ O,.agg [.int _ x5,.int _ x6,.int _ Z,.int _ Y],.int _ x9]=>aC H G/\aC R N|_=>False) λ
 |[.agg [.sl H G,.sl R N],.int _ O,.agg [.int _ x5,.int _ x6,.int _ Z,.int _ Y],.int _ x9]=>.tup [.agg [D (xU H G R N O x5 x6 Z Y x9),D (xq H G R N O x5 x6 Z Y x9)],D (Dr H G R N O x5 x6 Z Y x9)]|_=>.any
theorem al9:b7 ab0 74:=aT FW λ_ hp=>c7 (yac ..) (alv _ _ _ _ _ _ _ _ _ _ hp)
end
noncomputable section
def D7:bo:=NO
theorem CY:ba Tryz.prog AQ AS D7:=NE
def arJ:RT Empty:=.br (T !=W) (.ret (D (E (T-W)))) (.ret (D (E (S-U))))
theorem afY:cV cX (aQ JJ D7 u0 ard [V.agg [D T,D S],V.agg [D W,D U]]) (arJ T S W U):=bF
def rN:Int:=bif T !=W then E (T-W) else E (S-U)
def YE:V:=D (rN T S W U)
theorem aol:aU cN (arJ T S W U) (YE T S W U):=AP (λh0=>AF (by unfold YE rN;try rw[h0];rfl)) (λh0=>AF (by unfold YE rN;try rw[h0];rfl))
def asr:aD:=bP [.agg aM,.agg aM] (λ_=>True) λ|[.agg [.int _ T,.int _ S],.agg [.int _ W,.int _ U]]=>YE T S W U|_=>.any
theorem aoT:b7 asr 199:=aT CY λ_ hp=>c7 (afY ..) (aol _ _ _ _)
def m49:RT Empty:=.obi (.br (!b8) (.ob (!b8) (.ob (!b8) (.ob (!b8) (.cb (.cb (.cb (.ret (V.bool (kx (ck T W x9 U) (cm S W PV U) (ck T W x9 O) (cm S W PV O) x5 x6 Z))))))))) (.ret (V.kb false)))
theorem auO:cV cX (aQ JJ D7 u0 azd [V.agg [D T,D S,D W,D U,D O,D x5,D x6,D Z,V.bool b8],V.agg [D x9,D PV]]) (m49 T S W U O x5 x6 Z b8 x9 PV):=bF
def y4:Bool:=bif !b8 then kx (ck T W x9 U) (cm S W PV U) (ck T W x9 O) (cm S W PV O) x5 x6 Z else false
def KN:V:=.bool (y4 T S W U O x5 x6 Z b8 x9 PV)
theorem awM:aU cN (m49 T S W U O x5 x6 Z b8 x9 PV) (KN T S W U O x5 x6 Z b8 x9 PV):=AE (AP (λh0=>aF (by first|assumption|(fail)) (aF (by first|assumption|(fail)) (aF (by first|assumption|(fail)) (AM (ac (AM (ac (AM (ac (AF (by unfold KN y4;try rw[h0];rfl))))))))))) (λh0=>AF (by unfold KN y4;try rw[h0];rfl)))
def C49:aD:=bP [.agg [tI,tI,tI,tI,tI,tI,tI,tI,.bool],.agg aM] (λ_=>True) λ|[.agg [.int _ T,.int _ S,.int _ W,.int _ U,.int _ O,.int _ x5,.int _ x6,.int _ Z,.bool b8],.agg [.int _ x9,.int _ PV]]=>KN T S W U O x5 x6 Z b8 x9 PV|_=>.any
theorem awd:b7 C49 104:=aT CY λ_ hp=>c7 (auO ..) (awM _ _ _ _ _ _ _ _ _ _ _)
def m52:RT Empty:=dm (s0,O,x5) (.cb (.cb (.br (fN U x9) (.ob (fN U x9) (.ob (fN U x9) (.ob (fN U x9) (.cb (.cb (.ob (fN U x9) (.cb (.ret (V.bool (lF (cH U x6) (cI U Z) (eE S U PT (cG U PV)) (ep W U PZ (cG U PV)) (eE S U PT (cJ U x9)) (ep W U PZ (cJ U x9)) (Cg U Y))))))))))) (.ret (V.kb false)))))
theorem arI:cV cX (aQ JJ D7 u0 ayH [V.agg [V.str s0,D S,D W,D U,D O,D x5],V.agg [D x6,D Z,D Y,D x9,D PV],V.agg [D PT,D PZ]]) (m52 s0 S W U O x5 x6 Z Y x9 PV PT PZ):=bF
def fh:Bool:=bif fN U x9 then lF (cH U x6) (cI U Z) (eE S U PT (cG U PV)) (ep W U PZ (cG U PV)) (eE S U PT (cJ U x9)) (ep W U PZ (cJ U x9)) (Cg U Y) else false
def KR:V:=dm (s0,O,x5) (.bool (fh S W U x6 Z Y x9 PV PT PZ))
theorem awW:aU cN (m52 s0 S W U O x5 x6 Z Y x9 PV PT PZ) (KR s0 S W U O x5 x6 Z Y x9 PV PT PZ):=AM (ac (AM (ac (AP (λh0=>aF (by first|assumption|(fail)) (aF (by first|assumption|(fail)) (aF (by first|assumption|(fail)) (AM (ac (AM (ac (aF (by first|assumption|(fail)) (AM (ac (AF (by unfold KR fh;try rw[h0];rfl)))))))))))) (λh0=>AF (by unfold KR fh;try rw[h0];rfl))))))
def C52:aD:=bP [.agg aV,.agg bj,.agg aM] (λ_=>True) λ|[.agg [.str s0,.int _ S,.int _ W,.int _ U,.int _ O,.int _ x5],.agg [.int _ x6,.int _ Z,.int _ Y,.int _ x9,.int _ PV],.agg [.int _ PT,.int _ PZ]]=>KR s0 S W U O x5 x6 Z Y x9 PV PT PZ|_=>.any
theorem azx:b7 C52 120:=aT CY λ_ hp=>c7 (arI ..) (awW _ _ _ _ _ _ _ _ _ _ _ _ _)
def fz15:l7:=λ_=>5
def Gb:bo:=(199,.con asr)::(104,.con C49)::(120,.con C52)::D7
theorem arZ:ba Tryz.prog AQ AS Gb:=.con aoT (.con awd (.con azx (CY)))
def m56:RT Empty:=.cb (.ret (V.bool !y4 W U O x5 x6 Z Y x9 Qx T S))
theorem aoi:cV cX (aQ JJ Gb u0 azT [V.agg [D T,D S],V.pd [D W,D U,D O,D x5,D x6,D Z,D Y,D x9,V.bool Qx]]) (m56 T S W U O x5 x6 Z Y x9 Qx):=bF
def HY:Bool:=!y4 W U O x5 x6 Z Y x9 Qx T S
def Ll:V:=.bool (HY T S W U O x5 x6 Z Y x9 Qx)
theorem azz:aU cN (m56 T S W U O x5 x6 Z Y x9 Qx) (Ll T S W U O x5 x6 Z Y x9 Qx):=AM (ac (AF (by unfold Ll HY;rfl)))
def C56:aD:=bP [.agg aM,.pd [tI,tI,tI,tI,tI,tI,tI,tI,.bool]] (λ_=>True) λ|[.agg [.int _ T,.int _ S],.pd [.int _ W,.int _ U,.int _ O,.int _ x5,.int _ x6,.int _ Z,.int _ Y,.int _ x9,.bool Qx]]=>Ll T S W U O x5 x6 Z Y x9 Qx|_=>.any
theorem aza:b7 C56 103:=aT arZ λ_ hp=>c7 (aoi ..) (azz _ _ _ _ _ _ _ _ _ _ _)
end
end Go.Dx
namespace Go.Dx
open Go.IntKind (i64 u64 u8)
open Go.Sx Go.Proofs
variable (H:Nat) (G:be) (W U O x5 x6 Z Y x9:Int) (Qx:Bool)
noncomputable section
def Ca:bo:=(103,.con C56)::Gb
theorem akj:ba Tryz.prog AQ AS Ca:=.con aza (arZ)
inductive EL where|L0 (_:Int)
def ags:EL->bT×List AD×Option Ex
 |.L0 PW=>([(8,D PW),(7,D (H:Int)),(6,V.sl H (A aM G)),(4,D 0),(0,V.sl H (A aM G)),(1,V.fn 103 [] [V.pd [D W,D U,D O,D x5,D x6,D Z,D Y,D x9,V.bool Qx]])],[],none)
def arm:EL->JJ
 |.L0 _=>(0,[])
def adN:AN (cr JJ):=aQ JJ Ca u0 apc [V.sl H (A aM G),V.fn 103 [] [V.pd [D W,D U,D O,D x5,D x6,D Z,D Y,D x9,V.bool Qx]]]
def avX (cx:List Cx):Lp JJ:=eX (eC (adN H G W U O x5 x6 Z Y x9 Qx) [])
def atQ:JJ->Lp JJ
 |(0,cx)=>avX H G W U O x5 x6 Z Y x9 Qx cx|(_,cx)=>avX H G W U O x5 x6 Z Y x9 Qx cx
def axR:LD JJ EL:=⟨arm,atQ H G W U O x5 x6 Z Y x9 Qx,ags H G W U O x5 x6 Z Y x9 Qx⟩
def Qc:EL->RT EL
 |.L0 PW=>.br (decide (PW<(H:Int))) (.ob (decide (0<=PW/\PW<(H:Int))) (.cb (.br (HY (aA (G PW.toNat)) (aR (G PW.toNat)) W U O x5 x6 Z Y x9 Qx) (.ret (D PW)) (.next [] (EL.L0 (E (PW+1))) [])))) (.ret (D (-1)))
def NP:RT EL:=dm (G,W,U,O,x5,x6,Z,Y,x9,Qx) (.am H (.enter [] (EL.L0 0) []))
theorem aiw:d0 Ca u0 (axR H G W U O x5 x6 Z Y x9 Qx) (adN H G W U O x5 x6 Z Y x9 Qx) (NP H G W U O x5 x6 Z Y x9 Qx) (Qc H G W U O x5 x6 Z Y x9 Qx):=⟨bF,λs=>by cases s<;>exact bF⟩
def MG:Int  :=zO H λii=>HY (aA (G ii)) (aR (G ii)) W U O x5 x6 Z Y x9 Qx
theorem nu2:aU (Ev (Qc H G W U O x5 x6 Z Y x9 Qx)) (NP H G W U O x5 x6 Z Y x9 Qx) (D (MG H G W U O x5 x6 Z Y x9 Qx)):=bC λhn=>aH (pN hn λi=>rfl)
theorem atz:aU (Ev (Qc H G W U O x5 x6 Z Y x9 Qx)) (NP H G W U O x5 x6 Z Y x9 Qx) (D (MG H (A aM G) W U O x5 x6 Z Y x9 Qx)):=nu2 H G W U O x5 x6 Z Y x9 Qx
def au4:aD:=bP [.sl aM,.fn 103 [] [.pd [tI,tI,tI,tI,tI,tI,tI,tI,.bool]]] (λ_=>True) λ|[.sl H G,.fn _ [] [.pd [.int _ W,.int _ U,.int _ O,.int _ x5,.int _ x6,.int _ Z,.int _ Y,.int _ x9,.bool Qx]]]=>D (MG H G W U O x5 x6 Z Y x9 Qx)|_=>.any
theorem arV:b7 au4 154:=aT akj λ_ hp=>kt (aiw ..) (atz _ _ _ _ _ _ _ _ _ _ _)
def Aw:bo:=(154,.con au4)::(242,.inl ark u0)::Ca
theorem HO:ba Tryz.prog AQ AS Aw:=.con arV (iz Tryz.func242 bD (akj))
def m55:RT Empty:=.cb (.ret (V.bool (decide (0<=MG H (A aM G) W U O x5 x6 Z Y x9 Qx))))
theorem aud:cV cX (aQ JJ Aw u0 axF [V.sl H (A aM G),V.fn 103 [] [V.pd [D W,D U,D O,D x5,D x6,D Z,D Y,D x9,V.bool Qx]]]) (m55 H G W U O x5 x6 Z Y x9 Qx):=bF
def KI:Bool:=decide (0<=MG H (A aM G) W U O x5 x6 Z Y x9 Qx)
def Lk:V:=.bool (KI H G W U O x5 x6 Z Y x9 Qx)
theorem ayO:aU cN (m55 H G W U O x5 x6 Z Y x9 Qx) (Lk H G W U O x5 x6 Z Y x9 Qx):=AM (ac (AF (by unfold Lk KI;rfl)))
def C55:aD:=bP [.sl aM,.fn 103 [] [.pd [tI,tI,tI,tI,tI,tI,tI,tI,.bool]]] (λ_=>True) λ|[.sl H G,.fn _ [] [.pd [.int _ W,.int _ U,.int _ O,.int _ x5,.int _ x6,.int _ Z,.int _ Y,.int _ x9,.bool Qx]]]=>Lk H G W U O x5 x6 Z Y x9 Qx|_=>.any
theorem azo:b7 C55 102:=aT HO λ_ hp=>c7 (aud ..) (ayO _ _ _ _ _ _ _ _ _ _ _)
def aqw:List V->Prop
 |[.int _ x]=>x=8|_=>False
def ayP:aD:=bP [.int .u64] aqw λ_=>D 4
theorem ayd {w0:World}:bU (dM w0 (SV Aw)) (aQ JJ Aw u0 ybi [.int .u64 8]) (rz (D 4)):=zG bD
theorem asR:(vP ayP).Ok Tryz.prog 226:=Ot (un:=u0) HO Tryz.func226 bD λds hp=>by have SU:aA ds=8:=hp;intro hd w0;show bU _ (aQ JJ Aw u0 ybi [.int .u64 (aA ds)]) _;rw[SU];exact ayd
def aq8:List V->Bool
 |[.int _ x]=>decide (x=8)|_=>false
def ada:aD:=sj [.int .u64] aq8 λ_=>D 4
theorem ae9:(vP ada).Ok Tryz.prog 226:=mO (pre:=aqw) (λds h=>by
 unfold aq8 at h;split at h
 ·rename_i x;exact(show x=8 from As h)
 ·cases h) asR
end
end Go.Dx
namespace Go.Dx
noncomputable section
theorem aej {ts:List Ty} (h:ts.all cD=true) {n:Nat} {p:Nat->Bool} {ds:List V} {f:be} (M:yt ts n f) (hf:mG [] (ap ts ds) ds=ap ts ds):yt ts n λi=>cond (p i) ds (f i):=λi hi=>by
 show nX _ (ap ts (cond (p i) ds (f i)))=true/\fK [] (cond (p i) ds (f i)) (ap ts (cond (p i) ds (f i)));cases p i with
 |true=>exact⟨lc h _,gX _ _ hf⟩|false=>exact M i hi
end
end Go.Dx
namespace Go.Dx
open Go.IntKind (i64 u64 u8)
open Go.Sx
noncomputable section
theorem kf {x:Int} (M:0<=x) (Q:x<18446744073709551616):u64.wrap x=x:=IntWalk.u64_in _ K
theorem mX {x y QG B:Int} (M:-QG<=x) (Q:x<=QG) (h3:-B<=y) (h4:y<=B):-(QG*B)<=x*y/\x*y<=QG*B:=by
 have hA:0<=QG:=by omega
 have hB:0<=B:=by omega
 by_cases hy:0<=y
 ·have a1:x*y<=QG*y:=Eo Q hy;have a2:QG*y<=QG*B:=IM h4 hA;have a3:-QG*y<=x*y:=Eo M hy;rw[Int.neg_mul]at a3;exact⟨K,K⟩
 ·have hy':0<=-y:=by omega
  have a1:x*(-y)<=QG*(-y):=Eo Q hy';have a2:QG*(-y)<=QG*B:=IM K hA;have a3:-QG*(-y)<=x*(-y):=Eo M hy';have b1:x*(-y)=-(x*y):=Int.mul_neg _ _;have b3:-QG*(-y)=-(QG*(-y)):=Int.neg_mul _ _;exact⟨K,K⟩
theorem JM (x:Int):0<=x*x:=by
 by_cases h:0<=x
 ·exact mP h h
 ·rw[← Int.neg_mul_neg];exact mP K K
theorem parts {x:Int} (h0:0<=x) (M:x<18446744073709551616):0<=x / 4294967296/\x / 4294967296<=4294967295/\0<=x % 4294967296/\x % 4294967296<=4294967295:=by omega
theorem auB {x y:Int} (UQ:0<=x) (hx:x<18446744073709551616) (SZ:0<=y) (hy:y<18446744073709551616):uS x y=x*y / 18446744073709551616:=by rw[← mul64_arith x y UQ hx SZ hy];unfold uS;simp only[and_low32 _ UQ hx,and_low32 _ SZ hy,IntKind.wrap_u64];rw[and_low32 _ K K];simp only[show(2:Int) ^ 32=4294967296 from rfl];rw[Io _ K,Io _ K,Io _ K,Io _ K,Io _ K]
theorem arR (x y:Int):u9 x y=x*y % 18446744073709551616:=by unfold u9;rw[IntKind.wrap_u64]
theorem Bu {x y:Int} (UQ:0<=x) (hx:x<18446744073709551616) (SZ:0<=y) (hy:y<18446744073709551616):mU x y=x*y / 18446744073709551616/\mZ x y=x*y % 18446744073709551616:=by
 unfold mU mZ;rw[kf UQ hx,kf SZ hy];rw[I4 UQ,I4 SZ,Kh UQ,Kh SZ];have ex:x=x / 4294967296*4294967296+x % 4294967296:=by omega
 have ey:y=y / 4294967296*4294967296+y % 4294967296:=by omega
 generalize izb26:x / 4294967296=S at *
 generalize hx0':x % 4294967296=T at *
 generalize nza12:y / 4294967296=y1 at *
 generalize hy0':y % 4294967296=y0 at *
 have b1:0<=S/\S<=4294967295:=by omega
 have b2:0<=T/\T<=4294967295:=by omega
 have b3:0<=y1/\y1<=4294967295:=by omega
 have b4:0<=y0/\y0<=4294967295:=by omega
 have nza23:=prod_bound S y1 b1.1 b1.2 b3.1 b3.2;have nzb13:=prod_bound S y0 b1.1 b1.2 b4.1 b4.2;have nzb15:=prod_bound T y0 b2.1 b2.2 b4.1 b4.2;have nzb16:=prod_bound T y1 b2.1 b2.2 b3.1 b3.2;have ny10:x*y=S*y1*18446744073709551616+(S*y0+T*y1)*4294967296+T*y0:=by rw[ex,ey];exact split_mul S T y1 y0
 rw[ny10];rw[kf b1.1 K,kf b3.1 K];generalize S*y1=QG at *
 generalize S*y0=B at *
 generalize T*y0=C at *
 generalize T*y1=AI at *
 rw[kf (x:=QG) K K,kf (x:=B) K K,kf (x:=C) K K,kf (x:=AI) K K];rw[I4 (a:=C) K,Kh (a:=C) K];rw[kf (x:=C / 4294967296) K K];rw[kf (x:=B+C / 4294967296) K K];rw[I4 (a:=B+C / 4294967296) K,Kh (a:=B+C / 4294967296) K];rw[kf (x:=(B+C / 4294967296) / 4294967296) K K];rw[kf (x:=AI+(B+C / 4294967296) % 4294967296) K K];rw[I4 (a:=AI+(B+C / 4294967296) % 4294967296) K];rw[kf (x:=(AI+(B+C / 4294967296) % 4294967296) / 4294967296) K K];simp only[IntKind.wrap_u64];constructor
 ·omega
 ·omega
section
variable {x y z w:Int} (UQ:0<=x) (hx:x<9223372036854775808) (SZ:0<=y) (hy:y<9223372036854775808) (Tz:0<=z) (hz:z<9223372036854775808) (YD:0<=w) (hw:w<9223372036854775808)
include x y z w UQ hx SZ hy Tz hz YD hw
theorem ig0 :
 uP (nZ x y) (oP x y) (nZ z w) (oP z w)=decide (x*y<=z*w):=by
 unfold nZ oP uP;rw[kf UQ K,kf SZ K,kf Tz K,kf YD K];rw[auB UQ K SZ K,auB Tz K YD K,arR,arR];generalize x*y=a;generalize z*w=b;rw[Fl];simp only[J1,Jd,Ae,E4,DJ];split<;>(try split)<;>(try split)<;>simp_all<;>omega
theorem ovA :
 (!uZ (mU x y) (mZ x y) (mU z w) (mZ z w))=decide (x*y<=z*w):=by
 unfold uZ;rw[(Bu UQ K SZ K).1,(Bu UQ K SZ K).2,(Bu Tz K YD K).1,(Bu Tz K YD K).2];generalize x*y=a;generalize z*w=b;rw[Fl];simp only[J1,EY,E4,DJ];split<;>(try split)<;>simp_all<;>omega
end
def nr (ax ay bx by' px py r:Int):Bool :=
 bif decide ((px-ax)*(bx-ax)+(py-ay)*(by'-ay)<=0) then decide ((px-ax)*(px-ax)+(py-ay)*(py-ay)<=r*r)
 else bif decide ((bx-ax)*(bx-ax)+(by'-ay)*(by'-ay)<=(px-ax)*(bx-ax)+(py-ay)*(by'-ay)) then decide ((px-bx)*(px-bx)+(py-by')*(py-by')<=r*r)
 else decide (((bx-ax)*(py-ay)-(by'-ay)*(px-ax))*((bx-ax)*(py-ay)-(by'-ay)*(px-ax))<=r*r*((bx-ax)*(bx-ax)+(by'-ay)*(by'-ay)))
def sm (x:Int):Prop:=-536870912<=x/\x<=536870912
theorem b10 (c:Int):max c (0-c)*max c (0-c)=c*c:=by
 by_cases h:0<=c
 ·rw[show max c (0-c)=c from by omega]
 ·rw[show max c (0-c)=-c from by omega,Int.neg_mul_neg]
section
variable {ax ay bx by' px py r:Int}
section
variable (M:sm ax) (Q:sm ay) (h3:sm bx) (h4:sm by') (h5:sm px) (h6:sm py) (h7:0<=r) (h8:r<=1073741824)
include M Q h3 h4 h5 h6 h7 h8
theorem c62:kx ax ay bx by' px py r=nr ax ay bx by' px py r:=by
 unfold sm at *
 unfold kx nr bO bN;rw[AX (x:=bx-ax) K K,AX (x:=by'-ay) K K,AX (x:=px-ax) K K,AX (x:=py-ay) K K,AX (x:=px-bx) K K,AX (x:=py-by') K K];have e1:-1073741824<=bx-ax/\bx-ax<=1073741824:=by omega
 have e2:-1073741824<=by'-ay/\by'-ay<=1073741824:=by omega
 have e3:-1073741824<=px-ax/\px-ax<=1073741824:=by omega
 have e4:-1073741824<=py-ay/\py-ay<=1073741824:=by omega
 have e5:-1073741824<=px-bx/\px-bx<=1073741824:=by omega
 have e6:-1073741824<=py-by'/\py-by'<=1073741824:=by omega
 generalize bx-ax=dx at *
 generalize by'-ay=dy at *
 generalize px-ax=ux at *
 generalize py-ay=uy at *
 generalize px-bx=vx at *
 generalize py-by'=vy at *
 have k:∀a b c d:Int,(-1073741824<=a/\a<=1073741824)->(-1073741824<=b/\b<=1073741824)->(-1073741824<=c/\c<=1073741824)->(-1073741824<=d/\d<=1073741824)->jy a b c d=a*c+b*d/\-2305843009213693952<=a*c+b*d/\a*c+b*d<=2305843009213693952:=by intro a b c d ha hb hc hd;have m1:=mX ha.1 ha.2 hc.1 hc.2;have m2:=mX hb.1 hb.2 hd.1 hd.2;unfold jy;rw[AX (x:=a*c) K K,AX (x:=b*d) K K,AX K K];exact⟨rfl,K,K⟩
 have hr:=mX (x:=r) (y:=r) (QG:=1073741824) (B:=1073741824) K h8 K h8;have X5:0<=r*r:=mP h7 h7;have s1:0<=dx*dx:=JM dx;have s2:0<=dy*dy:=JM dy;rw[(k ux uy dx dy e3 e4 e1 e2).1,(k ux uy ux uy e3 e4 e3 e4).1,(k dx dy dx dy e1 e2 e1 e2).1,(k vx vy vx vy e5 e6 e5 e6).1,AX (x:=r*r) K K];have c1:=mX e1.1 e1.2 e4.1 e4.2;have c2:=mX e2.1 e2.2 e3.1 e3.2;have d1:=mX e1.1 e1.2 e1.1 e1.2;have d2:=mX e2.1 e2.2 e2.1 e2.2;rw[show er dx dy ux uy=dx*uy-dy*ux from by unfold er;rw[AX (x:=dx*uy) K K,AX (x:=dy*ux) K K,AX K K]];rw[AX (x:=0-(dx*uy-dy*ux)) K K];rw[ig0 K K K K X5 K K K,b10]
theorem f15:lF px py ax ay bx by' r=nr ax ay bx by' px py r:=by
 unfold sm at *
 unfold lF nr bI bJ;rw[AX (x:=bx-ax) K K,AX (x:=by'-ay) K K,AX (x:=px-ax) K K,AX (x:=py-ay) K K,AX (x:=px-bx) K K,AX (x:=py-by') K K];have e1:-1073741824<=bx-ax/\bx-ax<=1073741824:=by omega
 have e2:-1073741824<=by'-ay/\by'-ay<=1073741824:=by omega
 have e3:-1073741824<=px-ax/\px-ax<=1073741824:=by omega
 have e4:-1073741824<=py-ay/\py-ay<=1073741824:=by omega
 have e5:-1073741824<=px-bx/\px-bx<=1073741824:=by omega
 have e6:-1073741824<=py-by'/\py-by'<=1073741824:=by omega
 generalize bx-ax=dx at *
 generalize by'-ay=dy at *
 generalize px-ax=ux at *
 generalize py-ay=uy at *
 generalize px-bx=vx at *
 generalize py-by'=vy at *
 have k:∀a b c d:Int,(-1073741824<=a/\a<=1073741824)->(-1073741824<=b/\b<=1073741824)->(-1073741824<=c/\c<=1073741824)->(-1073741824<=d/\d<=1073741824)->jx a b c d=a*c+b*d/\-2305843009213693952<=a*c+b*d/\a*c+b*d<=2305843009213693952:=by intro a b c d ha hb hc hd;have m1:=mX ha.1 ha.2 hc.1 hc.2;have m2:=mX hb.1 hb.2 hd.1 hd.2;unfold jx;rw[AX (x:=a*c) K K,AX (x:=b*d) K K,AX K K];exact⟨rfl,K,K⟩
 have hr:=mX (x:=r) (y:=r) (QG:=1073741824) (B:=1073741824) K h8 K h8;have X5:0<=r*r:=mP h7 h7;have s1:0<=dx*dx:=JM dx;have s2:0<=dy*dy:=JM dy;rw[(k ux uy dx dy e3 e4 e1 e2).1,(k ux uy ux uy e3 e4 e3 e4).1,(k dx dy dx dy e1 e2 e1 e2).1,(k vx vy vx vy e5 e6 e5 e6).1,AX (x:=r*r) K K];have c1:=mX e1.1 e1.2 e4.1 e4.2;have c2:=mX e2.1 e2.2 e3.1 e3.2;have d1:=mX e1.1 e1.2 e1.1 e1.2;have d2:=mX e2.1 e2.2 e2.1 e2.2;rw[show fB dx dy ux uy=dx*uy-dy*ux from by unfold fB;rw[AX (x:=dx*uy) K K,AX (x:=dy*ux) K K,AX K K]];unfold lO;rw[AX (x:=0-(dx*uy-dy*ux)) K K];rw[ovA K K K K X5 K K K,b10]
end
theorem yaK (h7:0<=r):nr ax ay bx by' px py r=nr bx by' ax ay px py r:=by
 unfold nr;have X5:0<=r*r:=mP h7 h7;have e1:(px-bx)*(ax-bx)+(py-by')*(ay-by')=((bx-ax)*(bx-ax)+(by'-ay)*(by'-ay))-((px-ax)*(bx-ax)+(py-ay)*(by'-ay)):=by grind
 have e2:(ax-bx)*(ax-bx)+(ay-by')*(ay-by')=(bx-ax)*(bx-ax)+(by'-ay)*(by'-ay):=by grind
 have e3:((ax-bx)*(py-by')-(ay-by')*(px-bx))=-((bx-ax)*(py-ay)-(by'-ay)*(px-ax)):=by grind
 rw[e1,e2,e3,Int.neg_mul_neg];have q1:0<=(bx-ax)*(bx-ax):=JM _;have q2:0<=(by'-ay)*(by'-ay):=JM _;by_cases hz:(bx-ax)*(bx-ax)+(by'-ay)*(by'-ay)=0
 ·-- one point
  have z1:bx-ax=0:=by
   have:(bx-ax)*(bx-ax)=0:=by omega
   rcases Int.mul_eq_zero.1 this with h|h<;>exact h
  have z2:by'-ay=0:=by
   have:(by'-ay)*(by'-ay)=0:=by omega
   rcases Int.mul_eq_zero.1 this with h|h<;>exact h
  have:bx=ax:=by omega
  have:by'=ay:=by omega
  subst bx by';simp
 ·have hf:0<(bx-ax)*(bx-ax)+(by'-ay)*(by'-ay):=by omega
  generalize (px-ax)*(bx-ax)+(py-ay)*(by'-ay)=t at *
  generalize (bx-ax)*(bx-ax)+(by'-ay)*(by'-ay)=f at *
  by_cases M:t<=0
  ·rw[AG M,cond_true];rw[eM (show ¬f-t<=0 by omega),cond_false,AG (show f<=f-t by omega),cond_true]
  ·rw[eM M,cond_false]
   by_cases Q:f<=t
   ·rw[AG Q,cond_true,AG (show f-t<=0 by omega),cond_true]
   ·rw[eM Q,cond_false,eM (show ¬f-t<=0 by omega),cond_false,eM (show ¬f<=f-t by omega),cond_false]
end
end
end Go.Dx
namespace Go.Dx
open Go.IntKind (i64 u64 u8)
noncomputable section
def sd (ax ay bx b2 px py:Int):Int:=(bx-ax)*(py-ay)-(b2-ay)*(px-ax)
end
end Go.Dx
namespace Go.Dx
open Go.IntKind (i64 u64 u8)
open Go.Sx
noncomputable section
theorem mI {a l h:Int} (hf:dC a l h=true):l<=a/\a<=h:=by
 unfold dC at hf;by_cases M:l<=a
 ·rw[AG M,cond_true]at hf;exact⟨M,As hf⟩
 ·rw[eM M]at hf;cases hf
theorem hwl {e i m:Int} (h:Di e i m=0):e=0/\0<=i/\i<m:=by
 unfold Di at h;cases he:e==0 with
 |false=>rw[he,cond_false]at h;rw[h]at he;cases he
 |true=>
   rw[he,cond_true]at h;refine⟨DU he,?_⟩;unfold SF at h;by_cases M:i<0
   ·rw[AG M]at h;cases h
   ·rw[eM M,cond_false]at h
    by_cases Q:m<=i
    ·rw[AG Q]at h;cases h
    ·omega
end
end Go.Dx
namespace Go.Dx
open Go.Sx
noncomputable section
section
variable {ax ay bx b2 px py r:Int}
theorem arO (M:sm ax) (Q:sm ay) (h3:sm bx) (h4:sm b2) (h5:sm px) (h6:sm py):er (bO bx ax) (bN b2 ay) (bO px ax) (bN py ay)=sd ax ay bx b2 px py/\-4611686018427387904<=sd ax ay bx b2 px py/\sd ax ay bx b2 px py<=4611686018427387904:=by
 unfold sm at *
 unfold sd er bO bN;rw[AX (x:=bx-ax) K K,AX (x:=b2-ay) K K,AX (x:=px-ax) K K,AX (x:=py-ay) K K];have c1:=mX (x:=bx-ax) (y:=py-ay) (QG:=1073741824) (B:=1073741824) K K K K;have c2:=mX (x:=b2-ay) (y:=px-ax) (QG:=1073741824) (B:=1073741824) K K K K;rw[AX (x:=(bx-ax)*(py-ay)) K K,AX (x:=(b2-ay)*(px-ax)) K K,AX K K];exact⟨rfl,K,K⟩
theorem ae0 (n:Int):(fC n=0/\n=0)∨(fC n=1/\0<n)∨(fC n=-1/\n<0):=by unfold fC;omega
end
theorem adM (a b c d:Int):yQ a b c d=!rm a b c d:=by
 unfold yQ rm;rw[kd];generalize wj _ _=p;have e1:decide (c<a)=!decide (a<=c):=by by_cases h:a<=c<;>simp[h]<;>omega
 have e2:decide (d<b)=!decide (b<=d):=by by_cases h:b<=d<;>simp[h]<;>omega
 rw[e1,e2];generalize decide (a<=c)=PX;generalize decide (b<=d)=u;cases p<;>cases PX<;>cases u<;>rfl
theorem xH {a b c d:Int} (h:rm a b c d=true):(-100000<=a/\a<=100000)/\(-100000<=b/\b<=100000)/\(-100000<=c/\c<=100000)/\(-100000<=d/\d<=100000)/\a<=c/\b<=d:=by
 unfold rm at h;cases hp:wj 4 (A [Ty.int IntKind.i64] (b9 [V.int IntKind.i64 a,V.int IntKind.i64 b,V.int IntKind.i64 c,V.int IntKind.i64 d] 0 1)) with
 |false=>rw[hp]at h;cases h
 |true=>
   rw[hp,cond_true]at h;by_cases M:a<=c
   ·rw[J3 M,cond_true]at h;have Q:=As h;unfold wj at hp;exact⟨mI (dB hp 0 K),mI (dB hp 1 K),mI (dB hp 2 K),mI (dB hp 3 K),M,Q⟩
   ·rw[decide_eq_false M]at h;cases h
theorem Rc {x y:Int} (h:nY x y=true):(-100000<=x/\x<=100000)/\(-100000<=y/\y<=100000):=by unfold nY wj at h;exact⟨mI (dB h 0 K),mI (dB h 1 K)⟩
end
end Go.Dx
namespace Go.Dx
noncomputable section
theorem pf (x:Int):0<=x*x:=by
 rcases Int.le_total 0 x with h|h
 ·exact mP h h
 ·have:=mP (show 0<=-x by omega) (show 0<=-x by omega);rwa [Int.neg_mul_neg]at this
theorem p7 {k a b:Int} (hk:0<k) (h:k*a<=k*b):a<=b:=Int.le_of_mul_le_mul_left h hk
theorem to {k a b:Int} (hk:0<k) (h:k*k*a<=k*k*b):a<=b:=p7 (HF hk hk) h
def q2 (x y:Int):Int:=x*x+y*y
theorem Nn (x y:Int):0<=q2 x y:=by unfold q2;have:=pf x;have:=pf y;omega
theorem zk (k x y:Int):q2 (k*x) (k*y)=k*k*q2 x y:=by unfold q2;grind
def hmm (ax ay bx b2 px py k r n m:Int):Prop:=0<=n/\n<=m/\0<m/\q2 (m*px-k*((m-n)*ax+n*bx)) (m*py-k*((m-n)*ay+n*b2))<=(m*k*r)*(m*k*r)
def Nq (ax ay bx b2 px py k r:Int):Prop:=∃n m,hmm ax ay bx b2 px py k r n m
section
variable {ax ay bx b2 px py r n m k:Int}
theorem auU (hr:0<=r) (h:Nq ax ay bx b2 px py 1 r):nr ax ay bx b2 px py r=true:=by
 obtain⟨n,m,M,Q,h3,h4⟩:=h;rw[Int.mul_one]at h4;have ex:m*px-1*((m-n)*ax+n*bx)=m*(px-ax)-n*(bx-ax):=by grind
 have ey:m*py-1*((m-n)*ay+n*b2)=m*(py-ay)-n*(b2-ay):=by grind
 rw[ex,ey]at h4;unfold nr;have e1:px-bx=(px-ax)-(bx-ax):=by omega
 have e2:py-b2=(py-ay)-(b2-ay):=by omega
 rw[e1,e2];generalize px-ax=ux at *
 generalize py-ay=uy at *
 generalize bx-ax=dx at *
 generalize b2-ay=dy at *
 have iz21:=mP (EO h3) M;have hR:(m*r)*(m*r)=m*m*(r*r):=by grind
 by_cases c1:ux*dx+uy*dy<=0
 ·rw[AG c1,cond_true]
  refine AG (to h3 ?_);have e:q2 (m*ux-n*dx) (m*uy-n*dy)=m*m*(ux*ux+uy*uy)+n*n*q2 dx dy-2*(m*n*(ux*dx+uy*dy)):=by unfold q2;grind
  have k1:=mP (pf n) (Nn dx dy);have k2:=mP iz21 (show 0<=-(ux*dx+uy*dy) by omega);rw[Int.mul_neg]at k2;omega
 ·rw [eM c1,cond_false]
  by_cases c2:dx*dx+dy*dy<=ux*dx+uy*dy
  ·rw[AG c2,cond_true]
   refine AG (to h3 ?_);have e:q2 (m*ux-n*dx) (m*uy-n*dy)=m*m*((ux-dx)*(ux-dx)+(uy-dy)*(uy-dy))+(m-n)*(m-n)*q2 dx dy+2*(m*(m-n)*((ux*dx+uy*dy)-(dx*dx+dy*dy))):=by unfold q2;grind
   have k1:=mP (pf (m-n)) (Nn dx dy);have k2:=mP (mP (EO h3) (show 0<=m-n by omega)) (show 0<=(ux*dx+uy*dy)-(dx*dx+dy*dy) by omega);omega
  ·rw[eM c2,cond_false]
   refine AG (to h3 ?_);have e:q2 dx dy*q2 (m*ux-n*dx) (m*uy-n*dy)=m*m*((dx*uy-dy*ux)*(dx*uy-dy*ux))+(dx*(m*ux-n*dx)+dy*(m*uy-n*dy))*(dx*(m*ux-n*dx)+dy*(m*uy-n*dy)):=by unfold q2;grind
   have k1:=pf (dx*(m*ux-n*dx)+dy*(m*uy-n*dy));have k2:=IM h4 (Nn dx dy);have e3:q2 dx dy*(m*r*(m*r))=m*m*(r*r*(dx*dx+dy*dy)):=by unfold q2;grind
   omega
theorem apd (hr:0<=r) (h:nr ax ay bx b2 px py r=true):Nq ax ay bx b2 px py 1 r:=by
 unfold nr at h;by_cases c1:(px-ax)*(bx-ax)+(py-ay)*(b2-ay)<=0
 ·rw[AG c1,cond_true]at h
  have h:=As h;refine⟨0,1,K,K,K,?_⟩;have e:q2 (1*px-1*((1-0)*ax+0*bx)) (1*py-1*((1-0)*ay+0*b2))=(px-ax)*(px-ax)+(py-ay)*(py-ay):=by unfold q2;grind
  rw[e,Fu,Fu];exact h
 ·rw [eM c1,cond_false]at h
  by_cases c2:(bx-ax)*(bx-ax)+(b2-ay)*(b2-ay)<=(px-ax)*(bx-ax)+(py-ay)*(b2-ay)
  ·rw[AG c2,cond_true]at h
   have h:=As h;refine⟨1,1,K,K,K,?_⟩;have e:q2 (1*px-1*((1-1)*ax+1*bx)) (1*py-1*((1-1)*ay+1*b2))=(px-bx)*(px-bx)+(py-b2)*(py-b2):=by unfold q2;grind
   rw[e,Fu,Fu];exact h
  ·rw[eM c2,cond_false]at h
   have h:=As h;refine⟨(px-ax)*(bx-ax)+(py-ay)*(b2-ay),(bx-ax)*(bx-ax)+(b2-ay)*(b2-ay),K,K,K,?_⟩;have ex:((bx-ax)*(bx-ax)+(b2-ay)*(b2-ay))*px-1*(((bx-ax)*(bx-ax)+(b2-ay)*(b2-ay)-((px-ax)*(bx-ax)+(py-ay)*(b2-ay)))*ax+((px-ax)*(bx-ax)+(py-ay)*(b2-ay))*bx)=((bx-ax)*(bx-ax)+(b2-ay)*(b2-ay))*(px-ax)-((px-ax)*(bx-ax)+(py-ay)*(b2-ay))*(bx-ax):=by grind
   have ey:((bx-ax)*(bx-ax)+(b2-ay)*(b2-ay))*py-1*(((bx-ax)*(bx-ax)+(b2-ay)*(b2-ay)-((px-ax)*(bx-ax)+(py-ay)*(b2-ay)))*ay+((px-ax)*(bx-ax)+(py-ay)*(b2-ay))*b2)=((bx-ax)*(bx-ax)+(b2-ay)*(b2-ay))*(py-ay)-((px-ax)*(bx-ax)+(py-ay)*(b2-ay))*(b2-ay):=by grind
   rw[ex,ey];clear ex ey;generalize px-ax=ux at *
   generalize py-ay=uy at *
   generalize bx-ax=dx at *
   generalize b2-ay=dy at *
   have e:q2 ((dx*dx+dy*dy)*ux-(ux*dx+uy*dy)*dx) ((dx*dx+dy*dy)*uy-(ux*dx+uy*dy)*dy)=(dx*dx+dy*dy)*((dx*uy-dy*ux)*(dx*uy-dy*ux)):=by unfold q2;grind
   rw[e,Int.mul_one];have k1:=IM h (show 0<=dx*dx+dy*dy by omega);have e2:(dx*dx+dy*dy)*r*((dx*dx+dy*dy)*r)=(dx*dx+dy*dy)*(r*r*(dx*dx+dy*dy)):=by grind
   omega
theorem al8 (hr:0<=r):nr ax ay bx b2 px py r=true↔Nq ax ay bx b2 px py 1 r:=⟨apd hr,auU hr⟩
end
abbrev P2:=Int×Int
def cM (a b p:P2):Int:=sd a.1 a.2 b.1 b.2 p.1 p.2
def gh (a b:P2):Prop:=a.1<b.1∨(a.1=b.1/\a.2<b.2)
def o8 (a b:P2):Prop:=a.1<b.1∨(a.1=b.1/\a.2<=b.2)
def Pv (x y:Int):Prop:=0<x∨(x=0/\0<y)
theorem hov {k a:Int} (hk:0<k) (h:0<k*a):0<a:=by apply Classical.byContradiction;intro hn;have:=mP (EO hk) (show 0<=-a by omega);rw[Int.mul_neg]at this;omega
section
variable {ux uy vx vy wx wy:Int}
theorem OD (hu:Pv ux uy) (hv:Pv vx vy) (hw:Pv wx wy) (M:0<=ux*vy-uy*vx) (Q:0<=vx*wy-vy*wx):0<=ux*wy-uy*wx:=by
 unfold Pv at *
 rcases hv with hv|⟨rfl,hv⟩
 ·have e:vx*(ux*wy-uy*wx)=wx*(ux*vy-uy*vx)+ux*(vx*wy-vy*wx):=by grind
  have k1:=mP (show 0<=wx by omega) M;have k2:=mP (show 0<=ux by omega) Q;exact p7 hv (by rw[Ek];omega)
 ·have k3:0<=vy*wx:=mP K K
  have:wx=0:=by rcases Int.mul_eq_zero.1 (show vy*wx=0 by omega) with h|h<;>omega
  subst this;have:=mP (show 0<=ux by omega) (show 0<=wy by omega);omega
theorem crS (hu:Pv ux uy) (hv:Pv vx vy) (hw:Pv wx wy) (M:0<ux*vy-uy*vx) (Q:0<vx*wy-vy*wx):0<ux*wy-uy*wx:=by
 unfold Pv at *
 rcases hv with hv|⟨rfl,hv⟩
 ·have e:vx*(ux*wy-uy*wx)=wx*(ux*vy-uy*vx)+ux*(vx*wy-vy*wx):=by grind
  have k1:=mP (show 0<=wx by omega) (EO M);have k2:=mP (show 0<=ux by omega) (EO Q);by_cases hz:wx=0/\ux=0
  ·obtain⟨rfl,rfl⟩:=hz;have:=mP (show 0<=uy by omega) (EO hv);omega
  ·refine hov hv ?_
   rcases (show 0<wx∨0<ux by omega) with h|h
   ·have:=HF h M;omega
   ·have:=HF h Q;omega
 ·have k3:0<=vy*wx:=mP K K;omega
end
section
variable {a b c p PX t a':P2}
theorem lG (h:gh a b):Pv (b.1-a.1) (b.2-a.2):=by unfold gh at h;unfold Pv;omega
theorem qx (M:gh a b) (Q:gh b c):gh a c:=by unfold gh at *;omega
theorem fb2 (M:gh a b) (Q:o8 b c):gh a c:=by unfold gh o8 at *;omega
theorem rV (M:o8 a b) (Q:gh b c):gh a c:=by unfold gh o8 at *;omega
theorem uX (M:gh a b):o8 a b:=by unfold gh o8 at *;omega
theorem pj (a:P2):o8 a a:=by unfold o8;omega
theorem gL (a:P2):¬gh a a:=by unfold gh;omega
theorem qH (a b:P2):gh a b∨a=b∨gh b a:=by
 by_cases h:a.1=b.1/\a.2=b.2
 ·exact .inr (.inl (Prod.ext h.1 h.2))
 ·unfold gh;omega
theorem Gf (M:o8 a b) (Q:o8 b a):a=b:=by unfold o8 at *;exact Prod.ext K K
theorem PH (a b:P2):cM a b a=0:=by unfold cM sd;grind
theorem HV (a b:P2):cM a b b=0:=by unfold cM sd;grind
theorem auj (a b:P2):cM a a b=0:=by unfold cM sd;grind
theorem je (a b p:P2):cM b a p=-cM a b p:=by unfold cM sd;grind
theorem yaZ (M:gh a t) (Q:gh a PX) (h3:gh a p) (h4:0<=cM a t PX) (h5:cM a t p<=0):0<=cM a p PX:=by have k:=OD (lG h3) (lG M) (lG Q) (by unfold cM sd at h5;grind) (by unfold cM sd at h4;grind);unfold cM sd;exact k
theorem if7 (M:gh a b) (Q:gh PX b) (h3:gh b p) (h4:0<=cM a b PX) (h5:0<cM a b p):0<=cM b p PX:=by
 have e4:cM a b PX=(b.1-PX.1)*(b.2-a.2)-(b.2-PX.2)*(b.1-a.1):=by unfold cM sd;grind
 have e5:cM a b p=(b.1-a.1)*(p.2-b.2)-(b.2-a.2)*(p.1-b.1):=by unfold cM sd;grind
 have e6:cM b p PX=(b.1-PX.1)*(p.2-b.2)-(b.2-PX.2)*(p.1-b.1):=by unfold cM sd;grind
 rw[e4]at h4;rw[e5]at h5;rw[e6];exact OD (lG Q) (lG M) (lG h3) h4 (EO h5)
theorem ap3 (M:gh a' a) (Q:gh a b) (h3:gh b p) (h4:0<cM a' a b) (h5:0<cM a b p):0<cM a' a p:=by
 have e4:cM a' a b=(a.1-a'.1)*(b.2-a.2)-(a.2-a'.2)*(b.1-a.1):=by unfold cM sd;grind
 have e5:cM a b p=(b.1-a.1)*(p.2-b.2)-(b.2-a.2)*(p.1-b.1):=by unfold cM sd;grind
 have e6:cM a' a p=cM a' a b+((a.1-a'.1)*(p.2-b.2)-(a.2-a'.2)*(p.1-b.1)):=by unfold cM sd;grind
 rw[e6];have:=crS (lG M) (lG Q) (lG h3) (by rw[← e4];exact h4) (by rw[← e5];exact h5);omega
end
def kQ (p:P2):List P2->List P2
 |b::a::l=>bif decide (cM a b p<=0) then kQ p (a::l) else b::a::l
 |l=>l
def bu:List P2->List P2->List P2
 |st,[]=>st|st,p::l=>bu (p::kQ p st) l
def Ch (AI:P2->Prop):List P2->Prop
 |[]=>False|[s]=>AI s/\∀PX,AI PX->o8 s PX|b::a::l=>gh a b/\AI b/\(∀PX,AI PX->0<=cM a b PX)/\(∀c,l.head? = some c->0<cM c a b)/\Ch AI (a::l)
theorem Ch.cong {AI D':P2->Prop} (h:∀PX,AI PX↔D' PX) {l:List P2} (hc:Ch AI l):Ch D' l:=by rwa [show D'=AI from funext λPX=>propext (h PX).symm]
theorem azr {AI:P2->Prop} {p:P2} (hp:∀ PX,AI PX->gh PX p):∀ (l:List P2) (a b:P2),Ch AI (b::a::l)->0<cM a b p->Ch (λPX=>AI PX∨PX=p) (b::a::l)
 |[],a,b,h,Q=>by
   obtain⟨h3,h4,h5,h6,h7,h8⟩:=h;refine⟨h3,.inl h4,?_,h6,.inl h7,?_⟩
   ·rintro PX (hq|rfl)
    ·exact h5 PX hq
    ·exact EO Q
   ·rintro PX (hq|rfl)
    ·exact h8 PX hq
    ·exact uX (hp _ h7)
 |c::l,a,b,h,Q=>by
   obtain⟨h3,h4,h5,h6,h7⟩:=h;refine⟨h3,.inl h4,?_,h6,?_⟩
   ·rintro PX (hq|rfl)
    ·exact h5 PX hq
    ·exact EO Q
   ·exact azr hp l c a h7 (ap3 h7.1 h3 (hp _ h4) (h6 c rfl) Q)
theorem ha1 {AI:P2->Prop} {p:P2} (hp:∀ PX,AI PX->gh PX p):∀ (l:List P2) (t:P2),Ch AI (t::l)->(∀ PX,AI PX->gh t PX->0<=cM t p PX)->Ch (λPX=>AI PX∨PX=p) (p::kQ p (t::l))
 |[],t,h,Q=>by
   obtain⟨h3,h4⟩:=h;refine⟨hp _ h3,.inr rfl,?_,(λc hc=>by cases hc),.inl h3,?_⟩
   ·rintro PX (hq|rfl)
    ·rcases qH t PX with k|rfl|k
     ·exact Q PX hq k
     ·rw[PH];omega
     ·exact(gL _ (rV (h4 PX hq) k)).elim
    ·rw[HV];omega
   ·rintro PX (hq|rfl)
    ·exact h4 PX hq
    ·exact uX (hp _ h3)
 |a::l,t,h,Q=>by
   have h':=h;obtain⟨h3,h4,h5,h6,h7⟩:=h;have ha:AI a:=by cases l with|nil=>exact h7.1|cons c l=>exact h7.2.1
   unfold kQ;by_cases hs:cM a t p<=0
   ·rw[AG hs,cond_true];exact ha1 hp l a h7 λPX hq Pj=>yaZ h3 Pj (hp _ ha) (h5 PX hq) hs
   ·rw [eM hs,cond_false]
    refine⟨hp _ h4,.inr rfl,?_,?_,azr hp l a t h' K⟩
    ·rintro PX (hq|rfl)
     ·rcases qH t PX with k|rfl|k
      ·exact Q PX hq k
      ·rw[PH];omega
      ·exact if7 h3 k (hp _ h4) (h5 PX hq) K
     ·rw[HV];omega
    ·intro c hc;simp only[List.head?_cons,Ak]at hc;subst hc;omega
theorem aaT:∀ (l:List P2) (AI:P2->Prop) (t:P2) (st:List P2),Ch AI (t::st)->(∀ PX,AI PX->o8 PX t)->(∀ p∈l,gh t p)->l.Pairwise gh ->
 ∃z r,bu (t::st) l=z::r/\Ch (λPX=>AI PX∨PX∈l) (z::r)/\∀PX,(AI PX∨PX∈l)->o8 PX z
 |[],AI,t,st,M,Q,_,_=>⟨t,st,rfl,M.cong au,by simpa using Q⟩
 |p::l,AI,t,st,M,Q,h3,h4=>by
   have hp:∀ PX,AI PX->gh PX p:=λPX hq=>rV (Q PX hq) (h3 p au);have k:=ha1 hp st t M λPX hq Pj=>(gL _ (rV (Q PX hq) Pj)).elim;rw[I8]at h4;obtain⟨z,r,e,hc,hz⟩:=aaT l _ p _ k (λPX hq=>by
    rcases hq with hq|rfl
    ·exact uX (hp PX hq)
    ·exact pj _) h4.1 h4.2
   refine⟨z,r,e,hc.cong λPX=>?_,λPX hq=>hz PX ?_⟩
   ·simp only [Dq];constructor
    ·rintro ((h|h)|h)
     ·exact .inl h
     ·exact .inr (.inl h)
     ·exact .inr (.inr h)
    ·rintro (h|h|h)
     ·exact .inl (.inl h)
     ·exact .inl (.inr h)
     ·exact .inr h
   ·simp only[Dq]at hq
    rcases hq with h|h|h
    ·exact .inl (.inl h)
    ·exact .inl (.inr h)
    ·exact .inr h
theorem dAt {m:P2} {l:List P2} (h:(m::l).Pairwise gh):∃z r,bu [] (m::l)=z::r/\Ch (λPX=>PX∈m::l) (z::r)/\∀PX,PX∈m::l->o8 PX z:=by rw[I8]at h;obtain⟨z,r,e,hc,hz⟩:=aaT l (λPX=>PX=m) m [] ⟨rfl,λPX hq=>by rw[hq];exact pj _⟩ (λPX hq=>by rw[hq];exact pj _) h.1 h.2;exact⟨z,r,e,hc.cong au,λPX hq=>hz PX (by simpa using hq)⟩
def tU:List P2->P2->P2->Prop
 |b::a::l,x,y=>(x=a/\y=b)∨tU (a::l) x y|_,_,_=>False
def sP:List P2->P2
 |[]=>(0,0)|[s]=>s|_::a::l=>sP (a::l)
section
variable {AI:P2->Prop}
theorem jK:∀ {st:List P2},Ch AI st->∀ PX∈st,AI PX
 |[s],h,PX,hq=>by simp at hq;subst hq;exact h.1
 |b::a::l,h,PX,hq=>by
   rcases List.mem_cons.1 hq with rfl|hq
   ·exact h.2.1
   ·exact jK h.2.2.2.2 PX hq
theorem Cn:∀ {st:List P2} {x y:P2},tU st x y->x∈st/\y∈st
 |b::a::l,x,y,h=>by
   rcases h with ⟨rfl,rfl⟩|h
   ·simp
   ·have:=Cn h;exact⟨Do _ this.1,Do _ this.2⟩
theorem lw:∀ {st:List P2} {x y:P2},Ch AI st->tU st x y->gh x y/\∀ PX,AI PX->0<=cM x y PX
 |b::a::l,x,y,h,ha=>by
   rcases ha with ⟨rfl,rfl⟩|ha
   ·exact⟨h.1,h.2.2.1⟩
   ·exact lw h.2.2.2.2 ha
theorem c68:∀ {st:List P2} {t x y:P2},Ch AI (t::st)->tU (t::st) x y->o8 y t
 |a::l,t,x,y,h,ha=>by
   rcases ha with ⟨rfl,rfl⟩|ha
   ·exact pj _
   ·have:=c68 h.2.2.2.2 ha;exact uX (rV this h.1)
theorem xr:∀ {st:List P2} {t x y:P2},Ch AI (t::st)->tU (t::st) x y->y=t∨∃ c,tU (t::st) y c/\0<cM x y c
 |[],t,x,y,h,ha=>ha.elim
 |a::l,t,x,y,h,ha=>by
   rcases ha with ⟨rfl,rfl⟩|ha
   ·exact .inl rfl
   ·right
    rcases xr h.2.2.2.2 ha with rfl|⟨c,M,Q⟩
    ·refine ⟨t,.inl ⟨rfl,rfl⟩,?_⟩
     cases l with
     |nil=>exact ha.elim
     |cons c l=>
       rcases ha with ⟨rfl,_⟩|ha
       ·exact h.2.2.2.1 _ rfl
       ·-- y is the top of this chain,and nzb20 it is the first pair
        have:=c68 h.2.2.2.2.2.2.2.2 ha;exact(gL _ (fb2 h.2.2.2.2.1 this)).elim
    ·exact⟨c,.inr M,Q⟩
theorem zr:∀ {st:List P2} {x y:P2},Ch AI st->tU st x y->x=sP st∨∃ c,tU st c x/\0<cM c x y
 |[b,a],x,y,h,ha=>by
   rcases ha with ⟨rfl,rfl⟩|ha
   ·exact .inl rfl
   ·exact ha.elim
 |b::a::c::l,x,y,h,ha=>by
   rcases ha with ⟨rfl,rfl⟩|ha
   ·exact .inr ⟨c,.inr (.inl ⟨rfl,rfl⟩),h.2.2.2.1 _ rfl⟩
   ·rcases zr h.2.2.2.2 ha with e|⟨d,M,Q⟩
    ·exact .inl e
    ·exact .inr ⟨d,.inr M,Q⟩
theorem CH:∀ {st:List P2},2<=st.length->∃ b,tU st (sP st) b
 |[b,a],_=>⟨b,.inl ⟨rfl,rfl⟩⟩|b::a::c::l,_=>let ⟨d,h⟩:=CH (st:=a::c::l) au;⟨d,.inr h⟩
theorem oc {a b:P2} {l:List P2}:tU (b::a::l) a b:=.inl ⟨rfl,rfl⟩
theorem Gd:∀ {st:List P2},Ch AI st->AI (sP st)/\∀ PX,AI PX->o8 (sP st) PX
 |[s],h=>h|b::a::l,h=>Gd (st:=a::l) h.2.2.2.2
end
def Am (p:P2):P2:=(-p.1,-p.2)
theorem oB (a b p:P2):cM (Am a) (Am b) (Am p)=cM a b p:=by unfold cM sd Am;grind
theorem fi (p:P2):Am (Am p)=p:=by unfold Am;simp
theorem CW {a b:P2} (h:gh a b):gh (Am b) (Am a):=by unfold gh Am at *;simp only;omega
theorem atB (p:P2):∀ st:List P2,kQ (Am p) (st.map Am)=(kQ p st).map Am
 |[]=>rfl|[_]=>rfl
 |b::a::l=>by
   have ih:=atB p (a::l);simp only[DX]at ih;simp only[DX,kQ,oB];cases decide (cM a b p<=0)
   ·rfl
   ·exact ih
theorem R45:∀ (l st:List P2),bu (st.map Am) (l.map Am)=(bu st l).map Am
 |[],st=>rfl
 |p::l,st=>by simp only[DX,bu];rw[← R45 l];simp only[DX,atB]
theorem CJ:∀ {st:List P2} {x y:P2},tU (st.map Am) x y↔tU st (Am x) (Am y)
 |[],x,y=>Iff.rfl|[_],x,y=>Iff.rfl
 |b::a::l,x,y=>by have ih:=CJ (st:=a::l) (x:=x) (y:=y);simp only[DX]at ih;simp only[DX,tU,ih];have e:∀u v:P2,u=Am v↔Am u=v:=λu v=>⟨λh=>by rw[h,fi],λh=>by rw[← h,fi]⟩;rw[e,e]
section
variable {a b c p PX z m x y w d:P2} {AI:P2->Prop}
theorem fs1 (ha:gh a z) (hc:gh c z) (h0:cM a z c=0) (hq:o8 PX z) (M:0<=cM a z PX) (Q:0<=cM z c PX):cM a z PX=0:=by
 rcases qH PX z with k|rfl|k
 ·have e1:cM a z PX=-((z.1-a.1)*(z.2-PX.2)-(z.2-a.2)*(z.1-PX.1)):=by unfold cM sd;grind
  have e2:cM z c PX=(z.1-c.1)*(z.2-PX.2)-(z.2-c.2)*(z.1-PX.1):=by unfold cM sd;grind
  have e3:cM a z c=-((z.1-a.1)*(z.2-c.2)-(z.2-a.2)*(z.1-c.1)):=by unfold cM sd;grind
  rw[e3]at h0;rw[e2]at Q;rw[e1]at M;have:=OD (lG ha) (lG hc) (lG k) K Q;rw[e1];omega
 ·exact HV _ _
 ·exact(gL _ (rV hq k)).elim
theorem alO (h:gh a z):¬(z.1-a.1=0/\z.2-a.2=0):=by unfold gh at h;omega
theorem aoF (h:gh a z) (hx:cM a z x=0) (hy:cM a z y=0) (hw:cM a z w=0):cM x y w=0:=by
 have k1:(z.1-a.1)*cM x y w=(w.1-x.1)*(cM a z x-cM a z y)+(y.1-x.1)*(cM a z w-cM a z x):=by unfold cM sd;grind
 have k2:(z.2-a.2)*cM x y w=(w.2-x.2)*(cM a z x-cM a z y)+(y.2-x.2)*(cM a z w-cM a z x):=by unfold cM sd;grind
 rw[hx,hy,hw]at k1 k2;simp only[Int.sub_self,Ek,Int.add_zero]at k1 k2;have hn:=alO h;rcases Int.mul_eq_zero.1 k1 with e|e
 ·rcases Int.mul_eq_zero.1 k2 with e'|e'
  ·exact(hn ⟨e,e'⟩).elim
  ·exact e'
 ·exact e
end
structure mT (AI:P2->Prop) (QG B:List P2) (z m:P2):Prop where
 cA:Ch AI QG
 cB:Ch (λPX=>AI (Am PX)) (B.map Am)
 tA:∃r,QG=z::r
 tB:∃r,B=m::r
 bA:sP QG=m
 bB:sP B=z
 zm:gh m z
 hz:∀PX,AI PX->o8 PX z
 hm:∀PX,AI PX->o8 m PX
theorem GZ:∀ {st:List P2},st≠[]->sP (st.map Am)=Am (sP st)
 |[s],_=>rfl|b::a::l,_=>GZ (st:=a::l) au
theorem Gu {a b:P2} (h:o8 a b):o8 (Am b) (Am a):=by unfold o8 Am at *;simp only;omega
theorem as2 {l:List P2} (h:l.Pairwise gh):(l.reverse.map Am).Pairwise gh:=by rw[List.pairwise_map,List.pairwise_reverse];exact h.imp λh=>CW h
theorem ah9 {m:P2} {l:List P2} (hs:(m::l).Pairwise gh) (Q:l≠[]):∃ z,mT (λPX=>PX∈m::l) (bu [] (m::l)) (bu [] (m::l).reverse) z m:=by
 obtain⟨z,r,e,hc,hz⟩:=dAt hs;have hb:=Gd hc;have Tv:∀ PX∈m::l,o8 m PX:=by
  intro PX hq;rcases List.mem_cons.1 hq with rfl|hq
  ·exact pj _
  ·exact uX ((List.pairwise_cons.1 hs).1 PX hq)
 have im11:sP (z::r)=m:=Gf (hb.2 m au) (Tv _ hb.1);have TX:=as2 hs;have hD:∀ PX,PX∈((m::l).reverse.map Am)↔Am PX∈m::l:=λPX=>by
  rw[List.mem_map];constructor
  ·rintro⟨p,hp,rfl⟩;rw[fi];exact List.mem_reverse.1 hp
  ·intro hq;exact⟨Am PX,List.mem_reverse.2 hq,fi PX⟩
 have k:∃ x t,(m::l).reverse.map Am=x::t:=by
  cases hr:(m::l).reverse.map Am with
  |nil=>simp at hr|cons x t=>exact⟨x,t,rfl⟩
 obtain⟨x,t,ex⟩:=k;have X6:=TX;rw[ex]at X6;obtain⟨z',r',e',Rw,YG⟩:=dAt X6;rw[← ex]at e' Rw YG;have en:=R45 (m::l).reverse [];simp only[Ft]at en;rw[en]at e';have Uc:=Rw.cong hD;rw[← e']at Uc;have hB:∃ rB,bu [] (m::l).reverse=m::rB:=by
  cases hB:bu [] (m::l).reverse with
  |nil=>rw[hB]at e';simp at e'
  |cons b rB=>
    rw[hB]at e';simp only[DX,Cc]at e';have k1:=YG (Am m) ((hD _).2 (by rw[fi];simp));have k2:Am z'∈m::l:=by have:z'∈(m::l).reverse.map Am:=jK Rw z' au;exact(hD _).1 this
    have k3:=Gu k1;rw[fi,← e'.1,fi]at k3;rw[← e'.1,fi]at k2;exact⟨rB,by rw[Gf k3 (Tv _ k2)]⟩
 refine⟨z,⟨by rw[e];exact hc,Uc,⟨r,e⟩,hB,by rw[e];exact im11,?_,?_,hz,Tv⟩⟩
 ·obtain⟨rB,eB⟩:=hB;have RP:=Gd Uc;rw[GZ (by rw[eB];simp)]at RP;have k1:=RP.2 (Am z) (by show Am (Am z)∈_;rw[fi];exact jK hc z au);have k2:=Gu k1;rw[fi,fi]at k2;have k3:=RP.1;rw[show(Am (Am (sP (bu [] (m::l).reverse))))=_ from fi _]at k3;exact Gf (hz _ k3) k2
 ·cases l with
  |nil=>exact(Q rfl).elim
  |cons y l=>have:=(List.pairwise_cons.1 hs).1 y au;exact fb2 this (hz y au)
section
variable {AI:P2->Prop} {QG B:List P2} {z m x y PX:P2}
def Ed (QG B:List P2) (x y:P2):Prop:=tU QG x y∨tU B x y
section
variable (h:mT AI QG B z m)
include h
theorem mT.adjB (ha:tU B x y):tU (B.map Am) (Am x) (Am y):=have _:=h;CJ.2 (by rw[fi,fi];exact ha)
theorem mT.e1 (he:Ed QG B x y):x≠y/\AI x/\AI y/\∀ PX,AI PX->0<=cM x y PX:=by
 rcases he with ha|ha
 ·have k:=lw h.cA ha;have hm:=Cn ha;exact⟨(λe=>by rw[e]at k;exact gL _ k.1),jK h.cA _ hm.1,jK h.cA _ hm.2,k.2⟩
 ·have Xo:=h.adjB ha;have k:=lw h.cB Xo;have hm:=Cn Xo;have k1:=jK h.cB _ hm.1;have k2:=jK h.cB _ hm.2;simp only[fi]at k1 k2;refine⟨(λe=>by rw[e]at k;exact gL _ k.1),k1,k2,λPX hq=>?_⟩;have:=k.2 (Am PX) (by rw[fi];exact hq);rwa [oB]at this
theorem mT.lenA:2<=QG.length:=by
 obtain⟨r,e⟩:=h.tA;cases r with
 |nil=>have:=h.bA;rw[e]at this;simp only[sP]at this;have k:=h.zm;rw[this]at k;exact(gL _ k).elim
 |cons a r=>rw[e];simp
theorem mT.lenB:2<=B.length:=by
 obtain⟨r,e⟩:=h.tB;cases r with
 |nil=>have:=h.bB;rw[e]at this;simp only[sP]at this;have k:=h.zm;rw[this]at k;exact(gL _ k).elim
 |cons a r=>rw[e];simp
end
def tj (AI:P2->Prop):Prop:=∃x y w,AI x/\AI y/\AI w/\cM x y w≠0
theorem mT.bend (h:mT AI QG B z m) (h3:3<=QG.length∨3<=B.length):tj AI:=by
 rcases h3 with h3|h3
 ·match QG,h.cA,h3 with| b::a::c::l,hc,_=>have k:=hc.2.2.2.1 c rfl;exact⟨c,a,b,jK hc c au,jK hc a au,jK hc b au,K⟩
 ·match B,h.cB,h3 with| b::a::c::l,hc,_=>have k:=hc.2.2.2.1 (Am c) rfl;rw[oB]at k;have k1:=jK hc (Am c) au;have k2:=jK hc (Am a) au;have k3:=jK hc (Am b) au;simp only[fi]at k1 k2 k3;exact⟨c,a,b,k1,k2,k3,K⟩
theorem hm' {a z:P2} (hn:tj AI) (hl:gh a z) (h:∀PX,AI PX->cM a z PX=0):False:=by obtain⟨x,y,w,hx,hy,hw,RY⟩:=hn;exact RY (aoF hl (h x hx) (h y hy) (h w hw))
section
variable (h:mT AI QG B z m) (hn:tj AI)
include h hn
theorem mT.jz {a c:P2} (ha:tU QG a z) (hc:tU B z c):0<cM a z c:=by
 have e1:=h.e1 (.inl ha);have e2:=h.e1 (.inr hc);have l1:=(lw h.cA ha).1;have l2:=(lw h.cB (h.adjB hc)).1;have l3:=CW l2;rw[fi,fi]at l3;have k:=e1.2.2.2 c e2.2.2.1;by_cases h0:cM a z c=0
 ·exact(hm' hn l1 λPX hq=>fs1 l1 l3 h0 (h.hz PX hq) (e1.2.2.2 PX hq) (e2.2.2.2 PX hq)).elim
 ·omega
theorem mT.jm {a c:P2} (ha:tU B a m) (hc:tU QG m c):0<cM a m c:=by
 have e1:=h.e1 (.inr ha);have e2:=h.e1 (.inl hc);have l1:=(lw h.cA hc).1;have l2:=(lw h.cB (h.adjB ha)).1;have k:=e1.2.2.2 c e2.2.2.1;by_cases h0:cM a m c=0
 ·refine(hm' hn (a:=m) (z:=a) (by have:=CW l2;rwa [fi,fi]at this) λPX hq=>?_).elim;have:=fs1 (a:=Am a) (z:=Am m) (c:=Am c) (PX:=Am PX) l2 (CW l1) (by rw[oB];exact h0) (Gu (h.hm PX hq)) (by rw[oB];exact e1.2.2.2 PX hq) (by rw[oB];exact e2.2.2.2 PX hq);rw[oB]at this;rw[je];omega
 ·omega
theorem mT.next (he:Ed QG B x y):∃ c,Ed QG B y c/\0<cM x y c:=by
 rcases he with ha|ha
 ·obtain ⟨r,e⟩:=h.tA
  have hc:=h.cA;rw[e]at hc ha;rcases xr hc ha with rfl|⟨c,M,Q⟩
  ·obtain⟨c,hc⟩:=CH h.lenB;rw[h.bB]at hc;exact⟨c,.inr hc,h.jz hn (by rw[e];exact ha) hc⟩
  ·exact⟨c,.inl (by rw[e];exact M),Q⟩
 ·obtain ⟨r,e⟩:=h.tB
  have hc:=h.cB;have Xo:=h.adjB ha;rw[e,DX]at hc Xo;rcases xr hc Xo with e2|⟨c,M,Q⟩
  ·have ey:y=m:=by rw[← fi y,e2,fi]
   subst ey;obtain⟨c,hc⟩:=CH h.lenA;rw[h.bA]at hc;exact⟨c,.inl hc,h.jm hn ha hc⟩
  ·refine⟨Am c,.inr ?_,?_⟩
   ·rw[← DX,← e,CJ,fi]at M;exact M
   ·rw[← oB,fi];exact Q
theorem mT.prev (he:Ed QG B x y):∃ c,Ed QG B c x/\0<cM c x y:=by
 rcases he with ha|ha
 ·rcases zr h.cA ha with e2|⟨c,M,Q⟩
  ·rw [h.bA]at e2;subst e2
   obtain⟨r,e⟩:=h.tB;have hl:=h.lenB
   match B,e,hl with
   |_::a::l,e,_=>cases e;exact⟨a,.inr oc,h.jm hn oc ha⟩
  ·exact⟨c,.inl M,Q⟩
 ·rcases zr h.cB (h.adjB ha) with e2|⟨c,M,Q⟩
  ·obtain ⟨r,e⟩:=h.tB
   rw[GZ (by rw[e];simp),h.bB]at e2;have ex:x=z:=by rw[← fi x,e2,fi]
   subst ex;obtain⟨r,e⟩:=h.tA;have hl:=h.lenA
   match QG,e,hl with
   |_::a::l,e,_=>cases e;exact⟨a,.inl oc,h.jz hn oc ha⟩
  ·refine⟨Am c,.inr ?_,?_⟩
   ·rw[CJ,fi]at M;exact M
   ·rw[← oB,fi];exact Q
end
theorem mT.flat (h:mT AI QG B z m) (ha:QG.length<3) (hb:B.length<3):QG=[z,m]/\B=[m,z]/\∀ PX,AI PX->cM m z PX=0:=by
 obtain⟨r,e⟩:=h.tA;obtain⟨s,e'⟩:=h.tB;have la:=h.lenA;have lb:=h.lenB;have e1:=h.bA;have e2:=h.bB;have eA:QG=[z,m]:=by
  match QG,e,la,ha,e1 with
  |[a,b],e,_,_,e1=>cases e;cases e1;rfl
 have eB:B=[m,z]:=by
  match B,e',lb,hb,e2 with
  |[a,b],e,_,_,e2=>cases e;cases e2;rfl
 refine⟨eA,eB,λPX hq=>?_⟩;have k1:=(h.e1 (x:=m) (y:=z) (.inl (by rw[eA];exact oc))).2.2.2 PX hq;have k2:=(h.e1 (x:=z) (y:=m) (.inr (by rw[eB];exact oc))).2.2.2 PX hq;rw[je]at k2;omega
end
def Ct (a b:P2) (x y k:Int):Int:=(b.1-a.1)*(y-k*a.2)-(b.2-a.2)*(x-k*a.1)
def InH (AI:P2->Prop) (x y k:Int):Prop:=∀QG B C:Int,(∀PX,AI PX->0<=QG*PX.1+B*PX.2+C)->0<=QG*x+B*y+C*k
def KM (AI:P2->Prop) (mx my r:Int):Prop:=∃x y k,0<k/\InH AI x y k/\q2 (k*mx-x) (k*my-y)<=(k*r)*(k*r)
theorem Gq {AI:P2->Prop} {x y k:Int} {a b:P2} (h:InH AI x y k) (hs:∀ PX,AI PX->0<=cM a b PX):0<=Ct a b x y k:=by
 have:=h (-(b.2-a.2)) (b.1-a.1) (-(b.1-a.1)*a.2+(b.2-a.2)*a.1) λPX hq=>by
  have e:-(b.2-a.2)*PX.1+(b.1-a.1)*PX.2+(-(b.1-a.1)*a.2+(b.2-a.2)*a.1)=cM a b PX:=by unfold cM sd;grind
  rw[e];exact hs PX hq
 have e:-(b.2-a.2)*x+(b.1-a.1)*y+(-(b.1-a.1)*a.2+(b.2-a.2)*a.1)*k=Ct a b x y k:=by unfold Ct;grind
 rwa [e]at this
def ZV:List P2->List (P2×P2)
 |b::a::l=>(a,b)::ZV (a::l)|_=>[]
theorem ww:∀ {st:List P2} {x y:P2},(x,y)∈ZV st↔tU st x y
 |[],x,y=>by simp[ZV,tU]
 |[_],x,y=>by simp[ZV,tU]
 |b::a::l,x,y=>by simp only[ZV,tU,Dq,Prod.mk.injEq,ww (st:=a::l)]
theorem exit {mx my x y k:Int} (hk:0<k):∀ (es:List (P2×P2)),(∀ e∈es,0<=Ct e.1 e.2 x y k) ->
 ∃j l,0<=j/\j<=l/\0<l/\(∀e∈es,0<=(l-j)*Ct e.1 e.2 x y k+j*(k*cM e.1 e.2 (mx,my)))/\(j=l∨∃e∈es,(l-j)*Ct e.1 e.2 x y k+j*(k*cM e.1 e.2 (mx,my))=0)
 |[],_=>⟨1,1,K,K,K,(λe he=>by cases he),.inl rfl⟩
 |e::es,h=>by
   obtain⟨j,l,M,Q,h3,h4,h5⟩:=exit hk es λf hf=>h f (Do _ hf);have hX:=h e au;by_cases hy:0<=(l-j)*Ct e.1 e.2 x y k+j*(k*cM e.1 e.2 (mx,my))
   ·refine ⟨j,l,M,Q,h3,λf hf=>?_,?_⟩
    ·rcases List.mem_cons.1 hf with rfl|hf
     ·exact hy
     ·exact h4 f hf
    ·rcases h5 with h5|⟨f,hf,h6⟩
     ·exact .inl h5
     ·exact .inr ⟨f,Do _ hf,h6⟩
   ·generalize hM:k*cM e.1 e.2 (mx,my)=Rb at hy
    generalize Ww:Ct e.1 e.2 x y k=X at hX hy;have hM0:Rb<0:=by apply Classical.byContradiction;intro hn;have k1:=mP M (show 0<=Rb by omega);have k2:=mP (show 0<=l-j by omega) hX;omega
    refine⟨X,X-Rb,hX,K,K,λf hf=>?_,.inr ⟨e,au,?_⟩⟩
    ·rcases List.mem_cons.1 hf with rfl|hf
     ·rw[Ww,hM]
      have e:(X-Rb-X)*X+X*Rb=0:=by grind
      omega
     ·have nT:=h4 f hf
      have hfX:=h f (Do _ hf);generalize k*cM f.1 f.2 (mx,my)=M' at nT ⊢;generalize Ct f.1 f.2 x y k=X2 at nT hfX ⊢;by_cases hM2:0<=M'
      ·have k1:=mP (show 0<=X-Rb-X by omega) hfX;have k2:=mP hX hM2;omega
      ·refine p7 h3 ?_
       rw[Ek];have o:0<=j*(X-Rb)-l*X:=by
        have e:j*(X-Rb)-l*X=-((l-j)*X+j*Rb):=by grind
        omega
       have k1:=mP o (show 0<=X2-M' by omega);have k2:=mP (show 0<=X-Rb by omega) nT;have e:l*((X-Rb-X)*X2+X*M')=(j*(X-Rb)-l*X)*(X2-M')+(X-Rb)*((l-j)*X2+j*M'):=by grind
       omega
    ·rw[Ww,hM];grind
theorem wD {x:Int} (h:x≠0):0<x*x:=by
 have:=pf x;by_cases e:x*x=0
 ·rcases Int.mul_eq_zero.1 e with e|e<;>exact(h e).elim
 ·omega
theorem ahf {a b c d:P2} {mx my r x y k:Int} (hk:0<k) (h0:Ct a b x y k=0) (M:0<=Ct d a x y k) (Q:0<cM d a b) (h3:0<=Ct b c x y k) (h4:0<cM a b c)
 (hq:q2 (k*mx-x) (k*my-y)<=(k*r)*(k*r)):Nq a.1 a.2 b.1 b.2 mx my 1 r:=by
 unfold cM sd at Q h4;unfold Ct at h0 M h3;obtain⟨a1,a2⟩:=a;obtain⟨b1,b2⟩:=b;obtain⟨c1,c2⟩:=c;obtain⟨d1,d2⟩:=d;simp only at *
 have S5:0<(b1-a1)*(b1-a1)+(b2-a2)*(b2-a2):=by
  by_cases e:b1-a1=0
  ·by_cases e':b2-a2=0
   ·rw[show b1=a1 by omega,show b2=a2 by omega]at Q
    have:(a1-d1)*(a2-d2)-(a2-d2)*(a1-d1)=0:=by grind
    omega
   ·have:=wD e';have:=pf (b1-a1);omega
  ·have:=wD e;have:=pf (b2-a2);omega
 have ex:((b1-a1)*(b1-a1)+(b2-a2)*(b2-a2))*(x-k*a1)=((b1-a1)*(x-k*a1)+(b2-a2)*(y-k*a2))*(b1-a1)-(b2-a2)*((b1-a1)*(y-k*a2)-(b2-a2)*(x-k*a1)):=by grind
 have ey:((b1-a1)*(b1-a1)+(b2-a2)*(b2-a2))*(y-k*a2)=((b1-a1)*(x-k*a1)+(b2-a2)*(y-k*a2))*(b2-a2)+(b1-a1)*((b1-a1)*(y-k*a2)-(b2-a2)*(x-k*a1)):=by grind
 rw[h0,Ek]at ex ey;have eT:((b1-a1)*(b1-a1)+(b2-a2)*(b2-a2))*((a1-d1)*(y-k*d2)-(a2-d2)*(x-k*d1))=(a1-d1)*(((b1-a1)*(b1-a1)+(b2-a2)*(b2-a2))*(y-k*a2))-(a2-d2)*(((b1-a1)*(b1-a1)+(b2-a2)*(b2-a2))*(x-k*a1)):=by grind
 have n15:((b1-a1)*(b1-a1)+(b2-a2)*(b2-a2))*((c1-b1)*(y-k*b2)-(c2-b2)*(x-k*b1))=(c1-b1)*(((b1-a1)*(b1-a1)+(b2-a2)*(b2-a2))*(y-k*a2)-k*((b1-a1)*(b1-a1)+(b2-a2)*(b2-a2))*(b2-a2))-(c2-b2)*(((b1-a1)*(b1-a1)+(b2-a2)*(b2-a2))*(x-k*a1)-k*((b1-a1)*(b1-a1)+(b2-a2)*(b2-a2))*(b1-a1)):=by grind
 rw[ex,ey]at eT n15;have k1:=mP (EO S5) M;have k2:=mP (EO S5) h3;rw[eT]at k1;rw[n15]at k2;generalize hT:(b1-a1)*(x-k*a1)+(b2-a2)*(y-k*a2)=AN at *
 generalize hd:(b1-a1)*(b1-a1)+(b2-a2)*(b2-a2)=dd at *
 have t1:0<=AN:=by
  have e:(a1-d1)*(AN*(b2-a2)+0)-(a2-d2)*(AN*(b1-a1)-0)=((a1-d1)*(b2-d2)-(a2-d2)*(b1-d1))*AN:=by grind
  rw[e]at k1;exact p7 Q (by rw[Ek];exact k1)
 have t2:AN<=k*dd:=by
  have e:(c1-b1)*(AN*(b2-a2)+0-k*dd*(b2-a2))-(c2-b2)*(AN*(b1-a1)-0-k*dd*(b1-a1))=((b1-a1)*(c2-a2)-(b2-a2)*(c1-a1))*(k*dd-AN):=by grind
  rw[e]at k2;have:=p7 h4 (a:=0) (b:=k*dd-AN) (by rw[Ek];exact k2);omega
 refine⟨AN,k*dd,t1,t2,HF hk S5,?_⟩;have f1:k*dd*mx-1*((k*dd-AN)*a1+AN*b1)=dd*(k*mx-x):=by
  have:dd*(k*mx-x)=k*dd*mx-(dd*(x-k*a1)+k*dd*a1):=by grind
  rw[this,ex];grind
 have N:k*dd*my-1*((k*dd-AN)*a2+AN*b2)=dd*(k*my-y):=by
  have:dd*(k*my-y)=k*dd*my-(dd*(y-k*a2)+k*dd*a2):=by grind
  rw[this,ey];grind
 rw[f1,N,zk];have:=IM hq (pf dd);have e:k*dd*1*r*(k*dd*1*r)=dd*dd*(k*r*(k*r)):=by grind
 omega
theorem mT.near {AI:P2->Prop} {QG B:List P2} {z m:P2} (h:mT AI QG B z m) (hn:tj AI) {mx my r:Int} (hr:0<=r) (hc:KM AI mx my r) {e0:P2×P2} (h0:Ed QG B e0.1 e0.2) (hs:cM e0.1 e0.2 (mx,my)<=0) :
 ∃a b,Ed QG B a b/\Nq a.1 a.2 b.1 b.2 mx my 1 r:=by
 obtain⟨x,y,k,hk,hI,hq⟩:=hc;have Xt:∀e:P2×P2,e∈ZV QG++ZV B↔Ed QG B e.1 e.2:=λe=>by rw[IC,← ww.symm.trans Iff.rfl];unfold Ed;rw[← ww,← ww]
 obtain⟨j,l,M,Q,h3,h4,h5⟩:=exit (mx:=mx) (my:=my) hk (ZV QG++ZV B) λe he=>Gq hI (h.e1 ((Xt e).1 he)).2.2.2;have yas:∀a b:P2,(l-j)*Ct a b x y k+j*(k*cM a b (mx,my))=Ct a b ((l-j)*x+j*k*mx) ((l-j)*y+j*k*my) (k*l):=λa b=>by unfold Ct cM sd;grind
 simp only[yas]at h4 h5;have key:∃ e:P2×P2,Ed QG B e.1 e.2/\Ct e.1 e.2 ((l-j)*x+j*k*mx) ((l-j)*y+j*k*my) (k*l)=0:=by
  rcases h5 with rfl|⟨e,he,h6⟩
  ·refine⟨e0,h0,?_⟩
   have k1:=h4 e0 ((Xt e0).2 h0);rw[← yas]at k1 ⊢;have k2:=mP M (mP (EO hk) (show 0<=-cM e0.1 e0.2 (mx,my) by omega));have e:j*(k*-cM e0.1 e0.2 (mx,my))=-(j*(k*cM e0.1 e0.2 (mx,my))):=by grind
   have e2:(j-j)*Ct e0.1 e0.2 x y k=0:=by grind
   omega
  ·exact⟨e,(Xt e).1 he,h6⟩
 obtain⟨⟨a,b⟩,he,hz⟩:=key;obtain⟨c,Sz,Uc⟩:=h.next hn he;obtain⟨d,T8,T9⟩:=h.prev hn he;refine⟨a,b,he,ahf (HF hk h3) hz (h4 (d,a) ((Xt _).2 T8)) T9 (h4 (b,c) ((Xt _).2 Sz)) Uc ?_⟩;have f1:k*l*mx-((l-j)*x+j*k*mx)=(l-j)*(k*mx-x):=by grind
 have N:k*l*my-((l-j)*y+j*k*my)=(l-j)*(k*my-y):=by grind
 rw[f1,N,zk];have k1:=IM hq (pf (l-j));have k2:(l-j)*(l-j)<=l*l:=Int.mul_le_mul K K K K;have k3:=Eo k2 (pf (k*r));have e:k*l*r*(k*l*r)=l*l*(k*r*(k*r)):=by grind
 omega
theorem hdx {vx vy dx dy:Int} (hv:Pv vx vy) (hd:Pv dx dy) (h:dx*vy-dy*vx=0):0<=dx*vx+dy*vy:=by
 unfold Pv at *
 rcases hd with hd|⟨rfl,hd⟩
 ·refine p7 hd ?_
  rw[Ek];have e:dx*(dx*vx+dy*vy)=(dx*dx+dy*dy)*vx+dy*(dx*vy-dy*vx):=by grind
  rw[e,h,Ek,Int.add_zero];exact mP (by have:=pf dx;have:=pf dy;omega) K
 ·have:vx=0:=by
   rcases Int.mul_eq_zero.1 (show dy*vx=0 by omega) with e|e<;>omega
  subst this;have:=mP (EO hd) (show 0<=vy by omega);omega
theorem hpa {AI:P2->Prop} {z m:P2} (zm:gh m z) (hz:∀ PX,AI PX->o8 PX z) (hm:∀ PX,AI PX->o8 m PX) (hf:∀ PX,AI PX->cM m z PX=0) {mx my r:Int} (hr:0<=r) (hc:KM AI mx my r):Nq m.1 m.2 z.1 z.2 mx my 1 r:=by
 obtain⟨x,y,k,hk,hI,hq⟩:=hc;have s1:=Gq (a:=m) (b:=z) hI λPX hq=>by rw[hf PX hq];omega
 have s2:=Gq (a:=z) (b:=m) hI λPX hq=>by rw[je,hf PX hq];omega
 have hd:=lG zm;have d1:=hI (z.1-m.1) (z.2-m.2) (-((z.1-m.1)*m.1+(z.2-m.2)*m.2)) λPX hq=>by
  have e:(z.1-m.1)*PX.1+(z.2-m.2)*PX.2+-((z.1-m.1)*m.1+(z.2-m.2)*m.2)=(z.1-m.1)*(PX.1-m.1)+(z.2-m.2)*(PX.2-m.2):=by grind
  rw[e];rcases qH m PX with h|rfl|h
  ·exact hdx (lG h) hd (by have:=hf PX hq;unfold cM sd at this;exact this)
  ·simp
  ·exact(gL _ (rV (hm PX hq) h)).elim
 have d2:=hI (-(z.1-m.1)) (-(z.2-m.2)) ((z.1-m.1)*z.1+(z.2-m.2)*z.2) λPX hq=>by
  have e:-(z.1-m.1)*PX.1+-(z.2-m.2)*PX.2+((z.1-m.1)*z.1+(z.2-m.2)*z.2)=(z.1-m.1)*(z.1-PX.1)+(z.2-m.2)*(z.2-PX.2):=by grind
  rw[e];rcases qH PX z with h|rfl|h
  ·refine hdx (lG h) hd ?_
   have:=hf PX hq;unfold cM sd at this;have e:(z.1-m.1)*(z.2-PX.2)-(z.2-m.2)*(z.1-PX.1)=-((z.1-m.1)*(PX.2-m.2)-(z.2-m.2)*(PX.1-m.1)):=by grind
   omega
  ·simp
  ·exact(gL _ (rV (hz PX hq) h)).elim
 unfold Ct at s1 s2;unfold gh at zm;obtain⟨a1,a2⟩:=m;obtain⟨b1,b2⟩:=z;simp only at *
 have h0:(b1-a1)*(y-k*a2)-(b2-a2)*(x-k*a1)=0:=by
  have e:(a1-b1)*(y-k*b2)-(a2-b2)*(x-k*b1)=-((b1-a1)*(y-k*a2)-(b2-a2)*(x-k*a1)):=by grind
  omega
 have S5:0<(b1-a1)*(b1-a1)+(b2-a2)*(b2-a2):=by
  by_cases e:b1-a1=0
  ·have:=wD (x:=b2-a2) K;have:=pf (b1-a1);omega
  ·have:=wD e;have:=pf (b2-a2);omega
 have ex:((b1-a1)*(b1-a1)+(b2-a2)*(b2-a2))*(x-k*a1)=((b1-a1)*(x-k*a1)+(b2-a2)*(y-k*a2))*(b1-a1)-(b2-a2)*((b1-a1)*(y-k*a2)-(b2-a2)*(x-k*a1)):=by grind
 have ey:((b1-a1)*(b1-a1)+(b2-a2)*(b2-a2))*(y-k*a2)=((b1-a1)*(x-k*a1)+(b2-a2)*(y-k*a2))*(b2-a2)+(b1-a1)*((b1-a1)*(y-k*a2)-(b2-a2)*(x-k*a1)):=by grind
 rw[h0,Ek]at ex ey;have t1:0<=(b1-a1)*(x-k*a1)+(b2-a2)*(y-k*a2):=by
  have e:(b1-a1)*x+(b2-a2)*y+-((b1-a1)*a1+(b2-a2)*a2)*k=(b1-a1)*(x-k*a1)+(b2-a2)*(y-k*a2):=by grind
  omega
 have t2:(b1-a1)*(x-k*a1)+(b2-a2)*(y-k*a2)<=k*((b1-a1)*(b1-a1)+(b2-a2)*(b2-a2)):=by
  have e:-(b1-a1)*x+-(b2-a2)*y+((b1-a1)*b1+(b2-a2)*b2)*k=k*((b1-a1)*(b1-a1)+(b2-a2)*(b2-a2))-((b1-a1)*(x-k*a1)+(b2-a2)*(y-k*a2)):=by grind
  omega
 generalize hT:(b1-a1)*(x-k*a1)+(b2-a2)*(y-k*a2)=AN at *
 generalize izb10:(b1-a1)*(b1-a1)+(b2-a2)*(b2-a2)=dd at *
 refine⟨AN,k*dd,t1,t2,HF hk S5,?_⟩;have f1:k*dd*mx-1*((k*dd-AN)*a1+AN*b1)=dd*(k*mx-x):=by
  have:dd*(k*mx-x)=k*dd*mx-(dd*(x-k*a1)+k*dd*a1):=by grind
  rw[this,ex];grind
 have N:k*dd*my-1*((k*dd-AN)*a2+AN*b2)=dd*(k*my-y):=by
  have:dd*(k*my-y)=k*dd*my-(dd*(y-k*a2)+k*dd*a2):=by grind
  rw[this,ey];grind
 rw[f1,N,zk];have:=IM hq (pf dd);have e:k*dd*1*r*(k*dd*1*r)=dd*dd*(k*r*(k*r)):=by grind
 omega
def fj:List P2->List P2
 |[]=>[]|[a]=>[a]|a::b::l=>(bu [] (a::b::l)).tail.reverse++(bu [] (a::b::l).reverse).tail.reverse
def jE (l:List P2) (i:Nat):P2:=l.getD i (0,0)
def Dd (a b m:P2) (r:Int):Bool:=nr a.1 a.2 b.1 b.2 m.1 m.2 r
def TP (Pu:List P2) (m:P2) (r:Int):Prop:=(∃i,i<Pu.length/\Dd (jE Pu i) (jE Pu ((i+1) % Pu.length)) m r=true)∨(2<Pu.length/\∀i,i<Pu.length->0<cM (jE Pu i) (jE Pu ((i+1) % Pu.length)) m)
def Wn (m a b c:P2):Prop:=cM a b c≠0/\((0<=cM a b m/\0<=cM b c m/\0<=cM c a m)∨(cM a b m<=0/\cM b c m<=0/\cM c a m<=0))
def El (AI:P2->Prop) (m:P2) (r:Int):Prop:=(∃a b,AI a/\AI b/\Dd a b m r=true)∨∃a b c,AI a/\AI b/\AI c/\Wn m a b c
theorem HG:∀ {st:List P2} {x y:P2},tU st x y↔∃ i,st.reverse[i]? = some x/\st.reverse[i+1]? = some y
 |[],x,y=>by simp[tU]
 |[s],x,y=>by simp only[tU,false_iff];rintro⟨i,M,Q⟩;simp at Q
 |b::a::l,x,y=>by
   have ih:=HG (st:=a::l) (x:=x) (y:=y);have hl:(a::l).reverse.length=l.length+1:=by simp
   have ha:(a::l).reverse[l.length]? = some a:=by rw[EV,DD au];simp
   simp only[tU,ih];rw[EV (a:=b)];constructor
   ·rintro (⟨rfl,rfl⟩|⟨i,M,Q⟩)
    ·refine⟨l.length,?_,?_⟩
     ·rw[BF K];exact ha
     ·rw[DD K,hl];simp
    ·have k:i+1<(a::l).reverse.length:=by
      apply Classical.byContradiction;intro hn;rw[D1 K]at Q;cases Q
     exact⟨i,by rw[BF K];exact M,by rw[BF k];exact Q⟩
   ·rintro ⟨i,M,Q⟩
    by_cases k:i+1<(a::l).reverse.length
    ·rw[BF k]at Q;rw[BF K]at M;exact .inr ⟨i,M,Q⟩
    ·rw [DD K,hl]at Q
     have e:i=l.length:=by apply Classical.byContradiction;intro hn;rw[D1 (by simp;omega)]at Q;cases Q
     subst e;rw[BF K,ha]at M;rw[If]at Q;simp only[E9,Ak]at M Q;exact .inl ⟨M.symm,Q.symm⟩
theorem G1:∀ {st:List P2},st≠[]->st.reverse[0]? = some (sP st)
 |[s],_=>rfl
 |b::a::l,_=>by rw[EV (a:=b),BF au];exact G1 (st:=a::l) au
section
variable {AI:P2->Prop} {QG B:List P2} {z m:P2}
theorem amN {rA rB:List P2} {z m:P2} (bA:rA.reverse[0]? = some m) (bB:rB.reverse[0]? = some z) (i:Nat) (hi:i<rA.length+rB.length) :
 (rA.reverse++rB.reverse)[i]? = (if i<rA.length then(rA.reverse++[z])[i]? else(rB.reverse++[m])[i-rA.length]?)/\(rA.reverse++rB.reverse)[(i+1) % (rA.length+rB.length)]? = (if i<rA.length then(rA.reverse++[z])[i+1]? else(rB.reverse++[m])[i-rA.length+1]?):=by
 have nA:rA.reverse.length=rA.length:=Ef;have yan:rB.reverse.length=rB.length:=Ef;by_cases M:i<rA.length
 ·rw [Ad M,Ad M,Jp (by
   have:0<rB.reverse.length:=by apply Classical.byContradiction;intro hn;rw[D1 K]at bB;cases bB
   omega)]
  refine⟨by rw[BF K,BF K],?_⟩;by_cases Q:i+1<rA.length
  ·rw[BF K,BF K]
  ·have e:i+1=rA.length:=by omega
   rw[e,DD K,DD K,nA,If,bB];rfl
 ·rw [AU M,AU M]
  refine⟨by rw[DD K,BF (l₁:=rB.reverse) K,nA],?_⟩;by_cases Q:i-rA.length+1<rB.length
  ·rw[Jp K,DD K,BF (l₁:=rB.reverse) K,nA];congr 1;omega
  ·have e:i+1=rA.length+rB.length:=by omega
   have e2:i-rA.length+1=rB.length:=by omega
   rw[e,Nat.mod_self,e2,BF (by apply Classical.byContradiction;intro hn;rw[D1 K]at bA;cases bA),DD K,yan,If,bA];rfl
theorem mT.ix (h:mT AI QG B z m) (i:Nat) (hi:i<(QG.tail.reverse++B.tail.reverse).length) :
 (QG.tail.reverse++B.tail.reverse)[i]? = (if i<QG.tail.length then QG.reverse[i]? else B.reverse[i-QG.tail.length]?)/\(QG.tail.reverse++B.tail.reverse)[(i+1) % (QG.tail.reverse++B.tail.reverse).length]? = (if i<QG.tail.length then QG.reverse[i+1]? else B.reverse[i-QG.tail.length+1]?):=by
 obtain⟨rA,eA⟩:=h.tA;obtain⟨rB,eB⟩:=h.tB;have la:=h.lenA;have lb:=h.lenB;have bA:=G1 (st:=QG) (by rw[eA];simp);have bB:=G1 (st:=B) (by rw[eB];simp);rw[h.bA]at bA;rw[h.bB]at bB;rw[eA]at la bA hi ⊢;rw[eB]at lb bB hi ⊢;simp only[Dl]at la lb;rw[EV,BF (by simp;omega)]at bA bB;have RI:i<rA.length+rB.length:=by
  have:(rA.reverse++rB.reverse).length=rA.length+rB.length:=by simp
  have Q:i<(rA.reverse++rB.reverse).length:=hi;omega
 have k:=amN bA bB i RI;have ybb:(rA.reverse++rB.reverse).length=rA.length+rB.length:=by simp
 rw[← ybb]at k;rw[← EV,← EV]at k;exact k
theorem jk {l:List P2} {i:Nat} (h:i<l.length):l[i]? = some (jE l i):=by unfold jE;rw[Ds h];simp[List.getD,Ds h]
theorem mT.cyc (h:mT AI QG B z m) {x y:P2}:(∃ i,i<(QG.tail.reverse++B.tail.reverse).length/\jE (QG.tail.reverse++B.tail.reverse) i=x/\jE (QG.tail.reverse++B.tail.reverse) ((i+1) % (QG.tail.reverse++B.tail.reverse).length)=y)↔Ed QG B x y:=by
 unfold Ed;rw[HG,HG];have nA:QG.reverse.length=QG.tail.length+1:=by have:=h.lenA;simp;omega
 have yan:B.reverse.length=B.tail.length+1:=by have:=h.lenB;simp;omega
 have nza19:(QG.tail.reverse++B.tail.reverse).length=QG.tail.length+B.tail.length:=by simp
 have n18:∀{l:List P2} {i:Nat} {x:P2},l[i]? = some x->i<l.length:=λ{l i x} hx=>by apply Classical.byContradiction;intro hn;rw[D1 K]at hx;cases hx
 constructor
 ·rintro ⟨i,hi,rfl,rfl⟩
  have k:=h.ix i hi;rw[jk hi,jk (HH _ K)]at k;by_cases hl:i<QG.tail.length
  ·rw[Ad hl,Ad hl]at k;exact .inl ⟨i,k.1.symm,k.2.symm⟩
  ·rw[AU hl,AU hl]at k;exact .inr ⟨_,k.1.symm,k.2.symm⟩
 ·rintro (⟨i,M,Q⟩|⟨i,M,Q⟩)
  ·have g:=n18 Q
   have hi:i<(QG.tail.reverse++B.tail.reverse).length:=by omega
   have k:=h.ix i hi;rw[Ad K,Ad K,M,Q,jk hi,jk (HH _ K)]at k;simp only[Ak]at k;exact⟨i,hi,k.1,k.2⟩
  ·have g:=n18 Q
   have hi:i+QG.tail.length<(QG.tail.reverse++B.tail.reverse).length:=by omega
   have k:=h.ix (i+QG.tail.length) hi;rw[AU K,AU K,Nat.add_sub_cancel,M,Q,jk hi,jk (HH _ K)]at k;simp only[Ak]at k;exact⟨_,hi,k.1,k.2⟩
end
theorem fan {v:Nat->P2} {n:Nat} {m:P2} (h3:2<n) (h:∀ i,i<n->0<cM (v i) (v ((i+1) % n)) m):∃ k,k+1<n/\Wn m (v 0) (v k) (v (k+1)):=by
 have key:∀ k,1<=k->k<n->(∃ k,k+1<n/\0<cM (v 0) (v k) m/\cM (v 0) (v (k+1)) m<=0)∨0<cM (v 0) (v k) m:=by
  intro k;induction k with
  |zero=>intro h;omega
  |succ k ih=>
    intro _ hk;by_cases e:k=0
    ·subst e;have:=h 0 K;rw[Jp K]at this;exact .inr this
    ·rcases ih K K with k1|k1
     ·exact .inl k1
     ·by_cases h0:cM (v 0) (v (k+1)) m<=0
      ·exact .inl ⟨k,hk,k1,h0⟩
      ·exact .inr K
 have last:=h (n-1) K;rw[Nat.sub_add_cancel K,Nat.mod_self,je]at last;rcases key (n-1) K K with ⟨k,hk,k1,k2⟩|k1
 ·refine⟨k,hk,?_⟩
  have k3:=h k K;rw[Jp hk]at k3;have e:cM (v 0) (v k) (v (k+1))=cM (v 0) (v k) m+cM (v k) (v (k+1)) m-cM (v 0) (v (k+1)) m:=by unfold cM sd;grind
  refine⟨K,.inl ⟨K,K,?_⟩⟩;rw[je];omega
 ·omega
theorem qJ {a b m:P2} {r:Int} (hr:0<=r):Dd a b m r=true↔Nq a.1 a.2 b.1 b.2 m.1 m.2 1 r:=al8 hr
section
variable {AI:P2->Prop} {m:P2} {r:Int}
theorem afa (hr:0<=r) (h:El AI m r):KM AI m.1 m.2 r:=by
 rcases h with ⟨a,b,ha,hb,h⟩|⟨a,b,c,ha,hb,hc,M,Q⟩
 ·obtain ⟨n,k,M,Q,h3,h4⟩:=(qJ hr).1 h
  rw[Int.mul_one]at h4;refine⟨(k-n)*a.1+n*b.1,(k-n)*a.2+n*b.2,k,h3,λQG B C hq=>?_,?_⟩
  ·have k1:=mP (show 0<=k-n by omega) (hq a ha)
   have k2:=mP M (hq b hb);have e:QG*((k-n)*a.1+n*b.1)+B*((k-n)*a.2+n*b.2)+C*k=(k-n)*(QG*a.1+B*a.2+C)+n*(QG*b.1+B*b.2+C):=by grind
   omega
  ·rw[Fu,Fu]at h4;exact h4
 ·refine ⟨m.1,m.2,1,K,λQG B C hq=>?_,?_⟩
  ·have fa:=hq a ha
   have n16:=hq b hb;have fc:=hq c hc;have e:cM a b c*(QG*m.1+B*m.2+C*1)=cM b c m*(QG*a.1+B*a.2+C)+cM c a m*(QG*b.1+B*b.2+C)+cM a b m*(QG*c.1+B*c.2+C):=by unfold cM sd;grind
   have es:cM a b c=cM b c m+cM c a m+cM a b m:=by unfold cM sd;grind
   rcases Q with ⟨g1,g2,g3⟩|⟨g1,g2,g3⟩
   ·have k1:=mP g2 fa;have k2:=mP g3 n16;have k3:=mP g1 fc;exact p7 (k:=cM a b c) K (by rw[Ek];omega)
   ·have k1:=mP (show 0<=-cM b c m by omega) fa;have k2:=mP (show 0<=-cM c a m by omega) n16;have k3:=mP (show 0<=-cM a b m by omega) fc;rw[Int.neg_mul]at k1 k2 k3;exact p7 (k:=-cM a b c) K (by rw[Ek,Int.neg_mul];omega)
  ·rw[Fu,Fu,Int.sub_self,Int.sub_self,Fu];have:=pf r;unfold q2;omega
theorem ac5 {a:P2} (h:q2 (m.1-a.1) (m.2-a.2)<=r*r) (b:P2):Nq a.1 a.2 b.1 b.2 m.1 m.2 1 r:=by refine⟨0,1,K,K,K,?_⟩;rw[show 1*m.1-1*((1-0)*a.1+0*b.1)=m.1-a.1 by omega,show 1*m.2-1*((1-0)*a.2+0*b.2)=m.2-a.2 by omega,show 1*1*r=r by omega];exact h
end
section
variable {c:List P2} (hs:c.Pairwise gh)
include c hs
theorem alZ {m:P2} {r:Int} (h:TP (fj c) m r):El (λPX=>PX∈c) m r:=by
 match c,hs with
 |[],_=>
   rcases h with ⟨i,hi,_⟩|⟨h,_⟩
   ·exact absurd hi (by simp[fj])
   ·exact absurd h (by simp[fj])
 |[a],_=>
   rcases h with ⟨i,hi,h⟩|⟨h,_⟩
   ·simp only[fj,List.length_singleton]at hi h
    have e:i=0:=by omega
    subst e;exact .inl ⟨a,a,au,au,h⟩
   ·exact absurd h (by simp[fj])
 |a::b::l,hs=>
   obtain⟨z,Pu⟩:=ah9 hs au;unfold fj at h;rcases h with ⟨i,hi,h⟩|⟨h3,h⟩
   ·have k:=Pu.e1 (Pu.cyc.1 ⟨i,hi,rfl,rfl⟩);exact .inl ⟨_,_,k.2.1,k.2.2.1,h⟩
   ·have V5:2<((bu [] (a::b::l)).tail.reverse++(bu [] (a::b::l).reverse).tail.reverse).length:=h3;obtain⟨k,hk,hw⟩:=fan (n:=((bu [] (a::b::l)).tail.reverse++(bu [] (a::b::l).reverse).tail.reverse).length) V5 h;have mem:∀i,i<((bu [] (a::b::l)).tail.reverse++(bu [] (a::b::l).reverse).tail.reverse).length->jE ((bu [] (a::b::l)).tail.reverse++(bu [] (a::b::l).reverse).tail.reverse) i∈a::b::l:=λi hi=>(Pu.e1 (Pu.cyc.1 ⟨i,hi,rfl,rfl⟩)).2.1;exact .inr ⟨_,_,_,mem 0 K,mem k K,mem (k+1) hk,hw⟩
theorem ar4 (h0:c≠[]) {m:P2} {r:Int} (hr:0<=r) (h:KM (λPX=>PX∈c) m.1 m.2 r):TP (fj c) m r:=by
 match c,hs,h0 with
 |[a],_,_=>
   obtain⟨x,y,k,hk,hI,hq⟩:=h;have i1:=hI 1 0 (-a.1) λPX hq=>by simp only[I9]at hq;subst hq;omega
   have i2:=hI (-1) 0 a.1 λPX hq=>by simp only[I9]at hq;subst hq;omega
   have i3:=hI 0 1 (-a.2) λPX hq=>by simp only[I9]at hq;subst hq;omega
   have i4:=hI 0 (-1) a.2 λPX hq=>by simp only[I9]at hq;subst hq;omega
   rw[Int.neg_mul]at i1 i3;have ex:x=k*a.1:=by rw[Int.mul_comm];omega
   have ey:y=k*a.2:=by rw[Int.mul_comm];omega
   refine .inl ⟨0,by simp[fj],(qJ hr).2 (ac5 ?_ _)⟩;show q2 (m.1-a.1) (m.2-a.2)<=r*r;rw[ex,ey,← Int.mul_sub,← Int.mul_sub,zk]at hq;refine to hk ?_;have e:k*r*(k*r)=k*k*(r*r):=by grind
   omega
 |a::b::l,hs,_=>
   obtain⟨z,Pu⟩:=ah9 hs au;unfold fj;have la:=Pu.lenA;have lb:=Pu.lenB;by_cases hf:(bu [] (a::b::l)).length<3/\(bu [] (a::b::l).reverse).length<3
   ·obtain⟨eA,eB,hflat⟩:=Pu.flat hf.1 hf.2;have k:=hpa Pu.zm Pu.hz Pu.hm hflat hr h;have e:Ed (bu [] (a::b::l)) (bu [] (a::b::l).reverse) a z:=.inl (by rw[eA];exact oc);obtain⟨i,hi,M,Q⟩:=Pu.cyc.2 e;exact .inl ⟨i,hi,by rw[M,Q];exact(qJ hr).2 k⟩
   ·have hn:tj (λPX=>PX∈a::b::l):=Pu.bend K
    by_cases hx:∃i,i<((bu [] (a::b::l)).tail.reverse++(bu [] (a::b::l).reverse).tail.reverse).length/\cM (jE ((bu [] (a::b::l)).tail.reverse++(bu [] (a::b::l).reverse).tail.reverse) i) (jE ((bu [] (a::b::l)).tail.reverse++(bu [] (a::b::l).reverse).tail.reverse) ((i+1) % ((bu [] (a::b::l)).tail.reverse++(bu [] (a::b::l).reverse).tail.reverse).length)) m<=0
    ·obtain⟨i,hi,hx⟩:=hx;obtain⟨p,PX,he,hk⟩:=Pu.near hn hr h (e0:=(_,_)) (Pu.cyc.1 ⟨i,hi,rfl,rfl⟩) hx;obtain⟨j,hj,M,Q⟩:=Pu.cyc.2 he;exact .inl ⟨j,hj,by rw[M,Q];exact(qJ hr).2 hk⟩
    ·refine .inr ⟨by simp only[Du,Ef,Iy];omega,λi hi=>?_⟩;apply Classical.byContradiction;intro hn;exact hx ⟨i,hi,Int.not_lt.1 hn⟩
theorem aiH (h0:c≠[]) {m:P2} {r:Int} (hr:0<=r):TP (fj c) m r↔El (λPX=>PX∈c) m r:=⟨alZ hs,λh=>ar4 hs h0 hr (afa hr h)⟩
end
end
end Go.Dx
namespace Go.Dx
open Go.Sx
noncomputable section
abbrev Ai:List Ty:=[Ty.int IntKind.i64,Ty.int IntKind.i64]
def pq (f:be) (i:Nat):P2:=(aA (f i),aR (f i))
def Hb (p:P2):List V:=[V.int .i64 p.1,V.int .i64 p.2]
theorem sK (f:be) (i:Nat):pq (A Ai f) i=pq f i:=rfl
def Aj (n:Nat) (f:be):List P2:=(List.range n).map (pq f)
theorem dQ (n:Nat) (f:be):(Aj n f).length=n:=by simp[Aj]
theorem yk {n:Nat} {f:be} {k:Nat} (h:k<n):(Aj n f)[k]? = some (pq f k):=by simp[Aj,h]
theorem amC (n:Nat) (f:be):Aj n (A Ai f)=Aj n f:=rfl
theorem qf {n:Nat} {f:be} {PX:P2}:PX∈Aj n f↔∃k,k<n/\pq f k=PX:=by simp[Aj]
theorem yn (n:Nat) (f:be) (p:P2):Aj (n+1) (bc n (A Ai f) λ_=>Hb p)=Aj n f++[p]:=by
 unfold Aj;rw[List.range_succ,List.map_append];congr 1
 ·refine Iu λk hk=>?_;have hk:=List.mem_range.1 hk;unfold pq bc;rw[show Nat.blt k n=true from EC hk];rfl
 ·simp only [DX,Ft,Cc,and_true]
  unfold pq bc;have:Nat.blt n n=false:=by
   cases hb:Nat.blt n n with
   |false=>rfl|true=>have:=Bf hb;omega
  rw[this];rfl
theorem abm {n m:Nat} {f:be} (h:m<=n):Aj m f=(Aj n f).take m:=by unfold Aj;rw[← List.map_take,List.take_range,IG h]
theorem GO {f:be} {j k:Nat} {l:List V}:pq (λi=>bif Nat.beq i j then l else f i) k=if k=j then(aA l,aR l) else pq f k:=by
 unfold pq;dsimp only
 by_cases h:k=j
 ·subst h;rw[Ad rfl,Nat.beq_refl];rfl
 ·rw [AU h]
  have:Nat.beq k j=false:=by
   cases hb:Nat.beq k j with
   |false=>rfl|true=>exact(h (Ap hb)).elim
  rw[this];rfl
theorem hr3 {a b c:P2} (M:o8 a b) (Q:o8 b c):o8 a c:=by unfold o8 at *;omega
theorem LE {a b:P2} (h:¬gh a b):o8 b a:=by unfold gh o8 at *;omega
theorem aa8 {a b:P2} (h:o8 a b) (hn:¬(b.1=a.1/\b.2=a.2)):gh a b:=by unfold gh o8 at *;omega
def K8 (f:be) (i j:Nat):Nat->List V:=λi'=>bif Nat.beq i' j then Hb (pq f i) else bif Nat.beq i' i then Hb (pq f j) else A Ai f i'
theorem xY (f:be) (i j k:Nat):pq (K8 f i j) k=if k=j then pq f i else if k=i then pq f j else pq f k:=by
 unfold K8;rw[GO];by_cases h:k=j
 ·rw[Ad h,Ad h];rfl
 ·rw[AU h,AU h];have:=GO (f:=A Ai f) (j:=i) (k:=k) (l:=Hb (pq f j));rw[this];rfl
section
variable {Pn:Nat} {AI:P2->Prop}
def mV (Pn:Nat) (AI:P2->Prop) (f:be):Prop:=∀PX,AI PX↔∃k,k<Pn/\pq f k=PX
def JZ (i:Nat) (f:be):Prop:=∀a b,a<b->b<i->o8 (pq f a) (pq f b)
def K4 (i:Nat) (f:be):Prop:=∀a b,a<b->b<i->gh (pq f a) (pq f b)
theorem ahi {f:be} {i j:Nat} (hi:i<Pn) (hj:j<Pn) (h:mV Pn AI f):mV Pn AI (K8 f i j):=λPX=>by
 rw[h PX];constructor
 ·rintro ⟨k,hk,e⟩
  by_cases M:k=i
  ·exact⟨j,hj,by rw[xY,Ad rfl,← M];exact e⟩
  ·by_cases Q:k=j
   ·refine⟨i,hi,?_⟩
    rw[xY];by_cases h3:i=j
    ·rw[Ad h3];rw[h3,← Q];exact e
    ·rw[AU h3,Ad rfl,← Q];exact e
   ·exact⟨k,hk,by rw[xY,AU Q,AU M];exact e⟩
 ·rintro ⟨k,hk,e⟩
  rw[xY]at e;by_cases Q:k=j
  ·rw[Ad Q]at e;exact⟨i,hi,e⟩
  ·rw[AU Q]at e
   by_cases M:k=i
   ·rw[Ad M]at e;exact⟨j,hj,e⟩
   ·rw[AU M]at e;exact⟨k,hk,e⟩
theorem yK {P0:Nat->(Nat->List V)->Prop} {P1:Nat->Nat->(Nat->List V)->Prop}
 (s0:∀i f,1<=i->i<Pn->P1 i i (A Ai f)->P0 i f)
 (s0e:∀f,JZ Pn f->mV Pn AI f->P0 Pn f)
 (s1a:∀j i f,0<j->j<=i->i<Pn->mV Pn AI f->gh (pq f j) (pq f (j-1))->P1 (j-1) i (K8 f j (j-1))->P1 j i f)
 (s1b:∀j i f,j<=i->i<Pn->mV Pn AI f->(0<j->¬gh (pq f j) (pq f (j-1)))->P0 (i+1) (A Ai f)->P1 j i f) :
 ∀m i f,i+m=Pn->1<=i->JZ i f->mV Pn AI f->P0 i f
 |0,i,f,M,_,Q,h3=>by rw[show i=Pn by omega]at Q ⊢;exact s0e f Q h3
 |m+1,i,f,M,hi,Q,h3=>by
   refine s0 i f hi K ?_;have key:∀ j f,j<=i->(∀ a b,a<b->b<=i->b≠j->o8 (pq f a) (pq f b))->mV Pn AI f->P1 j i f:=by
    intro j;induction j with
    |zero=>intro f hj hins hm;refine s1b 0 i f hj K hm (λh=>by omega) (yK s0 s0e s1a s1b m (i+1) _ K K (λa b SI hb=>?_) hm);exact hins a b SI K K
    |succ j ih=>
      intro f hj hins hm;by_cases Pj:gh (pq f (j+1)) (pq f j)
      ·refine s1a (j+1) i f K hj K hm Pj (ih _ K (λa b SI hb hbj=>?_) (ahi K K hm))
       simp only[Nat.add_sub_cancel]at *
       rw[xY,xY];by_cases b1:b=j+1
       ·subst b1
        rw[AU (by omega:¬j+1=j),Ad rfl];by_cases a1:a=j
        ·rw[Ad a1];exact uX Pj
        ·rw[AU a1,AU K];exact hins a j K K K
       ·rw [AU hbj,AU b1]
        by_cases a1:a=j
        ·rw[Ad a1];exact hins (j+1) b K hb K
        ·rw[AU a1]
         by_cases a2:a=j+1
         ·rw[Ad a2];exact hins j b K hb K
         ·rw[AU a2];exact hins a b SI hb K
      ·refine s1b (j+1) i f hj K hm (λ_=>Pj) (yK s0 s0e s1a s1b m (i+1) _ K K (λa b SI hb=>?_) hm)
       rw[sK,sK];by_cases b1:b=j+1
       ·subst b1
        have k:=LE Pj;by_cases a1:a=j
        ·subst a1;exact k
        ·exact hr3 (hins a j K K K) k
       ·exact hins a b SI K b1
   exact key i _ (Ah _) (λa b SI hb iza25=>Q a b SI K) h3
theorem adH {P2':Nat->(Nat->List V)->Prop} {P3:Nat->Nat->Nat->(Nat->List V)->Prop}
 (n11:∀f,K4 Pn f->mV Pn AI f->P2' Pn f)
 (n12:∀i f,1<=i->i<Pn->¬((pq f i).1=(pq f (i-1)).1/\(pq f i).2=(pq f (i-1)).2)->P2' (i+1) (A Ai f)->P2' i f)
 (n10:∀i f,1<=i->i<Pn->((pq f i).1=(pq f (i-1)).1/\(pq f i).2=(pq f (i-1)).2)->P3 1 i i (A Ai f)->P2' i f)
 (ds:∀ k off m f,1<=k->off+k<Pn->1<=m->m<=off+k-1->¬ ((pq f (off+k)).1=(pq f (off+(k-1))).1/\(pq f (off+k)).2=(pq f (off+(k-1))).2) ->
   P3 (k+1) off (m+1) (λi'=>bif Nat.beq i' m then Hb (pq f (off+k)) else A Ai f i')->P3 k off m f)
 (n14:∀k off m f,1<=k->off+k<Pn->1<=m->m<=off+k-1->((pq f (off+k)).1=(pq f (off+(k-1))).1/\(pq f (off+k)).2=(pq f (off+(k-1))).2)->P3 (k+1) off m (A Ai f)->P3 k off m f)
 (n13:∀off m f,off<Pn->1<=m->m<Pn->K4 m f->mV m AI f->P3 (Pn-off) off m f) :
 ∀m i f,i+m=Pn->1<=i->JZ Pn f->K4 i f->mV Pn AI f->P2' i f
 |0,i,f,M,_,_,Q,h3=>by rw[show i=Pn by omega]at Q ⊢;exact n11 f Q h3
 |m+1,i,f,M,hi,hS,Q,h3=>by
   by_cases he:(pq f i).1=(pq f (i-1)).1/\(pq f i).2=(pq f (i-1)).2
   ·refine n10 i f hi K he ?_
    have key:∀ r k m g,k+r=Pn-i->1<=k->i<=m->m<=i+k-1->(∀ t,i+k-1<=t->t<Pn->pq g t=pq f t)->K4 m g->(∀ PX,(∃ a,a<m/\pq g a=PX)↔∃ a,a<i+k/\pq f a=PX)->pq g (m-1)=pq f (i+k-1)->P3 k i m g:=by
     intro r;induction r with
     |zero=>
       intro k m g hk W6 him hm hu SX hmem hl;rw[show k=Pn-i by omega]at *
       refine n13 i m g K K K SX λPX=>?_;rw[h3 PX,hmem PX,show i+(Pn-i)=Pn by omega]
     |succ r ih=>
       intro k m g hk W6 him hm hu SX hmem hl;have u1:=hu (i+k) K K;have u2:=hu (i+(k-1)) K K;rw[show i+k-1=i+(k-1) by omega]at hl;by_cases hd:(pq g (i+k)).1=(pq g (i+(k-1))).1/\(pq g (i+k)).2=(pq g (i+(k-1))).2
       ·refine n14 k i m g W6 K K hm hd (ih (k+1) m _ K K him K (λt ht=>hu t K) SX (λPX=>?_) ?_)
        ·have:=hmem PX
         simp only[sK];rw[this];constructor
         ·rintro⟨a,ha,e⟩;exact⟨a,K,e⟩
         ·rintro ⟨a,ha,e⟩
          by_cases ea:a=i+k
          ·subst ea;refine⟨i+(k-1),K,?_⟩;rw[← e,← u1,← u2];exact(Prod.ext hd.1 hd.2).symm
          ·exact⟨a,K,e⟩
        ·rw[sK,hl,show i+(k+1)-1=i+k by omega,← u1,← u2];exact(Prod.ext hd.1 hd.2).symm
       ·have Pj:gh (pq g (m-1)) (pq g (i+k)):=by
         refine aa8 ?_ ?_
         ·rw[hl,u1];exact hS _ _ K K
         ·rw[hl,← u2];exact hd
        have hs:∀t,pq (λi'=>bif Nat.beq i' m then Hb (pq g (i+k)) else A Ai g i') t=if t=m then pq g (i+k) else pq g t:=λt=>by rw[GO];rfl
        refine ds k i m g W6 K K hm hd (ih (k+1) (m+1) _ K K K K (λt ht np14=>?_) (λa b SI hb=>?_) (λPX=>?_) ?_)
        ·rw[hs,AU K];exact hu t K np14
        ·rw [hs,hs]
         by_cases b1:b=m
         ·rw[AU K,Ad b1]
          by_cases a1:a=m-1
          ·rw[a1];exact Pj
          ·exact qx (SX a (m-1) K K) Pj
         ·rw[AU K,AU b1];exact SX a b SI K
        ·constructor
         ·rintro ⟨a,ha,e⟩
          rw[hs]at e;by_cases a1:a=m
          ·rw[Ad a1]at e;exact⟨i+k,K,by rw[← u1];exact e⟩
          ·rw[AU a1]at e;obtain⟨c,hc,e'⟩:=(hmem PX).1 ⟨a,K,e⟩;exact⟨c,K,e'⟩
         ·rintro ⟨a,ha,e⟩
          by_cases a1:a=i+k
          ·exact⟨m,K,by rw[hs,Ad rfl,u1,← a1];exact e⟩
          ·obtain⟨c,hc,e'⟩:=(hmem PX).2 ⟨a,K,e⟩;exact⟨c,K,by rw[hs,AU K];exact e'⟩
        ·rw[hs,Nat.add_sub_cancel,Ad rfl,show i+(k+1)-1=i+k by omega,u1]
    refine key (Pn-i-1) 1 i _ K (Ah _) (Ah _) K (λt _ _=>sK f t) Q (λPX=>?_) ?_
    ·simp only [sK]
     constructor
     ·rintro⟨a,ha,e⟩;exact⟨a,K,e⟩
     ·rintro⟨a,ha,e⟩
      by_cases ea:a=i
      ·subst ea;exact⟨a-1,K,by rw[← e];exact(Prod.ext he.1 he.2).symm⟩
      ·exact⟨a,K,e⟩
    ·rw[sK,show i+1-1=i by omega];exact(Prod.ext he.1 he.2).symm
   ·refine n12 i f hi K he (adH n11 n12 n10 ds n14 n13 m (i+1) _ K K hS (λa b SI hb=>?_) h3)
    rw[sK,sK];by_cases b1:b=i
    ·subst b1
     have Pj:gh (pq f (b-1)) (pq f b):=aa8 (hS _ _ K K) he;by_cases a1:a=b-1
     ·rw[a1];exact Pj
     ·exact qx (Q a (b-1) K K) Pj
    ·exact Q a b SI K
end
theorem Dc {Pn:Nat} {g:Nat->P2} {P:Nat->Nat->(Nat->List V)->Prop} (r1:∀ i j f,i<j->j<Pn->P (i+1) (j-1) (K8 f i j)->P i j f)
 (r2:∀i j f,¬i<j->(∀k,k<Pn->pq f k=g (Pn-1-k))->P i j f) :
 ∀m i j f,j-i<=m->i+j+1=Pn->(∀k,k<Pn->pq f k=if k<i∨j<k then g (Pn-1-k) else g k)->P i j f
 |m,i,j,f,hm,hN,h=>by
   by_cases Tu:i<j
   ·match m,hm with
    |0,hm=>omega
    |m+1,hm=>
      refine r1 i j f Tu K (Dc r1 r2 m (i+1) (j-1) _ K K λk hk=>?_);rw[xY];by_cases k1:k=j
      ·rw[Ad k1,Ad K,h i K,AU K,show Pn-1-k=i by omega]
      ·rw [AU k1]
       by_cases k2:k=i
       ·rw[Ad k2,Ad K,h j K,AU K,show Pn-1-k=j by omega]
       ·rw[AU k2,h k hk]
        by_cases k3:k<i∨j<k
        ·rw[Ad k3,Ad K]
        ·rw[AU k3,AU K]
   ·refine r2 i j f Tu λk hk=>?_
    rw[h k hk];by_cases k3:k<i∨j<k
    ·rw[Ad k3]
    ·rw[AU k3,show Pn-1-k=k by omega]
theorem nK {base c:List P2} {PO:Nat->Nat->(Nat->List V)->Prop} {PI:Nat->Nat->Nat->(Nat->List V)->Prop} {Rb:Nat} (hM:base.length+c.length<=Rb)
 (hO:∀i n fo,i<c.length->n<=Rb->PI i n n (A Ai fo)->PO i n fo)
 (hpop:∀i n cap fo,i<c.length->base.length+1<n->n<=cap->cap<=Rb->(∀k,k<n->pq fo k∈base∨pq fo k∈c)->cM (pq fo (n-2)) (pq fo (n-1)) (jE c i)<=0->PI i (n-1) cap (A Ai fo)->PI i n cap fo)
 (happ:∀i n cap fo,i<c.length->base.length<=n->(∀k,k<n->pq fo k∈base∨pq fo k∈c)->(base.length+1<n->0<cM (pq fo (n-2)) (pq fo (n-1)) (jE c i))->n<=cap->cap<=Rb->PO (i+1) (n+1) (bc n (A Ai fo) λ_=>Hb (jE c i))->PI i n cap fo)
 (hE:∀n fo,Aj n fo=base++(bu [] c).reverse->PO c.length n fo) :
 ∀(l done st:List P2) (n:Nat) (fo:be),c=done++l->bu st l=bu [] c->Aj n fo=base++st.reverse->st.length<=done.length->(∀PX∈st,PX∈c)->PO done.length n fo
 |[],done,st,n,fo,M,Q,h3,_,_=>by rw[Jc]at M;rw[← M];simp only[bu]at Q;exact hE n fo (by rw[h3,Q])
 |p::l,done,st,n,fo,M,Q,h3,h4,h5=>by
   have hlen:done.length<c.length:=by rw[M];simp
   have hp:jE c done.length=p:=by have:=jk (l:=c) hlen;rw[M,DD (Ah _),If]at this;simp only[E9,Ak]at this;rw[M];exact this.symm
   have WV:∀{st:List P2} {n fo},Aj n fo=base++st.reverse->n=base.length+st.length:=λ{st n fo} h=>by have:=congrArg List.length h;rwa [dQ,Du,Ef]at this
   have hn:=WV h3;have izb3:p∈c:=by rw[M];simp
   have Qo:∀ {st:List P2} {n fo},(∀ PX∈st,PX∈c)->Aj n fo=base++st.reverse->∀ k,k<n->pq fo k∈base∨pq fo k∈c:=λ{st n fo} hs h k hk=>by
    have:pq fo k∈base++st.reverse:=by rw[← h];exact qf.2 ⟨k,hk,rfl⟩
    rcases List.mem_append.1 this with h|h
    ·exact .inl h
    ·exact .inr (hs _ (List.mem_reverse.1 h))
   refine hO done.length n fo hlen K ?_;have fin:∀ (st':List P2) (n:Nat) (fo:be),kQ p st'=st'->st'.length<=done.length->(∀ PX∈st',PX∈c)->kQ p st'=kQ p st->Aj n fo=base++st'.reverse->PO (done.length+1) (n+1) (bc n (A Ai fo) λ_=>Hb (jE c done.length)):=λst' n fo e0 RO Ra e hl=>by
    have:=nK hM hO hpop happ hE l (done++[p]) (p::st') (n+1) (bc n (A Ai fo) λ_=>Hb (jE c done.length)) (by rw[M];simp) (by rw[← Q];simp only[bu];rw[← e,e0]) (by rw[yn,hl,hp];simp) (by simp;omega) (λPX hq=>by
     rcases List.mem_cons.1 hq with rfl|hq
     ·exact izb3
     ·exact Ra PX hq)
    rwa [Du,List.length_singleton]at this
   have key:∀ (st':List P2) (n:Nat) (fo:be),st'.length<=done.length->(∀ PX∈st',PX∈c)->kQ p st'=kQ p st->Aj n fo=base++st'.reverse->∀ cap,n<=cap->cap<=Rb->PI done.length n cap fo:=by
    intro st';induction st' with
    |nil=>intro n fo QM SX hpop' hl cap hc W5;have V9:=WV hl;simp only[EJ]at V9;refine happ done.length n cap fo hlen K (Qo SX hl) (λh=>by omega) hc W5 (fin [] n fo rfl QM SX hpop' hl)
    |cons b st' ih=>
      intro n fo QM SX hpop' hl cap hc W5;cases st' with
      |nil=>have V9:=WV hl;simp only[Dl,EJ]at V9;exact happ done.length n cap fo hlen K (Qo SX hl) (λh=>by omega) hc W5 (fin [b] n fo rfl QM SX hpop' hl)
      |cons a l'=>
        have V9:=WV hl;simp only[Dl]at V9;have e1:pq fo (n-1)=b:=by
         have:=yk (f:=fo) (n:=n) (k:=n-1) K;rw[hl,DD K,EV,EV,DD (by simp;omega)]at this;have e:n-1-base.length-(l'.reverse++[a]).length=0:=by simp;omega
         rw[e]at this;simp only[E9,Ak]at this;exact this.symm
        have e2:pq fo (n-2)=a:=by
         have:=yk (f:=fo) (n:=n) (k:=n-2) K;rw[hl,DD K,EV,EV,BF (by simp;omega),DD (by simp;omega)]at this;have e:n-2-base.length-l'.reverse.length=0:=by simp;omega
         rw[e]at this;simp only[E9,Ak]at this;exact this.symm
        by_cases hs:cM a b p<=0
        ·refine hpop done.length n cap fo hlen K hc W5 (Qo SX hl) (by rw[e1,e2,hp];exact hs) (ih (n-1) _ (by simp only[Dl]at QM ⊢;omega) (λPX hq=>SX PX (Do _ hq)) ?_ ?_ cap K W5)
         ·rw[← hpop'];simp only[kQ];rw[AG hs];rfl
         ·rw[amC,abm (n:=n) K,hl];rw[EV (a:=b),← IA,Im (by simp;omega),I5 (by simp;omega)]
        ·refine happ done.length n cap fo hlen K (Qo SX hl) (λ_=>by rw[e1,e2,hp];omega) hc W5 (fin (b::a::l') n fo ?_ QM SX hpop' hl);simp only[kQ];rw[eM hs];rfl
   exact key st n (A Ai fo) h4 h5 rfl h3 n (Ah _) K
def mf (p:P2):Prop:=sm p.1/\sm p.2
theorem atF {a b:P2} (ha:mf a) (hb:mf b):decide (rN a.1 a.2 b.1 b.2<0)=true↔gh a b:=by
 unfold mf sm at ha hb;unfold rN gh;rw[DJ];by_cases h:a.1=b.1
 ·have:(a.1 != b.1)=false:=by simp[h]
  rw[this,cond_false,AX K K];omega
 ·have:(a.1 != b.1)=true:=by simp[h]
  rw[this,cond_true,AX K K];omega
theorem X1 {a b p:P2} (ha:mf a) (hb:mf b) (hp:mf p):kO a.1 a.2 b.1 b.2 p.1 p.2=cM a b p:=by unfold kO;exact(arO ha.1 ha.2 hb.1 hb.2 hp.1 hp.2).1
theorem fx15 {a b p:P2} {r:Int} (ha:mf a) (hb:mf b) (hp:mf p) (h7:0<=r) (h8:r<=1073741824):kx a.1 a.2 b.1 b.2 p.1 p.2 r=Dd a b p r:=c62 ha.1 ha.2 hb.1 hb.2 hp.1 hp.2 h7 h8
theorem Kr (a b c d:Int):(a==b&&(c==d&&true))=decide (a=b/\c=d):=by by_cases M:a=b<;>by_cases Q:c=d<;>simp[M,Q]
theorem zT {j:Nat} (h:0<j) (hj:j<=1000):E ((j:Int)-1)=((j-1:Nat):Int):=by rw[AX K K];omega
theorem He {j:Nat} (h:1<j) (hj:j<=1000):E ((j:Int)-2)=((j-2:Nat):Int):=by rw[AX K K];omega
theorem De {j:Nat} (hj:j<=1000):E ((j:Int)+1)=((j+1:Nat):Int):=by rw[AX K K];omega
theorem iQ {Pe:Type} {Nx:Pe->V->Prop} {r:V} {C b1 b2 b3 b4 s:Bool} {X QE id3:RT Pe} (hb:C=true->b1=true/\b2=true/\b3=true/\b4=true) (hX:C=true->s=true->aU Nx X r) (hY:C=true->s=false->aU Nx QE r) (ybp:C=false->aU Nx id3 r) :
 aU Nx (.obi (.obi (.obi (.obi (.obj C b1 (.obi (.obj C b2 (.obi (.obi (.obi (.obi (.obj C b3 (.obi (.obj C b4 (.obi (.obi (.br C (.ob C (.ob C (.obc (.obt (.br s X QE))))) id3))))))))))))))))) r :=
 AE (AE (AE (AE (Ba (λh=>(hb h).1) (AE (Ba (λh=>(hb h).2.1) (AE (AE (AE (AE (Ba (λh=>(hb h).2.2.1) (AE (Ba (λh=>(hb h).2.2.2) (AE (AE (AP (λh=>aF h (aF h (AM (ac (AP (hX h) (hY h)))))) ybp))))))))))))))))
def UH (Pu:List P2) (m:P2) (r:Int):Bool:=@decide (TP Pu m r) (Classical.propDecidable _)
theorem adc {Pu:List P2} {m:P2} {r:Int} (h:TP Pu m r):UH Pu m r=true:=@AG _ (Classical.propDecidable _) h
theorem aql {Pu:List P2} {m:P2} {r:Int} (h:¬TP Pu m r):UH Pu m r=false:=@eM _ (Classical.propDecidable _) h
theorem m5 {n cap:Nat} (h:n<=cap) (hc:cap<=1000):(decide (n<=cap/\(n+1)*16<=140737488355328)&&!Nat.beq 16 0)=true:=by rw[Ae];exact⟨AG ⟨h,K⟩,rfl⟩
theorem ir {n:Nat} {f:be} {k:Nat} (h:k<n):jE (Aj n f) k=pq f k:=by have M:=jk (l:=Aj n f) (i:=k) (by rw[dQ];exact h);rw[yk h]at M;exact(Option.some.inj M).symm
theorem acr {c:List P2} (h:2<=c.length):fj c=(bu [] c).tail.reverse++(bu [] c.reverse).tail.reverse:=by
 match c,h with
 |a::b::l,_=>rfl
theorem K4.cong {m:Nat} {f g:be} (h:K4 m f) (e:∀k,k<m->pq g k=pq f k):K4 m g:=λa b M Q=>by rw[e a K,e b Q];exact h a b M Q
theorem mV.cong {m:Nat} {AI:P2->Prop} {f g:be} (h:mV m AI f) (e:∀k,k<m->pq g k=pq f k):mV m AI g:=λPX=>by rw[h PX];exact⟨λ⟨k,hk,h⟩=>⟨k,hk,by rw[e k hk];exact h⟩,λ⟨k,hk,h⟩=>⟨k,hk,by rw[← e k hk];exact h⟩⟩
theorem BB {f:be} {l:List V} {m n k:Nat} (h:k<m):pq (λi=>bif Nat.ble m i&&Nat.ble i.succ n then l else A Ai f i) k=pq f k:=by
 unfold pq;dsimp only
 have:Nat.ble m k=false:=by
  cases hb:Nat.ble m k with
  |false=>rfl|true=>have:=Bf hb;omega
 rw[this];rfl
section
variable {m:Nat} {f:be}
include m f
theorem fc1 (h:K4 m f):(Aj m f).Pairwise gh:=by unfold Aj;rw[List.pairwise_map];refine List.Pairwise.imp_of_mem ?_ (List.pairwise_lt_range (n:=m));intro a b ha hb SI;exact h a b SI (List.mem_range.1 hb)
theorem avP {g:be} (h:∀ k,k<m->pq g k=pq f (m-1-k)):Aj m g=(Aj m f).reverse:=by
 apply ED;intro k;by_cases hk:k<m
 ·rw[yk hk,List.getElem?_reverse (by rw[dQ];exact hk),dQ,yk K,h k hk]
 ·rw[D1 (by rw[dQ];omega),D1 (by rw[Ef,dQ];omega)]
theorem afS {g:be} (h:∀k,k<m->pq g k=pq f k):Aj m g=Aj m f:=by unfold Aj;exact Iu λk hk=>h k (List.mem_range.1 hk)
end
theorem sB {n:Nat} {f:be} {base st:List P2} (h:Aj n f=base++st.reverse) (hs:st≠[]):0<n/\Aj (n-1) f=base++st.tail.reverse/\n=base.length+st.length/\0<st.length:=by
 have hl:=congrArg List.length h;rw[dQ,Du,Ef]at hl
 match st,hs with
 |s::l,_=>simp only[Dl]at hl;refine⟨K,?_,by simp only[Dl];omega,au⟩;rw[abm (n:=n) K,h,EV,← IA,Im (by simp;omega),I5 (by simp;omega)];rfl
theorem afH {p PX:P2}:∀ {st:List P2},PX∈kQ p st->PX∈st
 |[],h=>h|[s],h=>h
 |b::a::l,h=>by
   simp only[kQ]at h;cases hd:decide (cM a b p<=0) with
   |true=>rw[hd]at h;exact Do _ (afH h)|false=>rw[hd]at h;exact h
theorem lz {PX:P2}:∀ {l st:List P2},PX∈bu st l->PX∈st∨PX∈l
 |[],st,h=>.inl h
 |p::l,st,h=>by
   simp only[bu]at h;rcases lz h with h|h
   ·rcases List.mem_cons.1 h with rfl|h
    ·exact .inr au
    ·exact .inl (afH h)
   ·exact .inr (Do _ h)
theorem nn:∀ {l st:List P2},st≠[]∨l≠[]->bu st l≠[]
 |[],st,h=>by
   rcases h with h|h
   ·exact h
   ·exact(h rfl).elim
 |p::l,st,_=>nn (l:=l) (.inl au)
theorem aAc {p:P2}:∀ {st:List P2},(kQ p st).length<=st.length
 |[]=>Ah _|[_]=>Ah _
 |b::a::l=>by
   simp only[kQ];cases decide (cM a b p<=0) with
   |true=>have:=aAc (p:=p) (st:=a::l);simp only[Dl,cond_true]at *;omega|false=>exact Ah _
theorem iE:∀ {l st:List P2},(bu st l).length<=st.length+l.length
 |[],st=>Ah _
 |p::l,st=>by simp only[bu];have:=iE (l:=l) (st:=p::kQ p st);have:=aAc (p:=p) (st:=st);simp only[Dl]at *;omega
theorem hpk {PX:P2} {c:List P2} (h:PX∈fj c):PX∈c:=by
 match c,h with
 |[a],h=>exact h
 |a::b::l,h=>
   rcases List.mem_append.1 h with h|h
   ·rcases lz (Km (List.mem_reverse.1 h)) with h|h
    ·cases h
    ·exact h
   ·rcases lz (Km (List.mem_reverse.1 h)) with h|h
    ·cases h
    ·exact List.mem_reverse.1 h
theorem ad1 {c:List P2} (h:c.length<3):fj c=c:=by
 match c,h with
 |[],_=>rfl|[a],_=>rfl|[a,b],_=>rfl
theorem ajP {p:P2}:∀ {st:List P2},st≠[]->kQ p st≠[]
 |[],h=>absurd rfl h|[a],_=>by simp[kQ]
 |b::a::l,_=>by
   unfold kQ;cases decide (cM a b p<=0) with
   |true=>exact ajP au|false=>simp
theorem hmk:∀ (l st:List P2),st≠[]->l≠[]->2<=(bu st l).length
 |[],_,_,h=>absurd rfl h
 |[p],st,h,_=>by have:=List.length_pos_iff.2 (ajP (p:=p) h);show 2<=(p::kQ p st).length;simp only[Dl];omega
 |p::PX::l,st,h,_=>hmk (PX::l) (p::kQ p st) au au
theorem hq2 {c:List P2} (hs:c.Pairwise gh) (h:c≠[]):0<(fj c).length:=by
 match c,h with
 |[a],_=>simp[fj]
 |a::b::l,_=>have:2<=(bu [] (a::b::l)).length:=hmk (b::l) [a] au au;simp only[fj,Du,Ef,Iy];omega
theorem CK:∀ QS:List P2,∃ c:List P2,c.Pairwise gh/\∀ PX,PX∈QS↔PX∈c
 |[]=>⟨[],.nil,λ_=>Iff.rfl⟩
 |a::QS=>by
   obtain⟨c,hc,hm⟩:=CK QS;by_cases ha:a∈c
   ·exact⟨c,hc,λPX=>⟨λh=>(List.mem_cons.1 h).elim (λe=>e▸ha) λh=>(hm PX).1 h,λh=>Do _ ((hm PX).2 h)⟩⟩
   ·have key:∀ c:List P2,c.Pairwise gh->a∉c->∃ d:List P2,d.Pairwise gh/\∀ PX,PX∈d↔PX=a∨PX∈c:=by
     intro c;induction c with
     |nil=>exact λ_ _=>⟨[a],au,λPX=>by simp⟩
     |cons b c ih=>
       intro hs hn;rw[I8]at hs;simp only[Dq,not_or]at hn;obtain⟨d,hd,hq⟩:=ih hs.2 hn.2;rcases qH a b with h|h|h
       ·refine⟨a::b::c,?_,λPX=>by simp⟩;rw[I8,I8];exact⟨λPX hq=>(List.mem_cons.1 hq).elim (λe=>e▸h) λhq=>qx h (hs.1 PX hq),hs⟩
       ·exact absurd h hn.1
       ·refine⟨b::d,?_,λPX=>by simp only[Dq,hq];exact⟨λh=>h.elim (λh=>.inr (.inl h)) λh=>h.elim .inl λh=>.inr (.inr h),λh=>h.elim (λh=>.inr (.inl h)) λh=>h.elim .inl λh=>.inr (.inr h)⟩⟩;rw[I8];exact⟨λPX izb7=>((hq PX).1 izb7).elim (λe=>e▸h) λQ=>hs.1 PX Q,hd⟩
    obtain⟨d,hd,hq⟩:=key c hc ha;exact⟨d,hd,λPX=>by rw[hq,Dq,hm PX]⟩
theorem ayk:∀ {c d:List P2},c.Pairwise gh->d.Pairwise gh->(∀ PX,PX∈c↔PX∈d)->c=d
 |[],[],_,_,_=>rfl|[],b::d,_,_,h=>absurd ((h b).2 au) au|a::c,[],_,_,h=>absurd ((h a).1 au) au
 |a::c,b::d,hc,hd,h=>by
   rw[I8]at hc hd;have SI:a=b:=by
    rcases List.mem_cons.1 ((h a).1 au) with M|M
    ·exact M
    ·rcases List.mem_cons.1 ((h b).2 au) with Q|Q
     ·exact Q.symm
     ·exact absurd (qx (hc.1 b Q) (hd.1 a M)) (gL a)
   subst SI;rw[ayk hc.2 hd.2 λPX=>⟨λhq=>by
    rcases List.mem_cons.1 ((h PX).1 (Do _ hq)) with rfl|M
    ·exact absurd (hc.1 PX hq) (gL PX)
    ·exact M,λhq=>by
    rcases List.mem_cons.1 ((h PX).2 (Do _ hq)) with rfl|M
    ·exact absurd (hd.1 PX hq) (gL PX)
    ·exact M⟩]
noncomputable def JC (QS:List P2) (m:P2) (r:Int):Bool:=UH (fj (Classical.choose (CK QS))) m r
theorem ai3 {c QS:List P2} (hs:c.Pairwise gh) (hm:∀PX,PX∈QS↔PX∈c) {m:P2} {r:Int}:UH (fj c) m r=JC QS m r:=by have k:=Classical.choose_spec (CK QS);unfold JC;rw[ayk hs k.1 λPX=>(hm PX).symm.trans (k.2 PX)]
def ym (QS:List P2) (m:P2) (r:Int):Bool:=@decide (El (λPX=>PX∈QS) m r) (Classical.propDecidable _)
theorem mrg {c QS:List P2} (hs:c.Pairwise gh) (h0:c≠[]) (hm:∀ PX,PX∈QS↔PX∈c) {m:P2} {r:Int} (hr:0<=r):UH (fj c) m r=ym QS m r:=by
 unfold UH ym;have:El (λPX=>PX∈QS) m r↔TP (fj c) m r:=by rw[aiH hs h0 hr,show(λPX=>PX∈QS)=λPX=>PX∈c from funext λPX=>propext (hm PX)]
 by_cases h:TP (fj c) m r
 ·rw[@AG _ (Classical.propDecidable _) h,@AG _ (Classical.propDecidable _) (this.2 h)]
 ·rw[@eM _ (Classical.propDecidable _) h,@eM _ (Classical.propDecidable _) λg=>h (this.1 g)]
theorem id7 {QS:List P2} (h0:QS≠[]) {m:P2} {r:Int} (hr:0<=r):JC QS m r=ym QS m r:=by have k:=Classical.choose_spec (CK QS);exact mrg k.1 (λh=>by obtain⟨a,ha⟩:=List.exists_mem_of_ne_nil _ h0;have:=(k.2 a).1 ha;rw[h]at this;cases this) k.2 hr
end
end Go.Dx
