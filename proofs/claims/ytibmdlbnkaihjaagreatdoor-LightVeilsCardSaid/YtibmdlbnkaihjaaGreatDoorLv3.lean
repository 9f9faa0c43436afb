/- Part 3 of a proof. No conditions. -/
import Derived.Test.YtibmdlbnkaihjaaGreatDoorLv2
import Derived.KernelRfl
import Derived.OpenShut
import Derived.ChangeArms
import Derived.Below
import Derived.ChangeSame
import Derived.Carry
set_option maxRecDepth 100000
set_option linter.unusedVariables false
set_option linter.unusedSimpArgs false
namespace Go.Dx
open Go.Sx
section
variable {w0:World} {ν ν':Nu} {nV nS N:Nat} {h h':List O} {lh lh':List ap} {α:Type} {LP:d7} {Q:α->Prop} {e:bp} {sl:List ak} {ctx:Bool} {S:FuncId->bE}
theorem yab {v:V} {K:V->T α} (hs:bn LP (gD ctx v K) Q):∃ u,bn LP (K u) Q:=by
 unfold gD at hs
 split at hs
 ·simp only [bn] at hs; exact ⟨_,hs.2⟩
 ·exact ⟨_,hs⟩
theorem qe:∀ {xs:List eS} {K:List V->T α},bn LP (rZ ctx e xs K) Q->∃ us,bn LP (K us) Q
 | [],K,hs=>⟨[],hs⟩
 | x::xs,K,hs=>by
   simp only [rZ] at hs
   obtain ⟨u,h1⟩:=yab hs
   obtain ⟨us,h2⟩:=qe h1
   exact ⟨_,h2⟩
theorem hZ {x:Option eS} {K:Option V->T α} (hs:bn LP (rY ctx e x K) Q):∃ u,bn LP (K u) Q:=by
 cases x with
 | none=>exact ⟨none,hs⟩
 | some x=>simp only [rY] at hs; obtain ⟨u,h1⟩:=yab hs; exact ⟨_,h1⟩
theorem ep {p:Prop} [Decidable p] {x:T α} (hs:bn LP (u5 ctx p x) Q):bn LP x Q:=by
 simp only [u5,bn] at hs; exact hs.2
theorem dK {x:Option V} {y d:Nat} {K:Nat->T α} (hs:bn LP (kO ctx x y d K) Q):∃ n,bn LP (K n) Q:=by
 unfold kO at hs
 split at hs
 ·exact ⟨_,hs⟩
 ·exact ⟨_,ep hs⟩
 ·exact hs.elim
theorem uM:∀ {ps:List (Nat × Nat × eS)} {z:List V} {K:List V->T α},bn LP (oC ctx e ps z K) Q->∃ cs,bn LP (K cs) Q
 | [],z,K,hs=>⟨_,hs⟩
 | (off,n,x)::ps,z,K,hs=>by
   simp only [oC] at hs
   obtain ⟨v,h2⟩:=yab hs
   cases hf:(v.flat && Nat.beq (bD v.cells) n) with
   | false=>rw [hf] at h2; exact h2.elim
   | true =>
     rw [hf] at h2
     simp only [cond_true] at h2
     split at h2
     ·exact uM h2
     ·exact h2.elim
theorem DG {v:V} {x:T α} (hs:bn LP (TJ ctx h v x) Q):bn LP x Q:=by
 unfold TJ at hs
 split at hs
 ·split at hs
  ·exact ep hs
  ·exact hs.elim
 ·exact hs
theorem KT {op:BinOp} {k:IntKind} {x y:Int} {K:V->T α} (hs:bn LP (Oc ctx op k x y K) Q):∃ v,bn LP (K v) Q:=by
 cases op <;> simp only [Oc] at hs <;> first | exact hs.elim | exact ⟨_,hs⟩ | exact ⟨_,ep hs⟩
theorem Hw {op:BinOp} {x y:V} {K:V->T α} (hs:bn LP (y4 ctx op x y K) Q):∃ v,bn LP (K v) Q:=by
 unfold y4 at hs
 split at hs
 ·split at hs
  ·exact KT hs
  ·exact hs.elim
 ·split at hs
  ·exact ⟨_,hs⟩
  ·exact ⟨_,hs⟩
  ·exact ⟨_,ep hs⟩
  ·exact hs.elim
 ·exact hs.elim
theorem GG {cf:CF α} {op:jy} {K:V->List O->T α} (hc0:ctx=false) (hst:jZ op=true) (hs:bn LP (yw cf ctx none op e h K) Q):∃ v,bn LP (K v h) Q:=by
 cases op <;> simp only [jZ] at hst <;> simp only [yw] at hs <;> try (cases hst; done)
 case mov x=>obtain ⟨u,h1⟩:=yab hs; exact ⟨_,h1⟩
 case pick c a b =>
  obtain ⟨u,h1⟩:=yab hs
  split at h1
  ·obtain ⟨u,h1⟩:=yab h1; exact ⟨_,h1⟩
  ·obtain ⟨u,h1⟩:=yab h1; exact ⟨_,h1⟩
  ·obtain ⟨u,h1⟩:=yab h1
   obtain ⟨u,h1⟩:=yab h1
   split at h1
   ·exact ⟨_,h1⟩
   ·simp only [bn] at h1
    rcases Bool.eq_false_or_eq_true (b:=_) with hb | hb
    ·exact ⟨_,h1.1 hb⟩
    ·exact ⟨_,h1.2 hb⟩
  ·simp only [bn] at h1
   exact ⟨_,h1.2⟩
  ·exact h1.elim
 case agg z ps=>obtain ⟨cs,h1⟩:=uM hs; exact ⟨_,h1⟩
 case ld a =>
  obtain ⟨u,h1⟩:=yab hs
  have h1:=DG h1
  split at h1
  ·exact ⟨_,h1⟩
  ·exact h1.elim
 case lds n a =>
  obtain ⟨u,h1⟩:=yab hs
  have h1:=DG h1
  split at h1
  ·exact ⟨_,h1⟩
  ·exact h1.elim
 case nz x =>
  obtain ⟨u,h1⟩:=yab hs
  split at h1 <;> first | exact ⟨_,h1⟩ | exact h1.elim
 case bin op x y =>
  obtain ⟨u,h1⟩:=yab hs
  obtain ⟨v,h2⟩:=yab h1
  exact Hw h2
 case eqa neg n x y =>
  obtain ⟨u,h1⟩:=yab hs
  obtain ⟨v,h2⟩:=yab h1
  split at h2
  ·rename_i xs ys
   split at h2
   ·rename_i b hb
    cases hn:Nat.beq (bD xs) n with
    | false=>rw [hn] at h2; exact h2.elim
    | true=>rw [hn] at h2; exact ⟨_,h2⟩
   ·exact h2.elim
  ·exact h2.elim
 case eqb neg x y =>
  obtain ⟨u,h1⟩:=yab hs
  obtain ⟨v,h2⟩:=yab h1
  split at h2
  ·exact ⟨_,h2⟩
  ·exact h2.elim
 case un op x =>
  obtain ⟨u,h1⟩:=yab hs
  split at h1 <;> first | exact ⟨_,h1⟩ | exact h1.elim
 case conv k x =>
  obtain ⟨u,h1⟩:=yab hs
  split at h1 <;> first | exact ⟨_,h1⟩ | exact h1.elim
 case mkf f xs ys =>
  split at hs
  ·obtain ⟨us,g1⟩:=qe hs
   obtain ⟨vs,g2⟩:=qe g1
   exact ⟨_,g2⟩
  ·exact hs.elim
 case fa off x =>
  obtain ⟨u,h1⟩:=yab hs
  split at h1
  ·exact ⟨_,h1⟩
  ·exact ⟨_,h1⟩
  ·split at h1
   ·exact ⟨_,h1⟩
   ·exact h1.elim
  ·exact h1.elim
 case fld off n x =>
  obtain ⟨u,h1⟩:=yab hs
  split at h1
  ·split at h1
   ·split at h1
    ·exact ⟨_,h1⟩
    ·exact h1.elim
   ·split at h1
    ·exact ⟨_,h1⟩
    ·exact h1.elim
  ·exact h1.elim
 case iaA n esz x ix =>
  obtain ⟨u,h1⟩:=yab hs
  obtain ⟨v,h2⟩:=yab h1
  split at h2
  ·exact ⟨_,ep h2⟩
  ·exact ⟨_,ep h2⟩
  ·split at h2
   ·exact ⟨_,ep h2⟩
   ·exact h2.elim
  ·exact h2.elim
 case iaS esz x ix =>
  obtain ⟨u,h1⟩:=yab hs
  obtain ⟨v,h2⟩:=yab h1
  split at h2
  ·rename_i n f _ i
   cases hn:Nat.beq (bD (f i.toNat)) esz with
   | false=>rw [hn] at h2; exact h2.elim
   | true=>rw [hn] at h2; exact ⟨_,ep h2⟩
  ·exact ⟨_,ep h2⟩
  ·split at h2
   ·rename_i ez n' f ty hk
    cases hn:Nat.beq ez esz with
    | false=>rw [hn] at h2; exact h2.elim
    | true=>rw [hn] at h2; exact ⟨_,ep h2⟩
   ·exact h2.elim
  ·split at h2
   ·rename_i ez n' f ty hk
    cases hn:Nat.beq ez esz with
    | false=>rw [hn] at h2; exact h2.elim
    | true=>rw [hn] at h2; exact ⟨_,ep h2⟩
   ·exact h2.elim
  ·exact ⟨_,ep h2⟩
  ·exact h2.elim
 case ixA n esz sz x ix =>
  obtain ⟨u,h1⟩:=yab hs
  obtain ⟨v,h2⟩:=yab h1
  split at h2
  ·split at h2
   ·split at h2
    ·exact ⟨_,ep h2⟩
    ·exact h2.elim
   ·split at h2
    ·exact ⟨_,ep h2⟩
    ·exact h2.elim
  ·exact h2.elim
 case ixS x ix =>
  obtain ⟨u,h1⟩:=yab hs
  obtain ⟨v,h2⟩:=yab h1
  split at h2
  ·exact ⟨_,ep h2⟩
  ·exact h2.elim
 case len x =>
  obtain ⟨u,h1⟩:=yab hs
  split at h1 <;> first | exact ⟨_,h1 fun e=>by rw [hc0] at e; cases e⟩ | exact ⟨_,h1⟩ | exact h1.elim
 case lenT x =>
  obtain ⟨u,h1⟩:=yab hs
  split at h1 <;> first | exact ⟨_,h1⟩ | exact h1.elim
 case lenA n=>exact ⟨_,hs⟩
 case mm b x xs =>
  obtain ⟨u,h1⟩:=yab hs
  obtain ⟨us,h2⟩:=qe h1
  split at h2
  ·exact ⟨_,h2⟩
  ·exact h2.elim
 case ext x i =>
  obtain ⟨u,h1⟩:=yab hs
  split at h1
  ·split at h1
   ·exact ⟨_,h1⟩
   ·exact h1.elim
  ·exact h1.elim
 case slS esz x lo hi mx =>
  obtain ⟨u,h1⟩:=yab hs
  obtain ⟨lo',h2⟩:=hZ h1
  obtain ⟨hi',h3⟩:=hZ h2
  obtain ⟨mx',h4⟩:=hZ h3
  split at h4
  ·rename_i n f
   split at h4
   ·cases hz:Nat.beq (bD (f 0)) esz with
    | false=>rw [hz] at h4; exact h4.elim
    | true =>
      rw [hz] at h4
      simp only [cond_true] at h4
      obtain ⟨_,h5⟩:=dK h4
      obtain ⟨_,h6⟩:=dK h5
      exact ⟨_,h6⟩
   ·exact h4.elim
  ·split at h4
   ·obtain ⟨_,h5⟩:=dK h4
    exact ⟨_,h5⟩
   ·split at h4
    ·rename_i ez n' f ty hk
     cases hn:Nat.beq ez esz with
     | false=>rw [hn] at h4; exact h4.elim
     | true =>
       rw [hn] at h4
       simp only [cond_true] at h4
       obtain ⟨_,h5⟩:=dK h4
       obtain ⟨_,h6⟩:=dK h5
       exact ⟨_,h6⟩
    ·exact h4.elim
   ·exact h4.elim
  ·obtain ⟨_,h5⟩:=dK h4
   obtain ⟨_,h6⟩:=dK h5
   obtain ⟨_,h7⟩:=dK h6
   exact ⟨_,h7⟩
  ·split at h4
   ·obtain ⟨_,h5⟩:=dK h4
    obtain ⟨_,h6⟩:=dK h5
    exact ⟨_,h6⟩
   ·exact h4.elim
  ·exact h4.elim
 case isn neg x =>
  obtain ⟨u,h1⟩:=yab hs
  split at h1
  ·exact ⟨_,h1⟩
  ·exact ⟨_,h1⟩
  ·exact ⟨_,h1.2⟩
  ·exact ⟨_,h1.2⟩
  ·exact h1.elim
 case slA n esz x lo hi mx =>
  obtain ⟨u,h1⟩:=yab hs
  obtain ⟨lo',h2⟩:=hZ h1
  obtain ⟨hi',h3⟩:=hZ h2
  obtain ⟨mx',h4⟩:=hZ h3
  split at h4
  ·obtain ⟨_,h5⟩:=dK h4
   obtain ⟨_,h6⟩:=dK h5
   obtain ⟨_,h7⟩:=dK h6
   exact ⟨_,h7⟩
  ·exact h4.elim
 case slT x lo hi =>
  obtain ⟨u,h1⟩:=yab hs
  obtain ⟨lo',h2⟩:=hZ h1
  obtain ⟨hi',h3⟩:=hZ h2
  split at h3
  ·obtain ⟨_,h5⟩:=dK h3
   obtain ⟨_,h6⟩:=dK h5
   exact ⟨_,h6⟩
  ·exact h3.elim
def l8 (N:Nat):List gC->Bool
 | []=>true
 | o::l=>(match o.dst with | some d=>Nat.blt d N | none=>true) && l8 N l
theorem aez {N:Nat} {o:gC} {l:List gC} (hd:l8 N (o::l)=true):(∀ i,o.dst=some i->i < N)/\l8 N l=true:=by
 simp only [l8,Bool.and_eq_true] at hd
 refine ⟨fun i hi=>?_,hd.2⟩
 rw [hi] at hd
 exact Nat.le_of_ble_eq_true hd.1
theorem cg {l:List ak} {d:Nat} {a:ak} (hd:l.getD d .any=a) (ha:a ≠ .any):l.set d a=l:=by
 apply List.ext_getElem?
 intro i
 rw [List.getElem?_set]
 split
 ·rename_i e; subst e
  split
  ·rename_i hlt
   simp [List.getD,List.getElem?_eq_getElem hlt] at hd
   simp [hd,List.getElem?_eq_getElem hlt]
  ·rename_i hlt
   simp [List.getD,List.getElem?_eq_none (Nat.le_of_not_lt hlt)] at hd
   exact (ha hd.symm).elim
 ·rfl
theorem w6 {b:Bool} {v:V} {a:ak} (hb:b=true) (hv:vr w0 lh ν v a):vr w0 lh ν (.gd b v) a:=by
 simp only [vr]; exact ⟨fun _=>hv,fun e=>by rw [hb] at e; cases e⟩
theorem Eg {b:Bool} {v:V} {l:List ak} (hb:b=false):vr w0 lh ν (.gd b v) (.tup l):=by
 simp only [vr]; exact ⟨(fun e=>by rw [hb] at e; cases e),fun _=>⟨l,rfl⟩⟩
theorem xm:vr w0 lh ν (.tup []) (.tup []):=by simp only [vr,bf]; exact ⟨[],rfl,rfl⟩
theorem r4 {b want:Bool} (e:b=want):gB b want=true:=by subst e; cases b <;> rfl
theorem vd {b want:Bool} (e:b=!want):gB b want=false:=by subst e; cases want <;> rfl
theorem jt {cf:CF α} (hcf:qI w0 S LP false cf):∀ (ops:List gC) (e:bp) (h:List O) (ν:Nu) (sl:List ak) (lh:List ap) (K:bp->List O->T α) (KA:List ak->List ap->Prop),l8 N ops=true ->
 fp w0 ν N e sl->HR w0 ν nV nS h lh->bn LP (fy cf ops e h K) Q->(∀ e' h' ν' sl' lh',ν.sub ν'->fp w0 ν' N e' sl'->HR w0 ν' nV nS h' lh'->bn LP (K e' h') Q->KA sl' lh')->yae w0 S ops sl lh KA
 | [],e,h,ν,sl,lh,K,KA,hd,hsl,hh,hs,hK=>hK e h ν sl lh (Nu.sub_refl ν) hsl hh hs
 | o :: rest,e,h,ν,sl,lh,K,KA,hd,hsl,hh,hs,hK=>by
   obtain ⟨hd1,hd2⟩:=aez hd
   have go:∀ {e0:bp},fp w0 ν N e0 sl->bn LP (yw cf true none o.op e0 h fun v h=>fy cf rest (dJ e0 o.dst v) h K) Q->cI w0 S sl lh none (fun v lh'=>yae w0 S rest (d8 sl o.dst v) lh' KA) o.op:=by
    intro e0 hsl0 hs
    refine xT (md:=false) (wn:=[]) hsl0 hh rfl hcf (.inl ⟨rfl,rfl⟩) (fun e=>by cases e) hs fun v h' ν' a lh' _ _ g1 g2 g3 g4=>?_
    exact jt hcf rest _ h' ν' _ lh' K KA hd2 ((hsl0.mono g1).put o.dst hd1 g3) g2 g4 fun e' h' ν'' sl' lh' k1=>hK e' h' ν'' sl' lh' (Nu.sub_trans g1 k1)
   have skip:∀ {e0:bp},fp w0 ν N e0 sl->bn LP (fy cf rest (dJ e0 o.dst (.tup [])) h K) Q->yae w0 S rest (d8 sl o.dst (.tup [])) lh KA:=by
    intro e0 hsl0 hs
    exact jt hcf rest _ h ν _ lh K KA hd2 (hsl0.put o.dst hd1 xm) hh hs hK
   have goS:∀ {b:Bool},jZ o.op=true->b=true->bn LP (yw cf b none o.op e h fun v _=>fy cf rest (dJ e o.dst (.gd b v)) h K) Q->cI w0 S sl lh none (fun v lh'=>yae w0 S rest (d8 sl o.dst v) lh' KA) o.op:=by
    intro b hst hb hs
    refine xT (md:=false) (wn:=[]) hsl hh hb hcf (.inl ⟨rfl,rfl⟩) (fun e=>by cases e) hs fun v h' ν' a lh' _ q g1 g2 g3 g4=>?_
    obtain ⟨rfl,rfl,rfl⟩:=q hst
    exact jt hcf rest _ _ _ _ _ K KA hd2 (hsl.put o.dst hd1 (w6 hb g3)) g2 g4 hK
   have skipS:∀ {b:Bool},jZ o.op=true->b=false->bn LP (yw cf b none o.op e h fun v _=>fy cf rest (dJ e o.dst (.gd b v)) h K) Q->yae w0 S rest (d8 sl o.dst (.tup [])) lh KA:=by
    intro b hst hb hs
    obtain ⟨v,g⟩:=GG hb hst hs
    exact jt hcf rest _ h ν _ lh K KA hd2 (hsl.put o.dst hd1 (Eg hb)) hh g hK
   simp only [fy] at hs
   simp only [yae]
   split at hs
   ·rename_i hg; rw [hg]; exact go hsl hs
   ·rename_i d want hg
    rw [hg]
    dsimp only
    have hat:=hsl.at' d
    split at hs
    ·rename_i b hb
     rw [hb] at hat
     simp only [vr] at hat
     rw [hat]
     dsimp only
     split at hs
     ·rename_i he _
      subst he
      exact ⟨fun _=>by rw [cg hat (by simp)]; exact go hsl hs,fun e=>by cases b <;> cases e⟩
     ·rename_i he _
      exact ⟨fun e=>(he e).elim,fun e=>by rw [← e,cg hat (by simp)]; exact skip hsl hs⟩
    ·rename_i l hb
     rw [hb] at hat
     simp only [vr] at hat
     obtain ⟨az,hat,_⟩:=hat
     rw [hat]
     dsimp only
     rw [cg hat (by simp)]
     exact skip hsl hs
    ·rename_i k n hb
     rw [hb] at hat
     simp only [vr] at hat
     rw [hat]
     exact skip hsl hs
    ·rename_i b hb
     rw [hb] at hat
     simp only [vr] at hat
     rw [hat]
     dsimp only
     split at hs
     ·rename_i hst
      exact ⟨fun e1=>by rw [← e1,cg hat (by simp)]; exact goS hst (r4 e1) hs,fun e1=>by rw [← e1,cg hat (by simp)]; exact skipS hst (vd e1) hs⟩
     ·simp only [bn] at hs
      refine ⟨fun e1=>?_,fun e1=>?_⟩
      ·rw [← e1,cg hat (by simp)]
       exact go (hsl.know (by simp only [vr]; rw [hat,e1])) (hs.1 (r4 e1))
      ·rw [← e1,cg hat (by simp)]
       exact skip (hsl.know (by simp only [vr]; rw [hat,e1])) (hs.2 (vd e1))
    ·rename_i c v hb
     rw [hb] at hat
     simp only [vr] at hat
     split at hs
     ·split at hs
      ·have hl:∃ l,sl.getD d .any=.tup l:=by
        cases c with
        | false=>exact hat.2 rfl
        | true=>have:=hat.1 rfl; simp only [vr] at this; obtain ⟨l,e,_⟩:=this; exact ⟨l,e⟩
       obtain ⟨l,hl⟩:=hl
       rw [hl]
       dsimp only
       rw [cg hl (by simp)]
       exact skip hsl hs
      ·exact hs.elim
     ·rename_i b hbv
      cases c with
      | false =>
        obtain ⟨l,hl⟩:=hat.2 rfl
        rw [hl]
        dsimp only
        rw [cg hl (by simp)]
        split at hs
        ·rename_i hst
         exact skipS hst rfl hs
        ·simp only [bn] at hs
         exact skip hsl (hs.2 rfl)
      | true =>
        have hat:=l7 (hat.1 rfl) hbv
        rw [hat]
        dsimp only
        split at hs
        ·rename_i hst
         exact ⟨fun e1=>by rw [← e1,cg hat (by simp)]; exact goS hst (by rw [r4 e1]; rfl) hs,fun e1=>by rw [← e1,cg hat (by simp)]; exact skipS hst (by rw [vd e1]; rfl) hs⟩
        ·simp only [bn] at hs
         refine ⟨fun e1=>?_,fun e1=>?_⟩
         ·rw [← e1,cg hat (by simp)]
          exact go (hsl.know (by simp only [vr]; rw [hat,e1])) (hs.1 (by rw [r4 e1]; rfl))
         ·rw [← e1,cg hat (by simp)]
          exact skip hsl (hs.2 (by rw [vd e1]; rfl))
    ·exact hs.elim
end
theorem ik {k:Nat}:∀ {l:List Nat},uL k l=true ↔ k ∈ l
 | []=>by simp [uL]
 | x :: l=>by
   simp only [uL,List.mem_cons]
   by_cases h:k=x
   ·subst h; simp
   ·have:Nat.beq k x=false:=by
     cases hb:Nat.beq k x with
     | false=>rfl
     | true=>exact (h (Nat.eq_of_beq_eq_true hb)).elim
    rw [this,cond_false,ik]; simp [h]
theorem tS:∀ {l W:List Nat},Cv l W=true ↔ ∀ k,k ∈ l->k ∈ W
 | [],W=>by simp [Cv]
 | x::l,W=>by simp only [Cv,Bool.and_eq_true,ik,tS,List.mem_cons,forall_eq_or_imp]
theorem ta:∀ {l W:List Nat},Ht l W=true ↔ ∀ k,k ∈ l->k ∉ W
 | [],W=>by simp [Ht]
 | x::l,W=>by
   simp only [Ht,Bool.and_eq_true,ta,List.mem_cons,forall_eq_or_imp]
   refine and_congr ?_ Iff.rfl
   cases hm:uL x W with
   | false=>simp; intro h; rw [ik.2 h] at hm; cases hm
   | true=>simp; exact ik.1 hm
theorem kx {Ws:List (List Nat)} {k:Nat}:∀ {un:List Nat},k ∈ lK Ws un ↔ ∃ u,u ∈ un/\k ∈ c8 Ws u
 | []=>by simp [lK]
 | u::un=>by
   simp only [lK,j9,List.mem_append,kx,List.mem_cons]
   constructor
   ·rintro (h | ⟨v,h1,h2⟩)
    ·exact ⟨u,.inl rfl,h⟩
    ·exact ⟨v,.inr h1,h2⟩
   ·rintro ⟨v,rfl | h1,h2⟩
    ·exact .inl h2
    ·exact .inr ⟨v,h1,h2⟩
theorem qj (X:List Nat):∀ (h:List O) (b k:Nat),(io X h b)[k]? = (h[k]?).map fun o=>if b+k ∈ X then O.hid else o
 | [],b,k=>by simp [io]
 | o::h,b,0=>by
   simp only [io,List.getElem?_cons_zero,Option.map_some,Nat.add_zero]
   cases hm:uL b X with
   | false=>rw [cond_false,if_neg (fun h=>by rw [ik.2 h] at hm; cases hm)]
   | true=>rw [cond_true,if_pos (ik.1 hm)]
 | o::h,b,k+1=>by
   simp only [io,List.getElem?_cons_succ]
   rw [qj X h (b+1) k,show b+1+k=b+(k+1) by omega]
theorem vY (X:List Nat) (h:List O) (k:Nat):(iB X h)[k]? = (h[k]?).map fun o=>if k ∈ X then O.hid else o:=by
 unfold iB
 split
 ·cases h[k]? <;> simp
 ·rw [qj]; simp
theorem vW (X:List Nat) (h:List O):(iB X h).length=h.length:=by
 have gen:∀ (h:List O) (b:Nat),(io X h b).length=h.length:=fun h=>by
  induction h with
  | nil=>intro b; rfl
  | cons o h ih=>intro b; simp [io,ih]
 unfold iB; split
 ·rfl
 ·exact gen h 0
theorem rH (W:List Nat) (l:List O):∀ (h:List O) (b k:Nat),(kc W l h b)[k]? = (h[k]?).map fun o=>if b+k ∈ W then l.getD (b+k) o else o
 | [],b,k=>by simp [kc]
 | o :: h,b,0=>by
   simp only [kc,List.getElem?_cons_zero,Option.map_some,Nat.add_zero]
   cases hm:uL b W with
   | false=>rw [cond_false,if_neg (fun h=>by rw [ik.2 h] at hm; cases hm)]
   | true =>
     rw [cond_true,if_pos (ik.1 hm),bb]
     simp only [List.getD]
     cases l[b]? <;> rfl
 | o::h,b,k+1=>by
   simp only [kc,List.getElem?_cons_succ]
   rw [rH W l h (b+1) k,show b+1+k=b+(k+1) by omega]
theorem sX (W:List Nat) (h l:List O) (k:Nat):(CK W h l)[k]? = (h[k]?).map fun o=>if k ∈ W then l.getD k o else o:=by
 unfold CK; rw [rH]; simp
theorem M9 (W:List Nat) (h l:List O):(CK W h l).length=h.length:=by
 have gen:∀ (h:List O) (b:Nat),(kc W l h b).length=h.length:=fun h=>by
  induction h with
  | nil=>intro b; rfl
  | cons o h ih=>intro b; simp [kc,ih]
 exact gen h 0
theorem uC:∀ (h:List O) (k:Nat),(undead h)[k]? = (h[k]?).map fun o=>match o with | .dead=>O.hid | o=>o
 | [],k=>by simp [undead]
 | o::h,0=>by cases o <;> rfl
 | o::h,k+1=>by simp only [undead,List.getElem?_cons_succ]; exact uC h k
theorem oe:∀ (h:List O),(undead h).length=h.length
 | []=>rfl
 | o::h=>by simp [undead,oe h]
theorem ni:∀ (n k:Nat),(deads n)[k]? = if k < n then some O.dead else none
 | 0,k=>by simp [deads]
 | n+1,0=>by simp [deads]
 | n+1,k+1=>by simp [deads,ni n k]
theorem mU (X:List Nat) (lh:List ap) (k:Nat):(hide X lh)[k]? = (lh[k]?).map fun o=>if k ∈ X then ap.hid else o:=by
 unfold hide; rw [List.getElem?_mapIdx]
theorem td (W:List Nat) (lh l:List ap) (k:Nat):(mix W lh l)[k]? = (lh[k]?).map fun o=>if k ∈ W then l.getD k o else o:=by
 unfold mix; rw [List.getElem?_mapIdx]
section
variable {w0:World} {ν ν' ν0:Nu} {nV nS N:Nat} {h h' h0:List O} {lh lh' lh0:List ap} {α:Type} {LP:d7} {Q:α->Prop} {e:bp} {sl:List ak} {ctx:Bool} {S:FuncId->bE}
theorem HR.undead {a b:Nat} (hh:HR w0 ν a b h lh) (nV nS:Nat):HR w0 ν nV nS (undead h) lh:=by
 have hl:∀ k (o:O),(Dx.undead h)[k]? = some o->o ≠ .hid->h[k]? = some o/\o ≠ .dead:=fun k o hk ho=>by
  rw [uC] at hk
  cases hg:h[k]? with
  | none=>rw [hg] at hk; cases hk
  | some o' =>
    rw [hg] at hk
    simp only [Option.map_some,Option.some.injEq] at hk
    cases o' <;> simp at hk <;> subst hk <;> first | exact (ho rfl).elim | exact ⟨rfl,by simp⟩
 have hlive:∀ k,aV (Dx.undead h) k->aV h k:=fun k hk=>by
  rcases eh hk with ⟨_,_,g⟩ | ⟨_,_,_,_,g⟩
  ·exact dd (hl k _ g (by simp)).1
  ·exact ff (hl k _ g (by simp)).1
 refine ⟨fun k o hk=>?_,fun k k' x x' h1 h2=>hh.inj k k' x x' (hlive k h1) (hlive k' h2),fun k hk=>hh.dom k (by rw [oe] at hk; exact hk),hh.rng,hh.zl,fun k x hk hx=>hh.zn k x (hlive k hk) hx⟩
 by_cases ho:o=.hid
 ·subst ho; trivial
 ·obtain ⟨g1,g2⟩:=hl k o hk ho
  have:=hh.blk k o g1
  cases o with
  | dead=>exact (g2 rfl).elim
  | hid=>trivial
  | cells cs ty=>exact this
  | gl esz n f ty=>exact this
theorem HR.deads (hh:HR w0 ν nV nS h lh) (hV:nV=h.length) (hS:nS=lh.length) (m:Nat):HR w0 ν nV nS (h++deads m) (lh++List.replicate m .dead):=by
 subst hV hS
 have hl:∀ k,aV (h++Dx.deads m) k->aV h k:=fun k hk=>by
  unfold aV d6 at *
  rw [bb] at *
  rw [List.getElem?_append] at hk
  split at hk
  ·rename_i q hq
   split at hq
   ·rw [hq]
   ·rw [ni] at hq; split at hq <;> cases hq
  ·rename_i q hq
   split at hq
   ·rw [hq]
   ·rw [ni] at hq; split at hq <;> cases hq
  ·cases hk
 refine ⟨fun k o hk=>?_,fun k k' x x' h1 h2=>hh.inj k k' x x' (hl k h1) (hl k' h2),fun k hk=>hh.dom k (by simp at hk; omega),fun k x hx=>by have:=hh.rng k x hx; simp; omega,fun j az ty hj=>by have q:=hh.zl j az ty hj; rw [List.getElem?_append_left (List.getElem?_eq_some_iff.1 q).1]; exact q,fun k x hk hx=>hh.zn k x (hl k hk) hx⟩
 rw [List.getElem?_append] at hk
 split at hk
 ·rename_i hlt
  have:=hh.blk k o hk
  cases o with
  | dead=>obtain ⟨g1,g2,g3⟩:=this; omega
  | hid=>trivial
  | cells cs ty=>exact cS (Nu.sub_refl ν) (by simp) (fun b az ty' q _=>by rw [List.getElem?_append_left (List.getElem?_eq_some_iff.1 q).1]; exact q) this
  | gl esz n f ty=>exact cS (Nu.sub_refl ν) (by simp) (fun b az ty' q _=>by rw [List.getElem?_append_left (List.getElem?_eq_some_iff.1 q).1]; exact q) this
 ·rename_i hge
  rw [ni] at hk
  split at hk
  ·rename_i hlt
   cases hk
   refine ⟨hh.dom k (by omega),by omega,?_⟩
   rw [List.getElem?_append_right (by omega),List.getElem?_replicate,if_pos (by omega)]
  ·cases hk
def qp (ν0:Nu) (nV nS k:Nat):Option Nat:=if k < nV then (match ν0 k with | some (some x)=>some x.1 | _=>none) else some (nS+(k - nV))
structure WR (ν0:Nu) (nV nS:Nat) (h0:List O) (Ws WsS:List (List Nat)):Prop where
 rel:∀ i j,j ∈ wOf WsS i ↔ ∃ k,k ∈ c8 Ws i/\qp ν0 nV nS k=some j
 live:∀ i k,k ∈ c8 Ws i->k < nV->aV h0 k
structure DI (w0:World) (ν0:Nu) (h0:List O) (nV nS:Nat) (Ws:List (List Nat)) (rk:Nat->Bool) (cur:Nat) (ν:Nu) (h:List O) (lh:List ap):Prop where
 hr:HR w0 ν nV nS h lh
 old:∀ k,k < nV->ν k=ν0 k
 zc:ν.z=ν0.z
 liv:∀ k,k < nV->aV h k->aV h0 k
 nw:∀ k x,nV<=k->ν k=some (some x)->x.1=nS+(k - nV) ∨ ∃ i k0,rk i=true/\i < cur/\k ∈ c8 Ws i/\k0 ∈ c8 Ws i/\qp ν0 nV nS k0=some x.1
def B8 (Ws:List (List Nat)) (rk:Nat->Bool) (cur:Nat) (Y:List Nat):Prop:=∀ i,i < cur->rk i=true->(∀ k,k ∈ c8 Ws i->k ∉ Y) ∨ ∀ k,k ∈ c8 Ws i->k ∈ Y
theorem sB (H0:HR w0 ν0 nV nS h0 lh0) (hS:nS=lh0.length) {k k' j:Nat} (hk:k < nV->aV h0 k) (hk':k' < nV->aV h0 k') (h1:qp ν0 nV nS k=some j) (h2:qp ν0 nV nS k'=some j):k=k':=by
 unfold qp at h1 h2
 split at h1
 ·rename_i l1
  split at h1
  ·rename_i x hx
   have e1:x.1=j:=by simpa using h1
   split at h2
   ·rename_i l2
    split at h2
    ·rename_i x' hx'
     have e2:x'.1=j:=by simpa using h2
     exact H0.inj k k' x x' (hk l1) (hk' l2) hx hx' (by rw [e1,e2])
    ·cases h2
   ·have e2:nS+(k' - nV)=j:=by simpa using h2
    have:=H0.rng k x hx
    omega
  ·cases h1
 ·rename_i l1
  have e1:nS+(k - nV)=j:=by simpa using h1
  split at h2
  ·split at h2
   ·rename_i x' hx'
    have e2:x'.1=j:=by simpa using h2
    have:=H0.rng k' x' hx'
    omega
   ·cases h2
  ·have e2:nS+(k' - nV)=j:=by simpa using h2
   omega
section
variable {Ws WsS:List (List Nat)} {rk:Nat->Bool} {cur:Nat}
theorem DI.nmu_of (hd:DI w0 ν0 h0 nV nS Ws rk cur ν h lh) {k:Nat} {x:Nat × Nat × Nat} (hx:ν k=some (some x)):qp ν0 nV nS k=some x.1 ∨ ∃ i k0,rk i=true/\i < cur/\k ∈ c8 Ws i/\k0 ∈ c8 Ws i/\qp ν0 nV nS k0=some x.1:=by
 by_cases hk:k < nV
 ·left; unfold qp; rw [if_pos hk,← hd.old k hk,hx]
 ·rcases hd.nw k x (by omega) hx with h1 | h1
  ·left; unfold qp; rw [if_neg hk,h1]
  ·exact .inr h1
theorem DI.into (hd:DI w0 ν0 h0 nV nS Ws rk cur ν h lh) (H0:HR w0 ν0 nV nS h0 lh0) (hS:nS=lh0.length) (hw:WR ν0 nV nS h0 Ws WsS) {Y:List Nat} (hY:B8 Ws rk cur Y) (hYw:∀ k,k ∈ Y->∃ u,k ∈ c8 Ws u)
 {k k':Nat} {x:Nat × Nat × Nat} (hl:aV h k) (hx:ν k=some (some x)) (hk':k' ∈ Y) (hm:qp ν0 nV nS k'=some x.1):k ∈ Y:=by
 obtain ⟨u,hu⟩:=hYw k' hk'
 rcases hd.nmu_of hx with h1 | ⟨i,k0,g1,g2,g3,g4,g5⟩
 ·have:=sB H0 hS (fun hlt=>hd.liv k hlt hl) (fun hlt=>hw.live u k' hu hlt) h1 hm
  rw [this]; exact hk'
 ·have:=sB H0 hS (fun hlt=>hw.live i k0 g4 hlt) (fun hlt=>hw.live u k' hu hlt) g5 hm
  subst this
  rcases hY i g2 g1 with q | q
  ·exact absurd hk' (q k0 g4)
  ·exact q k g3
theorem DI.outof (hd:DI w0 ν0 h0 nV nS Ws rk cur ν h lh) {Y:List Nat} (hY:B8 Ws rk cur Y) {k:Nat} {x:Nat × Nat × Nat} (hx:ν k=some (some x)) (hk:k ∈ Y):∃ k',k' ∈ Y/\qp ν0 nV nS k'=some x.1:=by
 rcases hd.nmu_of hx with h1 | ⟨i,k0,g1,g2,g3,g4,g5⟩
 ·exact ⟨k,hk,h1⟩
 ·rcases hY i g2 g1 with q | q
  ·exact absurd hk (q k g3)
  ·exact ⟨k0,q k0 g4,g5⟩
theorem yY (H0:HR w0 ν0 nV nS h0 lh0) (hS:nS=lh0.length) {k k':Nat} (hk:nV<=k) (hm:qp ν0 nV nS k'=some (nS+(k - nV))):k'=k:=by
 unfold qp at hm
 split at hm
 ·split at hm
  ·rename_i x hx
   have:=H0.rng k' x hx
   have e1:x.1=nS+(k - nV):=by simpa using hm
   omega
  ·cases hm
 ·have e1:nS+(k' - nV)=nS+(k - nV):=by simpa using hm
  omega
theorem Y9 (H0:HR w0 ν0 nV nS h0 lh0) (hS:nS=lh0.length) {k j:Nat} (hk:k < nV->aV h0 k) (h1:qp ν0 nV nS k=some j):isCells ν0.z[j]? = false:=by
 unfold qp at h1
 split at h1
 ·rename_i l1
  split at h1
  ·rename_i x hx
   have e1:x.1=j:=by simpa using h1
   rw [← e1]; exact H0.zn k x (hk l1) hx
  ·cases h1
 ·have e1:nS+(k - nV)=j:=by simpa using h1
  refine HU H0.zl ?_
  rw [List.getElem?_eq_none (by omega)]; rfl
theorem DI.hide (hd:DI w0 ν0 h0 nV nS Ws rk cur ν h lh) (H0:HR w0 ν0 nV nS h0 lh0) (hS:nS=lh0.length) (hw:WR ν0 nV nS h0 Ws WsS) {X XS:List Nat} (hX:B8 Ws rk cur X) (hXw:∀ k,k ∈ X->∃ u,k ∈ c8 Ws u)
 (hXS:∀ j,j ∈ XS ↔ ∃ k,k ∈ X/\qp ν0 nV nS k=some j):HR w0 ν nV nS (iB X h) (Sx.hide XS lh):=by
 have hl:∀ k (o:O),(iB X h)[k]? = some o->o ≠ .hid->h[k]? = some o/\k ∉ X:=fun k o hk ho=>by
  rw [vY] at hk
  cases hg:h[k]? with
  | none=>rw [hg] at hk; cases hk
  | some o' =>
    rw [hg] at hk
    simp only [Option.map_some,Option.some.injEq] at hk
    split at hk
    ·exact (ho hk.symm).elim
    ·rename_i hn; subst hk; exact ⟨rfl,hn⟩
 have hlive:∀ k,aV (iB X h) k->aV h k:=fun k hk=>by
  rcases eh hk with ⟨_,_,g⟩ | ⟨_,_,_,_,g⟩
  ·exact dd (hl k _ g (by simp)).1
  ·exact ff (hl k _ g (by simp)).1
 refine ⟨fun k o hk=>?_,fun k k' x x' h1 h2=>hd.hr.inj k k' x x' (hlive k h1) (hlive k' h2),fun k hk=>hd.hr.dom k (by rw [vW] at hk; exact hk),fun k x hx=>by have:=hd.hr.rng k x hx; unfold Sx.hide; simpa using this,fun j az ty hj=>?_,fun k x hk hx=>hd.hr.zn k x (hlive k hk) hx⟩
 case refine_2 =>
  rw [mU,hd.hr.zl j az ty hj]
  simp only [Option.map_some]
  rw [if_neg]
  intro hm
  obtain ⟨k',e1,e2⟩:=(hXS _).1 hm
  obtain ⟨u,hu⟩:=hXw k' e1
  have:=Y9 H0 hS (fun hlt=>hw.live u k' hu hlt) e2
  rw [← hd.zc] at this
  exact kt this _ _ hj
 by_cases ho:o=.hid
 ·subst ho; trivial
 ·obtain ⟨g1,g2⟩:=hl k o hk ho
  have hb:=hd.hr.blk k o g1
  by_cases hdd:o=.dead
  ·subst hdd
   obtain ⟨q1,q2,q3⟩:=hb
   refine ⟨q1,q2,?_⟩
   rw [mU,q3]
   simp only [Option.map_some]
   rw [if_neg]
   intro hm
   obtain ⟨k',e1,e2⟩:=(hXS _).1 hm
   rw [yY H0 hS q2 e2] at e1
   exact g2 e1
  ·have hlk:aV h k:=by
    unfold aV d6; rw [bb,g1]
    cases o <;> first | rfl | exact (hdd rfl).elim | exact (ho rfl).elim
   refine cS (Nu.sub_refl ν) hdd (fun b az ty q1 q2=>?_) hb
   obtain ⟨c,ez,q3⟩:=q2
   rw [mU,q1]
   simp only [Option.map_some]
   rw [if_neg]
   intro hm
   obtain ⟨k',e1,e2⟩:=(hXS _).1 hm
   exact g2 (hd.into H0 hS hw hX hXw hlk q3 e1 e2)
theorem DI.mix (hd : DI w0 ν0 h0 nV nS Ws rk cur ν h lh) (H0:HR w0 ν0 nV nS h0 lh0) (hS:nS=lh0.length) (hw:WR ν0 nV nS h0 Ws WsS) {X XS:List Nat} (hX:B8 Ws rk cur X)
 (hW:B8 Ws rk cur (c8 Ws cur)) (hdis:∀ k,k ∈ c8 Ws cur->k ∉ X) (hhid:HR w0 ν nV nS (iB X h) (Sx.hide XS lh)) {pl plA:Option Nat} (hpl:∀ p,pl=some p->p ∈ c8 Ws cur/\nV<=p/\plA=some (nS+(p - nV))/\rk cur=true) (hpl0:pl=none->plA=none)
 {h1:List O} {l1:List ap} (hsub:ν.sub ν') (hr:HR w0 ν' nV nS h1 l1) (hm:vl ν ν' (c8 Ws cur) pl plA (iB X h) h1 (Sx.hide XS lh) l1) :
 iP (wOf WsS cur) l1 (Sx.hide XS lh)/\DI w0 ν0 h0 nV nS Ws rk (cur+1) ν' (CK (c8 Ws cur) h h1) (mix (wOf WsS cur) lh l1):=by
 have hlenl:l1.length=lh.length:=by rw [hm.len]; simp [Sx.hide]
 have hlenh:h1.length=h.length:=by rw [hm.hlen,vW]
 have hplS:∀ j,plA=some j->j ∈ wOf WsS cur:=fun j hj=>by
  cases hp:pl with
  | none=>rw [hpl0 hp] at hj; cases hj
  | some p =>
    obtain ⟨q1,q2,q3,_⟩:=hpl p hp
    rw [q3] at hj; cases hj
    exact (hw.rel cur _).2 ⟨p,q1,by unfold qp; rw [if_neg (by omega)]⟩
 have hWS:∀ k x,k ∈ c8 Ws cur->ν k=some (some x)->x.1 ∈ wOf WsS cur:=fun k x hk hx=>by
  obtain ⟨k',e1,e2⟩:=hd.outof hW hx hk
  exact (hw.rel cur _).2 ⟨k',e1,e2⟩
 have hold:∀ k,k < nV->ν' k=ν0 k:=fun k hk=>by
  cases hv:ν k with
  | some x=>rw [hsub.1 k x hv,← hd.old k hk,hv]
  | none =>
    rw [← hd.old k hk,hv]
    cases hv':ν' k with
    | none=>rfl
    | some x =>
      rcases hm.nw k x hv' with q | ⟨q,_⟩
      ·rw [hv] at q; cases q
      ·have:=(hpl k q).2.1; omega
 have hnw : ∀ k x, nV <= k -> ν' k=some (some x)->x.1=nS+(k - nV) ∨ ∃ i k0,rk i=true/\i < cur+1/\k ∈ c8 Ws i/\k0 ∈ c8 Ws i/\qp ν0 nV nS k0=some x.1:=fun k x hk hx=>by
  rcases hm.nw k _ hx with q | ⟨q1,q2⟩
  ·rcases hd.nw k x hk q with g | ⟨i,k0,g1,g2,g3⟩
   ·exact .inl g
   ·exact .inr ⟨i,k0,g1,by omega,g3⟩
  ·obtain ⟨p1, p2, p3, p4⟩ := hpl k q1
   rcases q2 x rfl with g | ⟨k0,z,g1,g2,g3⟩
   ·rw [p3] at g; exact .inl (by have:nS+(k - nV)=x.1:=by simpa using g
                                 omega)
   ·obtain ⟨k',e1,e2⟩:=hd.outof hW g2 g1
    exact .inr ⟨cur,k',p4,by omega,p1,e1,by rw [← g3]; exact e2⟩
 have hsame:∀ j,j ∉ wOf WsS cur->l1[j]? = (Sx.hide XS lh)[j]? := fun j hj=>hm.chg j (fun e=>hj (hplS j e)) (fun k x hk hx e=>hj (by rw [← e]; exact hWS k x hk hx))
 refine ⟨⟨hm.len,hsame⟩,?_⟩
 -- which blocks are live
 have hlive:∀ k,aV (CK (c8 Ws cur) h h1) k->(k ∉ c8 Ws cur/\aV h k) ∨ (k ∈ c8 Ws cur/\aV h1 k):=fun k hk=>by
  by_cases hkw:k ∈ c8 Ws cur
  ·right
   refine ⟨hkw,?_⟩
   unfold aV d6 at *
   rw [bb] at *
   rw [sX] at hk
   cases hg:h[k]? with
   | none=>rw [hg] at hk; cases hk
   | some o =>
     rw [hg] at hk
     simp only [Option.map_some,if_pos hkw,List.getD] at hk
     have hlt:k < h1.length:=by rw [hlenh]; exact (List.getElem?_eq_some_iff.1 hg).1
     rw [List.getElem?_eq_getElem hlt] at hk ⊢
     exact hk
  ·left
   refine ⟨hkw,?_⟩
   unfold aV d6 at *
   rw [bb] at *
   rw [sX] at hk
   cases hg:h[k]? with
   | none=>rw [hg] at hk; cases hk
   | some o=>rw [hg] at hk; simp only [Option.map_some,if_neg hkw] at hk; exact hk
 have hget:∀ k o,(CK (c8 Ws cur) h h1)[k]? = some o->(k ∉ c8 Ws cur/\h[k]? = some o) ∨ (k ∈ c8 Ws cur/\h1[k]? = some o):=fun k o hk=>by
  rw [sX] at hk
  cases hg:h[k]? with
  | none=>rw [hg] at hk; cases hk
  | some o' =>
    rw [hg] at hk
    simp only [Option.map_some] at hk
    by_cases hkw:k ∈ c8 Ws cur
    ·right
     refine ⟨hkw,?_⟩
     have hlt:k < h1.length:=by rw [hlenh]; exact (List.getElem?_eq_some_iff.1 hg).1
     rw [if_pos hkw] at hk
     simp only [List.getD,List.getElem?_eq_getElem hlt] at hk ⊢
     exact hk
    ·left; rw [if_neg hkw] at hk; exact ⟨hkw,hk⟩
 have hmixin:∀ b,b ∈ wOf WsS cur->(Sx.mix (wOf WsS cur) lh l1)[b]? = l1[b]? := fun b hb=>by
  rw [td]
  cases hg:lh[b]? with
  | none =>
    have:=List.getElem?_eq_none_iff.1 hg
    rw [List.getElem?_eq_none (by omega)]; rfl
  | some o =>
    have hlt:b < l1.length:=by rw [hlenl]; exact (List.getElem?_eq_some_iff.1 hg).1
    simp only [Option.map_some,if_pos hb,List.getD,List.getElem?_eq_getElem hlt]; rfl
 have hmixout:∀ b,b ∉ wOf WsS cur->(Sx.mix (wOf WsS cur) lh l1)[b]? = lh[b]? := fun b hb=>by
  rw [td]; cases hg:lh[b]? <;> simp [hb]
 -- a live block of ours outside of the set has a name outside of it
 have hout:∀ k x,k ∉ c8 Ws cur->aV h k->ν k=some (some x)->x.1 ∉ wOf WsS cur:=fun k x hk hl hx hmem=>by
  obtain ⟨k',e1,e2⟩:=(hw.rel cur _).1 hmem
  exact hk (hd.into H0 hS hw hW (fun k hk=>⟨cur,hk⟩) hl hx e1 e2)
 have hin:∀ k x,k ∈ c8 Ws cur->ν' k=some (some x)->x.1 ∈ wOf WsS cur:=fun k x hk hx=>by
  rcases hm.nw k _ hx with q | ⟨q1,q2⟩
  ·exact hWS k x hk q
  ·rcases q2 x rfl with g | ⟨k0,z,g1,g2,g3⟩
   ·exact hplS _ g
   ·rw [← g3]; exact hWS k0 z g1 g2
 have hν:∀ k,k ∉ c8 Ws cur->ν' k=ν k:=fun k hk=>by
  cases hv:ν k with
  | some x=>exact hsub.1 k x hv
  | none =>
    cases hv':ν' k with
    | none=>rfl
    | some x =>
      rcases hm.nw k x hv' with q | ⟨q,_⟩
      ·rw [hv] at q; cases q
      ·exact absurd (hpl k q).1 hk
 refine ⟨⟨fun k o hk=>?_,fun k k' x x' g1 g2 hx hx' he=>?_,fun k hk=>?_,fun k x hx=>?_,fun j az ty hj=>?_,fun k x hl hx=>?_⟩,hold,hm.zz.trans hd.zc,fun k hk hl=>?_,hnw⟩
 ·rcases hget k o hk with ⟨q1,q2⟩ | ⟨q1,q2⟩
  ·have hb:=hd.hr.blk k o q2
   by_cases ho:o=.hid
   ·subst ho; trivial
   ·by_cases hdd:o=.dead
    ·subst hdd
     obtain ⟨e1,e2,e3⟩:=hb
     refine ⟨by rw [hν k q1]; exact e1,e2,?_⟩
     rw [hmixout]
     ·exact e3
     ·intro hmem
      obtain ⟨k',f1,f2⟩:=(hw.rel cur _).1 hmem
      rw [yY H0 hS e2 f2] at f1
      exact q1 f1
    ·have hlk:aV h k:=by
      unfold aV d6; rw [bb,q2]
      cases o <;> first | rfl | exact (hdd rfl).elim | exact (ho rfl).elim
     refine cS hsub hdd (fun b az ty e1 e2=>?_) hb
     obtain ⟨c,ez,e3⟩:=e2
     rw [hmixout b (hout k _ q1 hlk e3)]; exact e1
  ·have hb:=hr.blk k o q2
   by_cases ho:o=.hid
   ·subst ho; trivial
   ·by_cases hdd:o=.dead
    ·subst hdd
     obtain ⟨e1,e2,e3⟩:=hb
     refine ⟨e1,e2,?_⟩
     rw [hmixin]
     ·exact e3
     ·exact (hw.rel cur _).2 ⟨k,q1,by unfold qp; rw [if_neg (by omega)]⟩
    ·refine cS (Nu.sub_refl ν') hdd (fun b az ty e1 e2=>?_) hb
     obtain ⟨c,ez,e3⟩:=e2
     rw [hmixin b (hin k _ q1 e3)]; exact e1
 ·rcases hlive k g1 with ⟨a1,a2⟩ | ⟨a1,a2⟩ <;> rcases hlive k' g2 with ⟨b1,b2⟩ | ⟨b1,b2⟩
  ·rw [hν k a1] at hx; rw [hν k' b1] at hx'
   exact hd.hr.inj k k' x x' a2 b2 hx hx' he
  ·rw [hν k a1] at hx
   exact absurd (by rw [he]; exact hin k' x' b1 hx') (hout k x a1 a2 hx)
  ·rw [hν k' b1] at hx'
   exact absurd (by rw [← he]; exact hin k x a1 hx) (hout k' x' b1 b2 hx')
  ·exact hr.inj k k' x x' a2 b2 hx hx' he
 ·exact hr.dom k (by rw [M9] at hk; omega)
 ·have:=hr.rng k x hx
  unfold Sx.mix; simp; omega
 ·rw [hm.zz] at hj
  rw [hmixout j fun hmem=>?_]
  ·exact hd.hr.zl j az ty hj
  ·obtain ⟨k',e1,e2⟩:=(hw.rel cur _).1 hmem
   have:=Y9 H0 hS (fun hlt=>hw.live cur k' e1 hlt) e2
   rw [← hd.zc] at this
   exact kt this _ _ hj
 ·rcases hlive k hl with ⟨a1,a2⟩ | ⟨a1,a2⟩
  ·rw [hν k a1] at hx; rw [hm.zz]; exact hd.hr.zn k x a2 hx
  ·exact hr.zn k x a2 hx
 ·rcases hlive k hl with ⟨_,a2⟩ | ⟨_,a2⟩
  ·exact hd.liv k hk a2
  ·rcases hm.liv k a2 with q | q
   ·refine hd.liv k hk ?_
    unfold aV d6 at *
    rw [bb] at *
    rw [vY] at q
    cases hg:h[k]? with
    | none=>rw [hg] at q; cases q
    | some o =>
      rw [hg] at q
      simp only [Option.map_some] at q
      split at q
      ·rename_i hq
       split at hq
       ·cases hq
       ·cases hq; rfl
      ·rename_i hq
       split at hq
       ·cases hq
       ·cases hq; rfl
      ·cases q
   ·have:=(hpl k q).2.1; omega
end
end
section
variable {w0:World} {ν ν' ν0:Nu} {nV nS N:Nat} {h h' h0:List O} {lh lh' lh0:List ap} {α:Type} {LP:d7} {Q:α->Prop} {e:bp} {sl:List ak} {ctx:Bool} {S:FuncId->bE}
theorem Fo {k:Nat} (hl:aV h k):k < h.length:=by
 rcases eh hl with ⟨_,_,g⟩ | ⟨_,_,_,_,g⟩ <;> exact (List.getElem?_eq_some_iff.1 g).1
theorem Ax (hV:nV=h.length) {v:V} {a:ak} {l:List Nat} (hv:vr w0 ν.z ν v a) (hn:iG h v=some l) :
 (∀ j,j ∈ uu a ↔ ∃ k,k ∈ l/\qp ν nV nS k=some j)/\∀ k,k ∈ l->k < nV->aV h k:=by
 have one:∀ {k b:Nat} {x:Nat × Nat},aV h k->ν k=some (some (b,x))->∀ j,j ∈ [b] ↔ ∃ k',k' ∈ [k]/\qp ν nV nS k'=some j:=fun {k b x} hl hk j=>by
  have hlt:k < nV:=by rw [hV]; exact Fo hl
  simp only [List.mem_singleton,exists_eq_left]
  unfold qp
  rw [if_pos hlt,hk]
  simp [eq_comm]
 have lv:∀ {k:Nat},aV h k->∀ k',k' ∈ [k]->k' < nV->aV h k':=fun hl k' hk' _=>by
  rw [List.mem_singleton.1 hk']; exact hl
 cases v <;> simp only [iG] at hn <;> try cases hn
 case pl k off =>
  cases hl:d6 h k with
  | false=>rw [hl] at hn; cases hn
  | true =>
    rw [hl] at hn; cases hn
    simp only [vr] at hv
    obtain ⟨b,c,ez,g1,rfl⟩:=hv
    exact ⟨one hl g1,lv hl⟩
 case pe k i j =>
  cases hl:d6 h k with
  | false=>rw [hl] at hn; cases hn
  | true =>
    rw [hl] at hn; cases hn
    simp only [vr] at hv
    obtain ⟨b,c,ez,g1,rfl⟩:=hv
    exact ⟨one hl g1,lv hl⟩
 case ss k off n c =>
  cases hl:d6 h k with
  | false=>rw [hl] at hn; cases hn
  | true =>
    rw [hl] at hn; cases hn
    simp only [vr] at hv
    obtain ⟨b,c,ez,g1,rfl⟩:=hv
    exact ⟨one hl g1,lv hl⟩
 case gs k n =>
  cases hl:d6 h k with
  | false=>rw [hl] at hn; cases hn
  | true =>
    rw [hl] at hn; cases hn
    simp only [vr] at hv
    rcases hv with ⟨g1,g2,rfl⟩ | ⟨b,c,ez,g1,rfl,_⟩
    ·refine ⟨fun j=>?_,lv hl⟩
     have hlt:k < nV:=by rw [hV]; exact Fo hl
     simp only [uu,List.not_mem_nil,false_iff,not_exists,not_and]
     intro k' hk'
     rw [List.mem_singleton.1 hk']
     unfold qp
     rw [if_pos hlt,g1]; simp
    ·exact ⟨one hl g1,lv hl⟩
 case ns =>
  simp only [vr] at hv; subst hv
  exact ⟨fun j=>by simp [uu],fun k hk=>by cases hk⟩
theorem P1 (hh:HR w0 ν nV nS h lh) (hV:nV=h.length) (hsl:fp w0 ν N e sl) {s:Aa} {l:List Nat} (hn:Ek h e nV s=some l) :
 (∀ j,j ∈ Sa w0 lh sl nS s ↔ ∃ k,k ∈ l/\qp ν nV nS k=some j)/\∀ k,k ∈ l->k < nV->aV h k:=by
 cases s with
 | fresh r =>
   simp only [Ek] at hn; cases hn
   refine ⟨fun j=>?_,fun k hk hlt=>?_⟩
   ·simp only [Sa,List.mem_singleton,exists_eq_left]
    unfold qp
    rw [if_neg (by omega),show nS+(nV+r - nV)=nS+r by omega]
    simp [eq_comm]
   ·rw [List.mem_singleton.1 hk] at hlt; omega
 | slot s=>exact Ax hV (hsl.at' s) hn
 | load s off =>
   have hat:=hsl.at' s
   simp only [Ek] at hn
   split at hn
   ·rename_i k o hk
    rw [hk] at hat
    simp only [vr] at hat
    obtain ⟨b,c,ez,g1,g2⟩:=hat
    split at hn
    ·rename_i v hv
     obtain ⟨p,x,e1,e2,e3⟩:=BW hh (v:=.pl k (o+off)) (a:=.ptr (some (.l b (o+off)))) (by simp only [vr]; exact ⟨b,c,ez,g1,rfl⟩) hv (fun _ _ _ he=>by cases he)
     cases e1
     have:=Ax (nS:=nS) hV e3 hn
     simp only [Sa,g2,gA.add,e2]
     exact this
    ·cases hn
   ·cases hn
theorem vF (hh:HR w0 ν nV nS h lh) (hV:nV=h.length) (hsl:fp w0 ν N e sl):∀ {ss:List Aa} {l:List Nat},q9 h e nV ss=some l ->
 (∀ j,j ∈ rl w0 lh sl nS ss ↔ ∃ k,k ∈ l/\qp ν nV nS k=some j)/\∀ k,k ∈ l->k < nV->aV h k
 | [],l,hn=>by simp only [q9] at hn; cases hn; exact ⟨fun j=>by simp [rl],fun k hk=>by cases hk⟩
 | s :: ss,l,hn=>by
   simp only [q9] at hn
   split at hn
   ·rename_i a b ha hb
    cases hn
    obtain ⟨g1,g2⟩:=P1 hh hV hsl ha
    obtain ⟨g3,g4⟩:=vF hh hV hsl hb
    refine ⟨fun j=>?_,fun k hk=>?_⟩
    ·simp only [rl,List.mem_append,j9,g1 j,g3 j]
     constructor
     ·rintro (⟨k,h1,h2⟩ | ⟨k,h1,h2⟩)
      ·exact ⟨k,.inl h1,h2⟩
      ·exact ⟨k,.inr h1,h2⟩
     ·rintro ⟨k,h1 | h1,h2⟩
      ·exact .inl ⟨k,h1,h2⟩
      ·exact .inr ⟨k,h1,h2⟩
    ·rw [j9,List.mem_append] at hk
     rcases hk with hk | hk
     ·exact g2 k hk
     ·exact g4 k hk
   ·cases hn
theorem s9 {h:List O} {e:bp} {n0:Nat}:∀ {ds:List gy} {Ws:List (List Nat)},rh h e n0 ds=some Ws->∀ i,match ds[i]? with | some d=>q9 h e n0 d.ws=some (c8 Ws i) | none=>c8 Ws i=[]
 | [],Ws,hn,i=>by simp only [rh] at hn; cases hn; simp [c8,fq]
 | d::ds,Ws,hn,i=>by
   simp only [rh] at hn
   split at hn
   ·rename_i a b ha hb
    cases hn
    cases i with
    | zero=>simp [c8,fq,ha]
    | succ i=>simpa [c8,fq] using s9 hb i
   ·cases hn
theorem ahl (hh:HR w0 ν nV nS h lh) (hV:nV=h.length) (hsl:fp w0 ν N e sl) {ds:List gy} {Ws:List (List Nat)} (hn:rh h e nV ds=some Ws):WR ν nV nS h Ws (jY w0 lh sl nS ds):=by
 have key:∀ i,(∀ j,j ∈ wOf (jY w0 lh sl nS ds) i ↔ ∃ k,k ∈ c8 Ws i/\qp ν nV nS k=some j)/\∀ k,k ∈ c8 Ws i->k < nV->aV h k:=fun i=>by
  have h1:=s9 hn i
  have h2:=mZ w0 lh sl nS ds i
  unfold wOf
  rw [h2]
  cases hd:ds[i]? with
  | none=>rw [hd] at h1; dsimp only at h1 ⊢; rw [h1]; exact ⟨fun j=>by simp,fun k hk=>by cases hk⟩
  | some d=>rw [hd] at h1; exact vF hh hV hsl h1
 exact ⟨fun i=>(key i).1,fun i=>(key i).2⟩
theorem EL {WsS:List (List Nat)} {un:List Nat} {j:Nat}:j ∈ Da WsS un ↔ ∃ u,u ∈ un/\j ∈ wOf WsS u:=by
 unfold Da; simp [List.mem_flatMap]
def ajb (w0:World) (S:FuncId->bE) (LP:d7) (cp:FuncId->List V->List O->(V->T α)->T α):Prop:=∀ (f:FuncId) (vs:List V) (h:List O) (K:V->T α) (Q:α->Prop) (ν:Nu) (nV nS:Nat) (args:List ak) (lh:List ap) (KA:ak->List ap->Prop),
 bf w0 ν.z ν vs args->HR w0 ν nV nS h lh->bn LP (cp f vs h K) Q->(∀ v a,vr w0 ν.z ν v a->bn LP (K v) Q->KA a lh)->S f w0 args lh KA
def tA (w0:World) (S:FuncId->bE) (LP:d7) (cp:CP α):Prop:=ajb w0 S LP (cp false)/\qI w0 (u6 S) LP false (fun f vs h K=>cp true f vs h fun v=>K v h)
theorem tA.cf {cp:CP α} (hc:tA w0 S LP cp) (md:Bool):qI w0 S LP md (fun f vs h K=>cp false f vs h fun v=>K v h):=fun f vs h K Q ν nV nS args lh KA h1 h2 h3 h4 =>
 hc.1 f vs h _ Q ν nV nS args lh KA h1 h2 h3 fun v a hv hs=>h4 v h ν a lh (fun _=>⟨rfl,rfl,rfl⟩) (Nu.sub_refl ν) h2 hv hs
theorem Ja {op:jy} {pl:Option Nat} {KA:ak->List ap->Prop} (hst:jZ op=true) (hv:cI w0 S sl lh none KA op):cI w0 S sl lh pl KA op:=by
 cases op <;> first | exact hv | cases hst
def xF (N:Nat):List gy->Bool
 | []=>true
 | d::l=>(match d.o.dst with | some d=>Nat.blt d N | none=>true) && xF N l
theorem UN {N:Nat} {d:gy} {l:List gy} (hd:xF N (d::l)=true):(∀ i,d.o.dst=some i->i < N)/\xF N l=true:=by
 simp only [xF,Bool.and_eq_true] at hd
 refine ⟨fun i hi=>?_,hd.2⟩
 rw [hi] at hd
 exact Nat.le_of_ble_eq_true hd.1
theorem tl {Ws:List (List Nat)} {Y:List Nat} {all:List gy} {j:Nat}:∀ {l:List gy} {i:Nat},(∀ t,l[t]? = all[i+t]?)->tP Ws Y l i j=true->∀ i',i<=i'->i' < j->(match all[i']? with | some d=>d.rk.isSome | none=>false)=true ->
 (∀ k,k ∈ c8 Ws i'->k ∉ Y) ∨ ∀ k,k ∈ c8 Ws i'->k ∈ Y
 | [],i,hl,hc,i',h1,h2,h3=>by
   have:=hl (i' - i)
   rw [show i+(i' - i)=i' by omega] at this
   rw [← this] at h3; simp at h3
 | d :: l,i,hl,hc,i',h1,h2,h3=>by
   simp only [tP] at hc
   have hb:Nat.blt i j=true:=Nat.ble_eq_true_of_le (by omega:i+1<=j)
   rw [hb] at hc
   simp only [cond_true,Bool.and_eq_true] at hc
   have h0:=hl 0
   simp only [List.getElem?_cons_zero,Nat.add_zero] at h0
   by_cases e1:i'=i
   ·subst e1
    rw [← h0] at h3
    dsimp only at h3
    cases hr:d.rk with
    | none=>rw [hr] at h3; cases h3
    | some r =>
      have hc1:=hc.1
      rw [hr] at hc1
      simp only [Bool.or_eq_true] at hc1
      rcases hc1 with q | q
      ·exact .inl (ta.1 q)
      ·exact .inr (tS.1 q)
   ·exact tl (fun t=>by have:=hl (t+1); rw [List.getElem?_cons_succ] at this; rw [this,show i+(t+1)=i+1+t by omega]) hc.2 i' (by omega) h2 h3
theorem Ae {Ws:List (List Nat)} {all:List gy}:∀ {l:List gy} {j:Nat},(∀ t,l[t]? = all[j+t]?)->vH Ws all l j=true->∀ j' d,j<=j'->all[j']? = some d->tP Ws (c8 Ws j') all 0 j'=true/\tP Ws (lK Ws d.un) all 0 j'=true
 | [],j,hl,hc,j',d,h1,h2=>by
   have:=hl (j' - j)
   rw [show j+(j' - j)=j' by omega,h2] at this; simp at this
 | d::l,j,hl,hc,j',d',h1,h2=>by
   simp only [vH,Bool.and_eq_true] at hc
   have h0:=hl 0
   simp only [List.getElem?_cons_zero,Nat.add_zero] at h0
   by_cases e1:j'=j
   ·subst e1
    rw [← h0] at h2; cases h2
    exact hc.1
   ·exact Ae (fun t=>by have:=hl (t+1); rw [List.getElem?_cons_succ] at this; rw [this,show j+(t+1)=j+1+t by omega]) hc.2 j' d' (by omega) h2
theorem qR {Ws:List (List Nat)} {all:List gy}:∀ {l:List gy} {j:Nat},(∀ t,l[t]? = all[j+t]?)->ri Ws l j=true->∀ j' d,j<=j'->all[j']? = some d->∀ k,k ∈ c8 Ws j'->k ∉ lK Ws d.un
 | [],j,hl,hc,j',d,h1,h2=>by
   have:=hl (j' - j)
   rw [show j+(j' - j)=j' by omega,h2] at this; simp at this
 | d::l,j,hl,hc,j',d',h1,h2=>by
   simp only [ri,Bool.and_eq_true] at hc
   have h0:=hl 0
   simp only [List.getElem?_cons_zero,Nat.add_zero] at h0
   by_cases e1:j'=j
   ·subst e1
    rw [← h0] at h2; cases h2
    exact ta.1 hc.1
   ·exact qR (fun t=>by have:=hl (t+1); rw [List.getElem?_cons_succ] at this; rw [this,show j+(t+1)=j+1+t by omega]) hc.2 j' d' (by omega) h2
def rkB (ds:List gy) (i:Nat):Bool:=match ds[i]? with
 | some d=>d.rk.isSome
 | none=>false
theorem ky {cp:CP α} (hcp:tA w0 S LP cp) {ds:List gy} {Ws WsS:List (List Nat)} (H0:HR w0 ν0 nV nS h0 lh0) (hS:nS=lh0.length) (hw:WR ν0 nV nS h0 Ws WsS) (hcons:vH Ws ds ds 0=true) (hall:ri Ws ds 0=true) :
 ∀ (rest:List gy) (i:Nat) (e:bp) (h:List O) (ν:Nu) (sl:List ak) (lh:List ap) (K:bp->List O->T α) (KA:List ak->List ap->Prop),(∀ t,rest[t]? = ds[i+t]?)->xF N rest=true ->
 DI w0 ν0 h0 nV nS Ws (rkB ds) i ν h lh->fp w0 ν N e sl->bn LP (eD cp Ws nV rest i e h K) Q ->
 (∀ e' h' ν' sl' lh',ν.sub ν'->fp w0 ν' N e' sl'->HR w0 ν' nV nS h' lh'->bn LP (K e' h') Q->KA sl' lh')->iA w0 S WsS nS KA rest i sl lh
 | [],i,e,h,ν,sl,lh,K,KA,hr,hd,hdi,hsl,hs,hK=>hK e h ν sl lh (Nu.sub_refl ν) hsl hdi.hr hs
 | d :: rest,i,e,h,ν,sl,lh,K,KA,hr,hd,hdi,hsl,hs,hK=>by
   obtain ⟨hd1,hd2⟩:=UN hd
   have hdsi:ds[i]? = some d:=by have:=hr 0; simpa using this.symm
   have hr':∀ t,rest[t]? = ds[i+1+t]? := fun t=>by have:=hr (t+1); rw [List.getElem?_cons_succ] at this; rw [this,show i+(t+1)=i+1+t by omega]
   obtain ⟨hc1,hc2⟩:=Ae (j:=0) (fun t=>by simp) hcons i d (Nat.zero_le _) hdsi
   have hdis:=qR (j:=0) (fun t=>by simp) hall i d (Nat.zero_le _) hdsi
   have hCW:B8 Ws (rkB ds) i (c8 Ws i):=fun i' h1 h2=>tl (i:=0) (fun t=>by simp) hc1 i' (Nat.zero_le _) h1 h2
   have hCX:B8 Ws (rkB ds) i (lK Ws d.un):=fun i' h1 h2=>tl (i:=0) (fun t=>by simp) hc2 i' (Nat.zero_le _) h1 h2
   have hXw:∀ k,k ∈ lK Ws d.un->∃ u,k ∈ c8 Ws u:=fun k hk=>by obtain ⟨u,_,g⟩:=kx.1 hk; exact ⟨u,g⟩
   have hXS:∀ j,j ∈ Da WsS d.un ↔ ∃ k,k ∈ lK Ws d.un/\qp ν0 nV nS k=some j:=fun j=>by
    rw [EL]
    constructor
    ·rintro ⟨u,h1,h2⟩
     obtain ⟨k,g1,g2⟩:=(hw.rel u j).1 h2
     exact ⟨k,kx.2 ⟨u,h1,g1⟩,g2⟩
    ·rintro ⟨k,h1,h2⟩
     obtain ⟨u,g1,g2⟩:=kx.1 h1
     exact ⟨u,g1,(hw.rel u j).2 ⟨k,g2,h2⟩⟩
   have hhid:=hdi.hide H0 hS hw hCX hXw hXS
   have hsucc:DI w0 ν0 h0 nV nS Ws (rkB ds) (i+1) ν h lh:=⟨hdi.hr,hdi.old,hdi.zc,hdi.liv,fun k x h1 h2=>by
    rcases hdi.nw k x h1 h2 with g | ⟨a,b,g1,g2,g3⟩
    ·exact .inl g
    ·exact .inr ⟨a,b,g1,by omega,g3⟩⟩
   have hmixid:mix (wOf WsS i) lh (hide (Da WsS d.un) lh)=lh:=by
    apply List.ext_getElem?
    intro j
    rw [td]
    cases hg:lh[j]? with
    | none=>rfl
    | some o =>
      simp only [Option.map_some]
      by_cases hj:j ∈ wOf WsS i
      ·rw [if_pos hj]
       simp only [List.getD,mU,hg,Option.map_some,Option.getD_some]
       rw [if_neg]
       intro hx
       obtain ⟨k,g1,g2⟩:=(hw.rel i j).1 hj
       obtain ⟨k',g3,g4⟩:=(hXS j).1 hx
       obtain ⟨u,_,g5⟩:=kx.1 g3
       have:=sB H0 hS (fun hlt=>hw.live i k g1 hlt) (fun hlt=>hw.live u k' g5 hlt) g2 g4
       subst this
       exact hdis k g1 g3
      ·rw [if_neg hj]
   -- an operation is run
   have run:∀ {e0:bp} {ctx:Bool} {W:V->V},ctx=true->(∀ v a,vr w0 ν.z ν v a->vr w0 ν.z ν (W v) a)->jZ d.o.op=true->fp w0 ν N e0 sl ->
    bn LP (yw (fun f vs h K=>cp false f vs h fun v=>K v h) ctx none d.o.op e0 (iB (lK Ws d.un) h) fun v _=>eD cp Ws nV rest (i+1) (dJ e0 d.o.dst (W v)) h K) Q ->
    cI w0 S sl (hide (Da WsS d.un) lh) (d.rk.map (nS+·)) (fun v l=>iP (wOf WsS i) l (hide (Da WsS d.un) lh)/\iA w0 S WsS nS KA rest (i+1) (d8 sl d.o.dst v) (mix (wOf WsS i) lh l)) d.o.op:=by
    intro e0 ctx W hc hWv hst hsl0 hs
    refine Ja hst (xT (md:=false) (wn:=[]) hsl0 hhid hc (hcp.cf false) (.inl ⟨rfl,rfl⟩) (fun e=>by cases e) hs fun v h' ν' a lh' _ q g1 g2 g3 g4=>?_)
    obtain ⟨rfl,rfl,rfl⟩:=q hst
    refine ⟨⟨rfl,fun _ _=>rfl⟩,?_⟩
    rw [hmixid]
    exact ky hcp H0 hS hw hcons hall rest (i+1) _ _ _ _ _ K KA hr' hd2 hsucc (hsl0.put d.o.dst hd1 (hWv _ _ g3)) g4 hK
   have runM:∀ {e0:bp},fp w0 ν N e0 sl->bn LP (evM cp Ws nV d i e0 h fun v h=>eD cp Ws nV rest (i+1) (dJ e0 d.o.dst v) h K) Q ->
    cI w0 S sl (hide (Da WsS d.un) lh) (d.rk.map (nS+·)) (fun v l=>iP (wOf WsS i) l (hide (Da WsS d.un) lh)/\iA w0 S WsS nS KA rest (i+1) (d8 sl d.o.dst v) (mix (wOf WsS i) lh l)) d.o.op:=by
    intro e0 hsl0 hs
    unfold evM at hs
    split at hs
    ·rename_i hst
     exact run (W:=id) rfl (fun _ _ h=>h) hst hsl0 hs
    ·rename_i hst
     split at hs
     ·exact hs.elim
     ·rename_i l hl
      cases hsb:Cv (plL (d.rk.map (nV+·)) l) (c8 Ws i) with
      | false=>rw [hsb] at hs; exact hs.elim
      | true =>
        rw [hsb] at hs
        simp only [cond_true] at hs
        have hsb:=tS.1 hsb
        have hlW:∀ k,k ∈ l->k ∈ c8 Ws i:=fun k hk=>hsb k (by unfold plL; split <;> simp [hk])
        have hpR:plR nV nS (d.rk.map (nV+·)) (d.rk.map (nS+·)):=by
         cases hr:d.rk with
         | none=>exact .inl ⟨rfl,rfl⟩
         | some r=>exact .inr ⟨nV+r,rfl,by simp⟩
        refine xT (md:=true) (wn:=c8 Ws i) hsl0 hhid rfl (hcp.cf true) hpR (fun _=>⟨l,hl,hlW⟩) hs fun v h' ν' a lh' hm _ g1 g2 g3 g4=>?_
        obtain ⟨q1,q2⟩:=hdi.mix H0 hS hw hCX hCW hdis hhid (pl:=d.rk.map (nV+·)) (plA:=d.rk.map (nS+·)) (fun p hp=>by
         cases hr:d.rk with
         | none=>rw [hr] at hp; cases hp
         | some r =>
           rw [hr] at hp
           simp only [Option.map_some,Option.some.injEq] at hp
           subst hp
           refine ⟨hsb _ (by rw [hr]; simp [plL]),by omega,by simp,?_⟩
           unfold rkB; rw [hdsi]; dsimp only; rw [hr]; rfl) (fun hp=>by
         cases hr:d.rk with
         | none=>rfl
         | some r=>rw [hr] at hp; cases hp) g1 g2 (hm rfl)
        exact ⟨q1,ky hcp H0 hS hw hcons hall rest (i+1) _ _ _ _ _ K KA hr' hd2 q2 ((hsl0.mono g1).put d.o.dst hd1 g3) g4 fun e' h' ν'' sl' lh' k1=>hK e' h' ν'' sl' lh' (Nu.sub_trans g1 k1)⟩
   have skip:∀ {e0:bp},fp w0 ν N e0 sl->bn LP (eD cp Ws nV rest (i+1) (dJ e0 d.o.dst (.tup [])) h K) Q->iA w0 S WsS nS KA rest (i+1) (d8 sl d.o.dst (.tup [])) lh:=by
    intro e0 hsl0 hs
    exact ky hcp H0 hS hw hcons hall rest (i+1) _ _ _ _ _ K KA hr' hd2 hsucc (hsl0.put d.o.dst hd1 xm) hs hK
   have skipS:∀ {b:Bool},jZ d.o.op=true->b=false->bn LP (yw (fun f vs h K=>cp false f vs h fun v=>K v h) b none d.o.op e (iB (lK Ws d.un) h) fun v _=>eD cp Ws nV rest (i+1) (dJ e d.o.dst (.gd b v)) h K) Q->iA w0 S WsS nS KA rest (i+1) (d8 sl d.o.dst (.tup [])) lh:=by
    intro b hst hb hs
    obtain ⟨v,g⟩:=GG hb hst hs
    exact ky hcp H0 hS hw hcons hall rest (i+1) _ _ _ _ _ K KA hr' hd2 hsucc (hsl.put d.o.dst hd1 (Eg hb)) g hK
   simp only [eD] at hs
   simp only [iA,HH,mA]
   split at hs
   ·rename_i hg; rw [hg]; exact runM hsl hs
   ·rename_i g want hg
    rw [hg]
    dsimp only
    have hat:=hsl.at' g
    split at hs
    ·rename_i b hb
     rw [hb] at hat
     simp only [vr] at hat
     rw [hat]
     dsimp only
     split at hs
     ·rename_i he _
      subst he
      exact ⟨fun _=>runM hsl hs,fun e=>by cases b <;> cases e⟩
     ·rename_i he _
      exact ⟨fun e=>(he e).elim,fun e=>skip hsl hs⟩
    ·rename_i l hb
     rw [hb] at hat
     simp only [vr] at hat
     obtain ⟨az,hat,_⟩:=hat
     rw [hat]
     exact skip hsl hs
    ·rename_i k n hb
     rw [hb] at hat
     simp only [vr] at hat
     rw [hat]
     exact skip hsl hs
    ·rename_i b hb
     rw [hb] at hat
     simp only [vr] at hat
     rw [hat]
     dsimp only
     split at hs
     ·rename_i hst
      exact ⟨fun e1=>run (r4 e1) (fun _ _ hv=>w6 (r4 e1) hv) hst hsl hs,fun e1=>skipS hst (vd e1) hs⟩
     ·simp only [bn] at hs
      exact ⟨fun e1=>runM (hsl.know (by simp only [vr]; rw [hat,e1])) (hs.1 (r4 e1)),fun e1=>skip (hsl.know (by simp only [vr]; rw [hat,e1])) (hs.2 (vd e1))⟩
    ·rename_i c v hb
     rw [hb] at hat
     simp only [vr] at hat
     split at hs
     ·split at hs
      ·have hl:∃ l,sl.getD g .any=.tup l:=by
        cases c with
        | false=>exact hat.2 rfl
        | true=>have:=hat.1 rfl; simp only [vr] at this; obtain ⟨l,e,_⟩:=this; exact ⟨l,e⟩
       obtain ⟨l,hl⟩:=hl
       rw [hl]
       exact skip hsl hs
      ·exact hs.elim
     ·rename_i b hbv
      cases c with
      | false =>
        obtain ⟨l,hl⟩:=hat.2 rfl
        rw [hl]
        dsimp only
        split at hs
        ·rename_i hst
         exact skipS hst rfl hs
        ·simp only [bn] at hs
         exact skip hsl (hs.2 rfl)
      | true =>
        have hat:=l7 (hat.1 rfl) hbv
        rw [hat]
        dsimp only
        split at hs
        ·rename_i hst
         exact ⟨fun e1=>run (by rw [r4 e1]; rfl) (fun _ _ hv=>w6 (by rw [r4 e1]; rfl) hv) hst hsl hs,fun e1=>skipS hst (by rw [vd e1]; rfl) hs⟩
        ·simp only [bn] at hs
         exact ⟨fun e1=>runM (hsl.know (by simp only [vr]; rw [hat,e1])) (hs.1 (by rw [r4 e1]; rfl)),fun e1=>skip hsl (hs.2 (by rw [vd e1]; rfl))⟩
    ·exact hs.elim
theorem qZ {cp:CP α} (hcp:tA w0 S LP cp) {ds:List gy} {a b:Nat} {K:bp->List O->T α} {KA:List ak->List ap->Prop} (hd:xF N ds=true) (hsl:fp w0 ν N e sl) (hh:HR w0 ν a b h lh)
 (hs:bn LP (tg cp ds e h K) Q) (hK:∀ e' h' ν' sl' lh' nV nS,ν.sub ν'->fp w0 ν' N e' sl'->HR w0 ν' nV nS h' lh'->bn LP (K e' h') Q->KA sl' lh'):kU w0 S ds sl lh KA:=by
 unfold tg at hs
 split at hs
 ·exact hs.elim
 ·rename_i Ws hW
  cases hc:(ri Ws ds 0 && vH Ws ds ds 0) with
  | false=>rw [hc] at hs; exact hs.elim
  | true =>
    rw [hc] at hs
    simp only [cond_true] at hs
    simp only [Bool.and_eq_true] at hc
    have hlen:bD h=(undead h).length:=by rw [yac,oe]
    rw [hlen] at hs hW
    have H0:=hh.undead (undead h).length lh.length
    have hw:=ahl H0 rfl hsl hW
    have H1:=H0.deads rfl rfl (M3 ds)
    rw [j9] at hs
    refine ⟨?_,?_⟩
    ·-- the sets are apart there,too
     have gen:∀ (l:List gy) (j:Nat),(∀ t,l[t]? = ds[j+t]?)->AE (jY w0 lh sl lh.length ds) l j:=by
      intro l
      induction l with
      | nil=>intro j _; trivial
      | cons d l ih =>
        intro j hl
        have hdj:ds[j]? = some d:=by have:=hl 0; simpa using this.symm
        have hdis:=qR (j:=0) (fun t=>by simp) hc.1 j d (Nat.zero_le _) hdj
        refine ⟨?_,ih (j+1) fun t=>by have:=hl (t+1); rw [List.getElem?_cons_succ] at this; rw [this,show j+(t+1)=j+1+t by omega]⟩
        have disj_of:∀ (A B:List Nat),(∀ k,k ∈ A->k ∉ B)->OG A B:=by
         intro A B hAB
         induction A with
         | nil=>trivial
         | cons x A ihA =>
           refine ⟨?_,ihA fun k hk=>hAB k (List.mem_cons_of_mem _ hk)⟩
           have hx:=hAB x List.mem_cons_self
           clear ihA hAB
           induction B with
           | nil=>trivial
           | cons y B ihB=>exact ⟨fun e=>hx (by rw [e]; exact List.mem_cons_self),ihB fun hm=>hx (List.mem_cons_of_mem _ hm)⟩
        refine disj_of _ _ fun s hs1 hs2=>?_
        obtain ⟨k,g1,g2⟩:=(hw.rel j s).1 hs1
        obtain ⟨u,g3,g4⟩:=EL.1 hs2
        obtain ⟨k',g5,g6⟩:=(hw.rel u s).1 g4
        have:=sB H0 rfl (fun hlt=>hw.live j k g1 hlt) (fun hlt=>hw.live u k' g5 hlt) g2 g6
        subst this
        exact hdis k g1 (kx.2 ⟨u,g3,g5⟩)
     exact gen ds 0 fun t=>by simp
    ·refine ky hcp H0 rfl hw hc.2 hc.1 ds 0 e _ ν sl _ K KA (fun t=>by simp) hd ⟨H1,fun _ _=>rfl,rfl,fun k hk hl=>?_,fun k x hk hx=>?_⟩ hsl hs fun e' h' ν' sl' lh'=>hK e' h' ν' sl' lh' _ _
     ·unfold aV d6 at *
      rw [bb] at *
      rw [List.getElem?_append_left hk] at hl; exact hl
     ·rw [H0.dom k hk] at hx; cases hx
end
def gw (N:Nat):List lJ->Bool
 | []=>true
 | .op o::l=>l8 N [o] && gw N l
 | .yld _ d _::l=>(match d with | some d=>Nat.blt d N | none=>true) && gw N l
 | .yldG _ _ _ d _::l=>(match d with | some d=>Nat.blt d N | none=>true) && gw N l
def pQ (N:Nat):gE->Bool
 | .reg ops=>gw N ops
 | .draw ds=>xF N ds
 | .drawY ds xs=>xF N ds && gw N xs
 | .seq a b=>pQ N a && pQ N b
 | .cond _ a b=>pQ N a && pQ N b
 | .block _ b=>pQ N b
 | .loop b=>pQ N b
 | .scope b=>pQ N b
 | _=>true
def yb:List gk->Bool
 | []=>true
 | it::l=>pQ it.ntmps it.body && yb l
def tn (N:Nat):List Nat->Bool
 | []=>true
 | p::l=>Nat.blt p N && tn N l
def rx (N:Nat):OT->Bool
 | .done=>true
 | .op o r=>l8 N [o] && rx N r
 | .alt a b=>rx N a && rx N b
def eT (N:Nat):fB->Bool
 | .reg ops=>l8 N ops
 | .draw ds=>xF N ds
 | .allo t=>rx N t
 | .alloq t=>rx N t
 | .seq a b=>eT N a && eT N b
 | .cond _ a b=>eT N a && eT N b
 | .block _ b=>eT N b
 | .loop b=>eT N b
 | .scope b=>eT N b
 | .range _ ps a b its=>tn N ps && (eT N a && (eT N b && yb its))
 | _=>true
def NuN (nb:Nat) (ν ν':Nu):Prop:=(∀ k x,k < nb->ν k=some x->ν' k=some x)/\sS ν.z ν'.z
theorem NuN.refl (nb:Nat) (ν:Nu):NuN nb ν ν:=⟨fun _ _ _ h=>h,kq _⟩
theorem NuN.trans {nb:Nat} {a b c:Nu} (h:NuN nb a b) (k:NuN nb b c):NuN nb a c:=⟨fun i x hi hx=>k.1 i x hi (h.1 i x hi hx),mV h.2 k.2⟩
theorem NuN.of {ν ν':Nu} (h:ν.sub ν') (nb:Nat):NuN nb ν ν':=⟨fun k x _ hx=>h.1 k x hx,h.2⟩
theorem NuN.sub {ν ν':Nu} {nb:Nat} (h:NuN nb ν ν') (hd:∀ k,nb<=k->ν k=none):ν.sub ν':=⟨fun k x hx=>(by
 rcases Nat.lt_or_ge k nb with hk | hk
 ·exact h.1 k x hk hx
 ·rw [hd k hk] at hx; exact absurd hx (by simp)),h.2⟩
def HJ (w0:World) (nb N0:Nat) (e0:bp) (sl0:List ak) (ν:Nu):Prop:=∃ ν0:Nu,(∀ k,nb<=k->ν0 k=none)/\fp w0 ν0 N0 e0 sl0/\ν0.sub ν
theorem HJ.step {w0:World} {nb N0:Nat} {e0:bp} {sl0:List ak} {ν ν':Nu} (h:HJ w0 nb N0 e0 sl0 ν) (hn:NuN nb ν ν'):HJ w0 nb N0 e0 sl0 ν':=by
 obtain ⟨ν0,h1,h2,h3⟩:=h
 exact ⟨ν0,h1,h2,NuN.sub ⟨fun k x hk hx=>hn.1 k x hk (h3.1 k x hx),mV h3.2 hn.2⟩ h1⟩
theorem HJ.get {w0:World} {nb N0:Nat} {e0:bp} {sl0:List ak} {ν:Nu} (h:HJ w0 nb N0 e0 sl0 ν):fp w0 ν N0 e0 sl0:=let ⟨_,_,h2,h3⟩:=h; h2.mono h3
def YA (w0:World) (S:FuncId->bE) (ps:List Nat) (asg body:fB) (sl0:List ak):YH:=fun xs lh K=>xs.length=ps.length/\bO w0 S lh.length asg (jX sl0 ps xs) lh (rU (fun sl lh'=>bO w0 S lh.length body sl lh' fun x _ lh=>K x lh) fun _ _ _=>False)
abbrev zS:=Nat->FuncId->bE
def cO (w0:World) (S:zS):d7:=fun fr b e h g Post=>match b with
 | .s body=>∀ (N nbS:Nat) (ν:Nu) (nV nS:Nat) (sl:List ak) (lh:List ap) (QA:Ex->List ak->List ap->Prop),eT N body=true->fp w0 ν N e sl->HR w0 ν nV nS h lh ->
   (∀ ex e' h' ν' sl' lh' nV' nS',NuN fr.2 ν ν'->fp w0 ν' N e' sl'->HR w0 ν' nV' nS' h' lh'->Post ex e' h' none->QA ex sl' lh')->bO w0 (S fr.1) nbS (.loop body) sl lh QA
 | .i body rd=>∀ (N N0:Nat) (ν:Nu) (nV nS:Nat) (sl sl0:List ak) (lh:List ap) (QA:IQ),pQ N body=true->tn N0 rd.ps=true->eT N0 rd.asg=true->eT N0 rd.body=true->fp w0 ν N e sl->HJ w0 fr.2 N0 rd.e0 sl0 ν->HR w0 ν nV nS h lh ->
   (∀ ex e' h' g' ν' sl' lh' nV' nS',NuN fr.2 ν ν'->fp w0 ν' N e' sl'->HR w0 ν' nV' nS' h' lh'->Post ex e' h' g'->QA ex sl' lh' g')->ju w0 (S fr.1) rd.l (YA w0 (S fr.1) rd.ps rd.asg rd.body sl0) (.loop body) sl lh g QA
section
variable {w0:World} {S:zS} {α:Type} {Q:α->Prop} {cf:CF α} {cp:CP α}
theorem rb {ν:Nu} {N:Nat}:∀ (ps:List Nat) (e:bp) (sl:List ak) (vs:List V) (az:List ak),tn N ps=true->fp w0 ν N e sl->bf w0 ν.z ν vs az->vs.length=ps.length->fp w0 ν N (oy e ps vs) (jX sl ps az)
 | [],e,sl,vs,az,_,h,_,_=>by cases vs <;> simpa [oy,jX] using h
 | p::ps,e,sl,[],az,_,_,_,hl=>by cases hl
 | p::ps,e,sl,v::vs,az,hp,h,hv,hl=>by
   simp only [bf] at hv
   obtain ⟨x,xs,rfl,h1,h2⟩:=hv
   simp only [tn,Bool.and_eq_true] at hp
   simp only [oy,jX]
   exact rb ps _ _ vs xs hp.2 (h.set (by simpa [Nat.blt_eq] using hp.1) h1) h2 (by simpa using hl)
def LZ (w0:World) (LP:d7) (Q:α->Prop) (nb N0:Nat) (e0:bp) (sl0:List ak) (Y:YV α) (YS:YH):Prop :=
 ∀ (vs:List V) (h:List O) (ν:Nu) (nV nS:Nat) (args:List ak) (lh:List ap) (K:Ex->List O->T α) (KA:Ex->List ap->Prop),HJ w0 nb N0 e0 sl0 ν->HR w0 ν nV nS h lh->bf w0 ν.z ν vs args->bn LP (Y vs h K) Q ->
  (∀ x h' ν' nV' nS' lh',ν.sub ν'->HR w0 ν' nV' nS' h' lh'->bn LP (K x h') Q->KA x lh')->YS args lh KA
section it
variable {LP:d7} {nb N N0 lv:Nat} {rd:RD} {Y:YV α} {YS:YH} {sl0:List ak} {un:kn}
theorem TD {l:Nat} (hY:LZ w0 LP Q nb N0 rd.e0 sl0 Y YS) {t:Nat} {d:Option Nat} {xs:List eS} {e:bp} {h:List O} {g:Option Ex} {ν:Nu} {nV nS:Nat} {sl:List ak} {lh:List ap} {R:bp->List O->Option Ex->T α} {KA:List ak->List ap->Option Ex->Prop} (hdd:∀ i,d=some i->i < N)
 (h1:fp w0 ν N e sl) (hx:HJ w0 nb N0 rd.e0 sl0 ν) (h2:HR w0 ν nV nS h lh) (h3:bn LP (Ho l Y t d xs e h g R) Q)
 (h4:∀ e' h' g' ν' sl' lh' nV' nS',ν.sub ν'->fp w0 ν' N e' sl'->HR w0 ν' nV' nS' h' lh'->bn LP (R e' h' g') Q->KA sl' lh' g'):g=none/\sl.getD t .any=iw l/\YS (xs.map (arg sl)) lh (V6 KA sl d):=by
 unfold Ho at h3
 obtain ⟨u,hu,h3⟩:=A9 rfl (h1.at' t) h3
 split at h3
 ·rename_i l'
  simp only [bn] at h3
  obtain ⟨he,h3⟩:=h3
  simp only [List.cons.injEq,V.yl.injEq,and_true] at he
  subst he
  obtain ⟨us,k1,k2⟩:=j4 h1 rfl h3
  have h0:=hu
  simp only [vr] at h0
  refine ⟨rfl,h0,?_⟩
  refine hY us h ν nV nS _ lh _ _ hx h2 k1 k2 fun x h' ν' nV' nS' lh' g1 g2 g3=>?_
  have hp:∀ b,fp w0 ν' N (dJ e d (.kb b)) (d8 sl d (.bool b)):=fun b=>(h1.mono g1).put d hdd (by simp only [vr])
  cases x with
  | normal=>exact h4 _ _ _ _ _ _ _ _ g1 (hp true) g2 g3
  | exit i=>exact h4 _ _ _ _ _ _ _ _ g1 (hp false) g2 g3
  | ret=>exact h4 _ _ _ _ _ _ _ _ g1 (hp false) g2 g3
 ·exact h3.elim
theorem fM {S1:FuncId->bE} {l:Nat} (hcf:qI w0 S1 LP false cf) (hY:LZ w0 LP Q nb N0 rd.e0 sl0 Y YS):∀ (ops:List lJ) (e:bp) (h:List O) (g:Option Ex) (ν:Nu) (nV nS:Nat) (sl:List ak) (lh:List ap) (K:bp->List O->Option Ex->T α) (KA:List ak->List ap->Option Ex->Prop),gw N ops=true ->
 fp w0 ν N e sl->HJ w0 nb N0 rd.e0 sl0 ν->HR w0 ν nV nS h lh->bn LP (cV cf l Y ops e h g K) Q->(∀ e' h' g' ν' sl' lh' nV' nS',NuN nb ν ν'->fp w0 ν' N e' sl'->HR w0 ν' nV' nS' h' lh'->bn LP (K e' h' g') Q->KA sl' lh' g')->bR w0 S1 l YS ops sl lh g KA
 | [],e,h,g,ν,nV,nS,sl,lh,K,KA,_,h1,_,h2,h3,h4=>h4 _ _ _ _ _ _ _ _ (NuN.refl _ _) h1 h2 h3
 | .op o::rest,e,h,g,ν,nV,nS,sl,lh,K,KA,hd,h1,hx,h2,h3,h4=>by
   simp only [gw,Bool.and_eq_true] at hd
   simp only [cV] at h3
   simp only [bR]
   exact jt hcf [o] e h ν sl lh _ _ hd.1 h1 h2 h3 fun e' h' ν' sl' lh' k0 k1 k2 k3=>fM hcf hY rest e' h' g ν' nV nS sl' lh' K KA hd.2 k1 (hx.step (NuN.of k0 _)) k2 k3 fun e2 h2 g2 ν2 sl2 lh2 nV2 nS2 q0=>h4 e2 h2 g2 ν2 sl2 lh2 nV2 nS2 ((NuN.of k0 _).trans q0)
 | .yld t d xs::rest,e,h,g,ν,nV,nS,sl,lh,K,KA,hd,h1,hx,h2,h3,h4=>by
   simp only [gw,Bool.and_eq_true] at hd
   simp only [cV] at h3
   split at h3
   ·rename_i l' hy
    simp only [bn] at h3
    obtain ⟨he,h3⟩:=h3
    simp only [List.cons.injEq,V.yl.injEq,and_true] at he
    subst he
    obtain ⟨us,k1,k2⟩:=j4 h1 rfl h3
    have h0:=h1.at' t
    rw [hy] at h0
    simp only [vr] at h0
    simp only [bR]
    refine ⟨trivial,h0,?_⟩
    have hdd:∀ i,d=some i->i < N:=fun i hi=>by subst hi; simpa [Nat.blt_eq] using hd.1
    refine hY us h ν nV nS _ lh _ _ hx h2 k1 k2 fun x h' ν' nV' nS' lh' g1 g2 g3=>?_
    have hp:∀ b,fp w0 ν' N (dJ e d (.kb b)) (d8 sl d (.bool b)):=fun b=>(h1.mono g1).put d hdd (by simp only [vr])
    cases x with
    | normal=>exact fM hcf hY rest _ h' none ν' nV' nS' _ lh' K KA hd.2 (hp true) (hx.step (NuN.of g1 _)) g2 g3 fun e2 h2 g2 ν2 sl2 lh2 nV2 nS2 q0=>h4 e2 h2 g2 ν2 sl2 lh2 nV2 nS2 ((NuN.of g1 _).trans q0)
    | exit i=>exact fM hcf hY rest _ h' _ ν' nV' nS' _ lh' K KA hd.2 (hp false) (hx.step (NuN.of g1 _)) g2 g3 fun e2 h2 g2 ν2 sl2 lh2 nV2 nS2 q0=>h4 e2 h2 g2 ν2 sl2 lh2 nV2 nS2 ((NuN.of g1 _).trans q0)
    | ret=>exact fM hcf hY rest _ h' _ ν' nV' nS' _ lh' K KA hd.2 (hp false) (hx.step (NuN.of g1 _)) g2 g3 fun e2 h2 g2 ν2 sl2 lh2 nV2 nS2 q0=>h4 e2 h2 g2 ν2 sl2 lh2 nV2 nS2 ((NuN.of g1 _).trans q0)
   ·exact h3.elim
 | .yldG d want t dst xs::rest,e,h,g,ν,nV,nS,sl,lh,K,KA,hd,h1,hx,h2,h3,h4=>by
   simp only [gw,Bool.and_eq_true] at hd
   have hdd:∀ i,dst=some i->i < N:=fun i hi=>by have:=hd.1; subst hi; simpa [Nat.blt_eq] using this
   have next:∀ (e':bp) (h':List O) (g':Option Ex) (ν':Nu) (sl':List ak) (lh':List ap) (nV' nS':Nat),ν.sub ν'->fp w0 ν' N e' sl'->HR w0 ν' nV' nS' h' lh'->bn LP (cV cf l Y rest e' h' g' K) Q->bR w0 S1 l YS rest sl' lh' g' KA :=
    fun e' h' g' ν' sl' lh' nV' nS' g1 k1 k2 k3=>fM hcf hY rest e' h' g' ν' nV' nS' sl' lh' K KA hd.2 k1 (hx.step (NuN.of g1 _)) k2 k3 fun e2 h2 g2 ν2 sl2 lh2 nV2 nS2 q0=>h4 e2 h2 g2 ν2 sl2 lh2 nV2 nS2 ((NuN.of g1 _).trans q0)
   have go:∀ {e0:bp},fp w0 ν N e0 sl->bn LP (Ho l Y t dst xs e0 h g fun e h g=>cV cf l Y rest e h g K) Q->g=none/\sl.getD t .any=iw l/\YS (xs.map (arg sl)) lh (V6 (fun sl lh g=>bR w0 S1 l YS rest sl lh g KA) sl dst) :=
    fun hs0 hs=>TD hY hdd hs0 hx h2 hs next
   have skip:∀ {e0:bp},fp w0 ν N e0 sl->bn LP (cV cf l Y rest (dJ e0 dst (.tup [])) h g K) Q->bR w0 S1 l YS rest (d8 sl dst (.tup [])) lh g KA :=
    fun hs0 hs=>next _ _ _ ν _ _ nV nS (Nu.sub_refl ν) (hs0.put dst hdd xm) h2 hs
   simp only [cV] at h3
   simp only [bR]
   have hat:=h1.at' d
   split at h3
   ·rename_i b hb
    rw [hb] at hat
    simp only [vr] at hat
    rw [hat]
    dsimp only
    split at h3
    ·rename_i he _
     subst he
     exact ⟨fun _=>by rw [cg hat (by simp)]; exact go h1 h3,fun e=>by cases b <;> cases e⟩
    ·rename_i he _
     exact ⟨fun e=>(he e).elim,fun e=>by rw [← e,cg hat (by simp)]; exact skip h1 h3⟩
   ·rename_i l1 hb
    rw [hb] at hat
    simp only [vr] at hat
    obtain ⟨az,hat,_⟩:=hat
    rw [hat]
    dsimp only
    rw [cg hat (by simp)]
    exact skip h1 h3
   ·rename_i k n hb
    rw [hb] at hat
    simp only [vr] at hat
    rw [hat]
    exact skip h1 h3
   ·rename_i b hb
    rw [hb] at hat
    simp only [vr] at hat
    rw [hat]
    dsimp only
    simp only [bn] at h3
    refine ⟨fun e1=>?_,fun e1=>?_⟩
    ·rw [← e1,cg hat (by simp)]
     exact go (h1.know (by simp only [vr]; rw [hat,e1])) (h3.1 (r4 e1))
    ·rw [← e1,cg hat (by simp)]
     exact skip (h1.know (by simp only [vr]; rw [hat,e1])) (h3.2 (vd e1))
   ·rename_i c v hb
    rw [hb] at hat
    simp only [vr] at hat
    split at h3
    ·exact h3.elim
    ·rename_i b hbv
     simp only [bn] at h3
     cases c with
     | false =>
       obtain ⟨l1,hl⟩:=hat.2 rfl
       rw [hl]
       dsimp only
       rw [cg hl (by simp)]
       exact skip h1 (h3.2 rfl)
     | true =>
       have hat:=l7 (hat.1 rfl) hbv
       rw [hat]
       dsimp only
       refine ⟨fun e1=>?_,fun e1=>?_⟩
       ·rw [← e1,cg hat (by simp)]
        exact go (h1.know (by simp only [vr]; rw [hat,e1])) (h3.1 (by rw [r4 e1]; rfl))
       ·rw [← e1,cg hat (by simp)]
        exact skip h1 (h3.2 (by rw [vd e1]; rfl))
   ·exact h3.elim
structure IUn (w0:World) (LP:d7) (Q:α->Prop) (nb N N0:Nat) (e0:bp) (sl0:List ak) (ev:bp->List O->Option Ex->(Ex->bp->List O->Option Ex->T α)->T α) (K:Ex->bp->List O->Option Ex->T α) (ν0:Nu) where
 n:Nat
 e:bp
 h:List O
 g:Option Ex
 ν:Nu
 nV:Nat
 nS:Nat
 sl:List ak
 lh:List ap
 hs:fp w0 ν N e sl
 hx:HJ w0 nb N0 e0 sl0 ν
 hh:HR w0 ν nV nS h lh
 hn:NuN nb ν0 ν
 st:bn LP (UT ev n e h g K) Q
theorem Dc (hcf:qI w0 (S lv) (cO w0 S) false cf) (hcp:tA w0 (S lv) (cO w0 S) cp) (hp0:tn N0 rd.ps=true) (hp1:eT N0 rd.asg=true) (hp2:eT N0 rd.body=true) (hYS:YS=YA w0 (S lv) rd.ps rd.asg rd.body sl0) (hY:LZ w0 (cO w0 S) Q nb N0 rd.e0 sl0 Y YS):∀ (c:gE) (bi:Nat) (e:bp) (h:List O) (g:Option Ex) (ν:Nu) (nV nS:Nat) (sl:List ak) (lh:List ap) (K:Ex->bp->List O->Option Ex->T α) (KA:IQ),
 pQ N c=true->fp w0 ν N e sl->HJ w0 nb N0 rd.e0 sl0 ν->HR w0 ν nV nS h lh->bn (cO w0 S) (lg cf cp un (lv,nb) rd Y bi c e h g K) Q ->
 (∀ x e' h' g' ν' sl' lh' nV' nS',NuN nb ν ν'->fp w0 ν' N e' sl'->HR w0 ν' nV' nS' h' lh'->bn (cO w0 S) (K x e' h' g') Q->KA x sl' lh' g')->ju w0 (S lv) rd.l YS c sl lh g KA:=by
 intro c
 induction c with
 | skip=>intro bi e h g ν nV nS sl lh K KA _ h1 _ h2 h3 h4; exact h4 .normal _ _ _ _ _ _ _ _ (NuN.refl _ _) h1 h2 h3
 | reg ops =>
   intro bi e h g ν nV nS sl lh K KA hd h1 hx h2 h3 h4
   exact fM hcf hY ops e h g ν nV nS sl lh _ _ hd h1 hx h2 h3 fun e' h' g' ν' sl' lh' nV' nS' k0 k1 k2 k3=>h4 .normal _ _ _ _ _ _ _ _ k0 k1 k2 k3
 | draw ds =>
   intro bi e h g ν nV nS sl lh K KA hd h1 hx h2 h3 h4
   exact qZ hcp hd h1 h2 h3 fun e' h' ν' sl' lh' _ _ k0 g1 g2 g3=>h4 .normal _ _ _ _ _ _ _ _ (NuN.of k0 _) g1 g2 g3
 | drawY ds xs =>
   intro bi e h g ν nV nS sl lh K KA hd h1 hx h2 h3 h4
   simp only [pQ,Bool.and_eq_true] at hd
   exact qZ hcp hd.1 h1 h2 h3 fun e1 h1' ν1 sl1 lh1 _ _ k0 g1 g2 g3=>fM hcf hY xs e1 h1' g ν1 _ _ sl1 lh1 _ _ hd.2 g1 (hx.step (NuN.of k0 _)) g2 g3 fun e' h' g' ν' sl' lh' nV' nS' j0 j1 j2 j3=>h4 .normal _ _ _ _ _ _ _ _ ((NuN.of k0 _).trans j0) j1 j2 j3
 | seq a b iha ihb =>
   intro bi e h g ν nV nS sl lh K KA hd h1 hx h2 h3 h4
   simp only [pQ,Bool.and_eq_true] at hd
   refine iha bi e h g ν nV nS sl lh _ _ hd.1 h1 hx h2 h3 fun x e' h' g' ν' sl' lh' nV' nS' g0 g1 g2 g3=>?_
   cases x with
   | normal=>exact ihb bi e' h' g' ν' nV' nS' sl' lh' K KA hd.2 g1 (hx.step g0) g2 g3 fun x e2 h2 g2 ν2 sl2 lh2 nV2 nS2 q0=>h4 x e2 h2 g2 ν2 sl2 lh2 nV2 nS2 (g0.trans q0)
   | exit i=>exact h4 _ _ _ _ _ _ _ _ _ g0 g1 g2 g3
   | ret=>exact h4 _ _ _ _ _ _ _ _ _ g0 g1 g2 g3
 | cond c a b iha ihb =>
   intro bi e h g ν nV nS sl lh K KA hd h1 hx h2 h3 h4
   simp only [pQ,Bool.and_eq_true] at hd
   simp only [lg] at h3
   have ha:=h1.arg c
   simp only [ju]
   split at h3
   ·rename_i hc
    rw [hc] at ha; simp only [vr] at ha; rw [ha]
    exact ⟨fun _=>iha bi e h g ν nV nS sl lh K KA hd.1 h1 hx h2 h3 h4,(fun he=>by cases he)⟩
   ·rename_i hc
    rw [hc] at ha; simp only [vr] at ha; rw [ha]
    exact ⟨(fun he=>by cases he),fun _=>ihb bi e h g ν nV nS sl lh K KA hd.2 h1 hx h2 h3 h4⟩
   ·rename_i t hc
    rw [hc] at ha; simp only [vr] at ha; rw [ha]
    split at h3
    ·rename_i s
     simp only [bn] at h3
     simp only [arg] at ha
     exact ⟨fun et=>iha bi _ h g ν nV nS sl lh K KA hd.1 (h1.know (by simp only [vr]; rw [ha,et])) hx h2 (h3.1 et) h4,fun et=>ihb bi _ h g ν nV nS sl lh K KA hd.2 (h1.know (by simp only [vr]; rw [ha,et])) hx h2 (h3.2 et) h4⟩
    ·simp only [bn] at h3
     exact ⟨fun et=>iha bi _ h g ν nV nS sl lh K KA hd.1 h1 hx h2 (h3.1 et) h4,fun et=>ihb bi _ h g ν nV nS sl lh K KA hd.2 h1 hx h2 (h3.2 et) h4⟩
   ·exact h3.elim
 | block id b ih =>
   intro bi e h g ν nV nS sl lh K KA hd h1 hx h2 h3 h4
   refine ih id e h g ν nV nS sl lh _ _ hd h1 hx h2 h3 fun x e' h' g' ν' sl' lh' nV' nS' g0 g1 g2 g3=>?_
   cases x with
   | normal=>exact h4 _ _ _ _ _ _ _ _ _ g0 g1 g2 g3
   | ret=>exact h4 _ _ _ _ _ _ _ _ _ g0 g1 g2 g3
   | exit i =>
     simp only [tN]
     by_cases hi:i=id
     ·subst hi; rw [if_pos rfl]; simp only [Nat.beq_refl,cond] at g3; exact h4 _ _ _ _ _ _ _ _ _ g0 g1 g2 g3
     ·rw [if_neg hi]
      have:Nat.beq i id=false:=by cases hb:Nat.beq i id with | false=>rfl | true=>exact (hi (Nat.eq_of_beq_eq_true hb)).elim
      simp only [this,cond] at g3; exact h4 _ _ _ _ _ _ _ _ _ g0 g1 g2 g3
 | loop b ih =>
   intro bi e h g ν nV nS sl lh K KA hd h1 hx h2 h3 h4
   simp only [lg] at h3
   split at h3
   ·subst hYS
    exact h3 N N0 ν nV nS sl sl0 lh KA hd hp0 hp1 hp2 h1 hx h2 h4
   ·rename_i n hn
    simp only [ju]
    refine ⟨IUn w0 (cO w0 S) Q nb N N0 rd.e0 sl0 (lg cf cp un (lv,nb) rd Y bi b) K ν,IUn.sl,IUn.lh,IUn.g,IUn.n,⟨n+1,e,h,g,ν,nV,nS,sl,lh,h1,hx,h2,NuN.refl _ _,h3⟩,rfl,rfl,rfl,fun s=>?_⟩
    have hst:=s.st
    have hsn:=s.hn
    match hm:s.n,hst with
    | 0,hst=>exact hst.elim
    | k+1,hst =>
      simp only [UT] at hst
      refine ih bi s.e s.h s.g s.ν s.nV s.nS s.sl s.lh _ _ hd s.hs s.hx s.hh hst fun x e' h' g' ν' sl' lh' nV' nS' g0 g1 g2 g3=>?_
      cases x with
      | normal=>exact ⟨⟨k,e',h',g',ν',nV',nS',sl',lh',g1,s.hx.step g0,g2,hsn.trans g0,g3⟩,rfl,rfl,rfl,Nat.lt_succ_self k⟩
      | exit i=>exact h4 _ _ _ _ _ _ _ _ _ (hsn.trans g0) g1 g2 g3
      | ret=>exact h4 _ _ _ _ _ _ _ _ _ (hsn.trans g0) g1 g2 g3
 | exit i=>intro bi e h g ν nV nS sl lh K KA _ h1 _ h2 h3 h4; exact h4 _ _ _ _ _ _ _ _ _ (NuN.refl _ _) h1 h2 h3
 | ret=>intro bi e h g ν nV nS sl lh K KA _ h1 _ h2 h3 h4; exact h4 _ _ _ _ _ _ _ _ _ (NuN.refl _ _) h1 h2 h3
 | scope b ih=>intro bi e h g ν nV nS sl lh K KA hd h1 hx h2 h3 h4; exact ih bi e h g ν nV nS sl lh K KA hd h1 hx h2 h3 h4
end it
structure SUn (w0:World) (LP:d7) (Q:α->Prop) (nb N:Nat) (ev:bp->List O->(Ex->bp->List O->T α)->T α) (K:Ex->bp->List O->T α) (ν0:Nu) where
 n:Nat
 e:bp
 h:List O
 ν:Nu
 nV:Nat
 nS:Nat
 sl:List ak
 lh:List ap
 hs:fp w0 ν N e sl
 hh:HR w0 ν nV nS h lh
 hn:NuN nb ν0 ν
 st:bn LP (evL ev n e h K) Q
theorem jk:∀ l:List ak,ku l l
 | []=>by simp [ku]
 | a::l=>by unfold ku; exact ⟨.inr rfl,jk l⟩
theorem uD:∀ {its:List gk} {it:gk},yb its=true->it ∈ its->pQ it.ntmps it.body=true
 | [],_,_,h=>by cases h
 | x::l,it,h,hm=>by
   simp only [yb,Bool.and_eq_true] at h
   rcases List.mem_cons.1 hm with rfl | hm
   ·exact h.1
   ·exact uD h.2 hm
theorem xx {lh:List ap} {ν:Nu}:∀ {us:List V} {az rest:List ak} {j i:Nat},bf w0 lh ν us az->(∀ a,a ∈ rest->True)->vr w0 lh ν (iq (Hu us j) (j+i)) ((az++rest).getD i .any)
 | [],az,rest,j,i,h,_=>by simp only [Hu,iq,vr]
 | u :: us,az,rest,j,i,h,hr=>by
   simp only [bf] at h; obtain ⟨x,xs,rfl,h1,h2⟩:=h
   simp only [Hu]; rw [ks]
   cases i with
   | zero=>rw [if_pos (by omega)]; simpa using h1
   | succ i =>
     rw [if_neg (by omega)]
     have:=xx (j:=j+1) (i:=i) (rest:=rest) h2 hr
     rw [show j+1+i=j+(i+1) by omega] at this
     simpa using this
theorem po {S1:FuncId->bE} {LP:d7} {N:Nat} (hcf:qI w0 S1 LP false cf):∀ (t:OT) (e:bp) (h:List O) (ν:Nu) (nV nS:Nat) (sl:List ak) (lh:List ap) (K:bp->List O->T α) (KA:List ak->List ap->Prop),rx N t=true ->
 fp w0 ν N e sl->HR w0 ν nV nS h lh->bn LP (AV cf t e h K) Q->(∀ e' h' ν' sl' lh',ν.sub ν'->fp w0 ν' N e' sl'->HR w0 ν' nV nS h' lh'->bn LP (K e' h') Q->KA sl' lh')->nq w0 S1 t sl lh KA
 | .done,e,h,ν,nV,nS,sl,lh,K,KA,_,h1,h2,h3,h4=>h4 _ _ _ _ _ (Nu.sub_refl ν) h1 h2 h3
 | .op o r,e,h,ν,nV,nS,sl,lh,K,KA,hd,h1,h2,h3,h4=>by
   simp only [rx,Bool.and_eq_true] at hd
   simp only [AV] at h3
   simp only [nq]
   exact jt hcf [o] e h ν sl lh _ _ hd.1 h1 h2 h3 fun e' h' ν' sl' lh' k0 k1 k2 k3=>po hcf r e' h' ν' nV nS sl' lh' K KA hd.2 k1 k2 k3 fun e2 h2 ν2 sl2 lh2 q0=>h4 e2 h2 ν2 sl2 lh2 (Nu.sub_trans k0 q0)
 | .alt a b,e,h,ν,nV,nS,sl,lh,K,KA,hd,h1,h2,h3,h4=>by
   simp only [rx,Bool.and_eq_true] at hd
   simp only [AV,bn] at h3
   exact ⟨po hcf a e h ν nV nS sl lh K KA hd.1 h1 h2 h3.1 h4,po hcf b e h ν nV nS sl lh K KA hd.2 h1 h2 h3.2 h4⟩
theorem yF {lv:Nat} (hcf:qI w0 (S lv) (cO w0 S) false cf) (hcp:tA w0 (S lv) (cO w0 S) cp) {un:kn} {N:Nat}:∀ (c:fB) (nb nbS bi:Nat) (e:bp) (h:List O) (ν:Nu) (nV nS:Nat) (sl:List ak) (lh:List ap) (K:Ex->bp->List O->T α) (KA:Ex->List ak->List ap->Prop),
 eT N c=true->fp w0 ν N e sl->HR w0 ν nV nS h lh->bn (cO w0 S) (evC cf cp un (lv,nb) bi c e h K) Q ->
 (∀ x e' h' ν' sl' lh' nV' nS',NuN nb ν ν'->fp w0 ν' N e' sl'->HR w0 ν' nV' nS' h' lh'->bn (cO w0 S) (K x e' h') Q->KA x sl' lh')->bO w0 (S lv) nbS c sl lh KA:=by
 intro c
 induction c with
 | skip=>intro nb nbS bi e h ν nV nS sl lh K KA _ h1 h2 h3 h4; exact h4 .normal _ _ _ _ _ _ _ (NuN.refl _ _) h1 h2 h3
 | reg ops =>
   intro nb nbS bi e h ν nV nS sl lh K KA hd h1 h2 h3 h4
   exact jt hcf ops e h ν sl lh _ _ hd h1 h2 h3 fun e' h' ν' sl' lh' g0 g1 g2 g3=>h4 .normal _ _ _ _ _ _ _ (NuN.of g0 _) g1 g2 g3
 | allo t =>
   intro nb nbS bi e h ν nV nS sl lh K KA hd h1 h2 h3 h4
   exact po hcf t e h ν nV nS sl lh _ _ hd h1 h2 h3 fun e' h' ν' sl' lh' g0 g1 g2 g3=>h4 .normal _ _ _ _ _ _ _ (NuN.of g0 _) g1 g2 g3
 | alloq t =>
   intro nb nbS bi e h ν nV nS sl lh K KA hd h1 h2 h3 h4
   exact po hcp.2 t e h ν nV nS sl lh _ _ hd h1 h2 h3 fun e' h' ν' sl' lh' g0 g1 g2 g3=>h4 .normal _ _ _ _ _ _ _ (NuN.of g0 _) g1 g2 g3
 | draw ds =>
   intro nb nbS bi e h ν nV nS sl lh K KA hd h1 h2 h3 h4
   exact qZ hcp hd h1 h2 h3 fun e' h' ν' sl' lh' _ _ g0 g1 g2 g3=>h4 .normal _ _ _ _ _ _ _ (NuN.of g0 _) g1 g2 g3
 | seq a b iha ihb =>
   intro nb nbS bi e h ν nV nS sl lh K KA hd h1 h2 h3 h4
   simp only [eT,Bool.and_eq_true] at hd
   refine iha nb nbS bi e h ν nV nS sl lh _ _ hd.1 h1 h2 h3 fun x e' h' ν' sl' lh' nV' nS' g0 g1 g2 g3=>?_
   cases x with
   | normal=>exact ihb nb nbS bi e' h' ν' nV' nS' sl' lh' K KA hd.2 g1 g2 g3 fun x e2 h2 ν2 sl2 lh2 nV2 nS2 q0=>h4 x e2 h2 ν2 sl2 lh2 nV2 nS2 (g0.trans q0)
   | exit i=>exact h4 _ _ _ _ _ _ _ _ g0 g1 g2 g3
   | ret=>exact h4 _ _ _ _ _ _ _ _ g0 g1 g2 g3
 | cond c a b iha ihb =>
   intro nb nbS bi e h ν nV nS sl lh K KA hd h1 h2 h3 h4
   simp only [eT,Bool.and_eq_true] at hd
   simp only [evC] at h3
   have ha:=h1.arg c
   simp only [bO]
   split at h3
   ·rename_i hc
    rw [hc] at ha; simp only [vr] at ha; rw [ha]
    exact ⟨fun _=>iha nb nbS bi e h ν nV nS sl lh K KA hd.1 h1 h2 h3 h4,(fun he=>by cases he)⟩
   ·rename_i hc
    rw [hc] at ha; simp only [vr] at ha; rw [ha]
    exact ⟨(fun he=>by cases he),fun _=>ihb nb nbS bi e h ν nV nS sl lh K KA hd.2 h1 h2 h3 h4⟩
   ·rename_i t hc
    rw [hc] at ha; simp only [vr] at ha; rw [ha]
    split at h3
    ·rename_i s
     simp only [bn] at h3
     simp only [arg] at ha
     exact ⟨fun et=>iha nb nbS bi _ h ν nV nS sl lh K KA hd.1 (h1.know (by simp only [vr]; rw [ha,et])) h2 (h3.1 et) h4,fun et=>ihb nb nbS bi _ h ν nV nS sl lh K KA hd.2 (h1.know (by simp only [vr]; rw [ha,et])) h2 (h3.2 et) h4⟩
    ·simp only [bn] at h3
     exact ⟨fun et=>iha nb nbS bi _ h ν nV nS sl lh K KA hd.1 h1 h2 (h3.1 et) h4,fun et=>ihb nb nbS bi _ h ν nV nS sl lh K KA hd.2 h1 h2 (h3.2 et) h4⟩
   ·exact h3.elim
 | block id b ih =>
   intro nb nbS bi e h ν nV nS sl lh K KA hd h1 h2 h3 h4
   refine ih nb nbS id e h ν nV nS sl lh _ _ hd h1 h2 h3 fun x e' h' ν' sl' lh' nV' nS' g0 g1 g2 g3=>?_
   cases x with
   | normal=>exact h4 _ _ _ _ _ _ _ _ g0 g1 g2 g3
   | ret=>exact h4 _ _ _ _ _ _ _ _ g0 g1 g2 g3
   | exit i =>
     simp only [tw]
     by_cases hi:i=id
     ·subst hi; rw [if_pos rfl]; simp only [Nat.beq_refl,cond] at g3; exact h4 _ _ _ _ _ _ _ _ g0 g1 g2 g3
     ·rw [if_neg hi]
      have:Nat.beq i id=false:=by cases hb:Nat.beq i id with | false=>rfl | true=>exact (hi (Nat.eq_of_beq_eq_true hb)).elim
      simp only [this,cond] at g3; exact h4 _ _ _ _ _ _ _ _ g0 g1 g2 g3
 | loop b ih =>
   intro nb nbS bi e h ν nV nS sl lh K KA hd h1 h2 h3 h4
   simp only [evC] at h3
   split at h3
   ·exact h3 N nbS ν nV nS sl lh KA hd h1 h2 h4
   ·rename_i n hn
    simp only [bO]
    refine ⟨SUn w0 (cO w0 S) Q nb N (evC cf cp un (lv,nb) bi b) K ν,SUn.sl,SUn.lh,SUn.n,⟨n+1,e,h,ν,nV,nS,sl,lh,h1,h2,NuN.refl _ _,h3⟩,.inl ⟨rfl,jk _⟩,fun s=>?_⟩
    have hst:=s.st
    have hsn:=s.hn
    match hm:s.n,hst with
    | 0,hst=>exact hst.elim
    | k+1,hst =>
      simp only [evL] at hst
      refine ih nb nbS bi s.e s.h s.ν s.nV s.nS s.sl s.lh _ _ hd s.hs s.hh hst fun x e' h' ν' sl' lh' nV' nS' g0 g1 g2 g3=>?_
      cases x with
      | normal=>exact ⟨⟨k,e',h',ν',nV',nS',sl',lh',g1,g2,hsn.trans g0,g3⟩,.inl ⟨rfl,jk _⟩,Nat.lt_succ_self k⟩
      | exit i=>exact h4 _ _ _ _ _ _ _ _ (hsn.trans g0) g1 g2 g3
      | ret=>exact h4 _ _ _ _ _ _ _ _ (hsn.trans g0) g1 g2 g3
 | exit i=>intro nb nbS bi e h ν nV nS sl lh K KA _ h1 h2 h3 h4; exact h4 _ _ _ _ _ _ _ _ (NuN.refl _ _) h1 h2 h3
 | ret=>intro nb nbS bi e h ν nV nS sl lh K KA _ h1 h2 h3 h4; exact h4 _ _ _ _ _ _ _ _ (NuN.refl _ _) h1 h2 h3
 | scope b ih=>intro nb nbS bi e h ν nV nS sl lh K KA hd h1 h2 h3 h4; exact ih nb nbS bi e h ν nV nS sl lh K KA hd h1 h2 h3 h4
 | range gop ps asg body its iha ihb =>
   intro nb nbS bi e h ν nV nS sl lh K KA hd h1 h2 h3 h4
   simp only [eT,Bool.and_eq_true] at hd
   simp only [evC] at h3
   have ha:=h1.arg gop
   simp only [bO]
   split at h3
   ·rename_i f ys hg
    rw [hg] at ha
    simp only [vr,bf] at ha
    obtain ⟨us,vs,hav,rfl,hys⟩:=ha
    rw [hav]
    dsimp only
    split at h3
    ·rename_i it hit
     try rw [hit]
     try dsimp only
     cases hb:Nat.ble (bD ys+1) it.ntmps with
     | false=>rw [hb] at h3; exact h3.elim
     | true =>
       rw [hb] at h3
       simp only [cond,bn] at h3
       have hle:=Nat.le_of_ble_eq_true hb
       rw [yac] at hle
       have hl:=bw hys
       intro l
       have hdom:∀ k,bD h<=k->ν k=none:=fun k hk=>h2.dom k (by rw [← yac]; exact hk)
       have hctx:HJ w0 (bD h) N e sl ν:=⟨ν,hdom,h1,Nu.sub_refl ν⟩
       have hY:LZ w0 (cO w0 S) Q (bD h) N e sl (fun vs h K=>cond (Nat.beq (bD vs) (bD ps)) (evC cf cp un (lv,bD h) bi asg (oy e ps vs) h fun x e1 h1=>match x with
        | .normal=>evC cf cp un (lv,bD h) bi body e1 h1 fun x _ h2=>K x h2
        | _=>.fail 94) (.fail 95)) (YA w0 (S lv) ps asg body sl):=by
        intro vs h ν nV nS args lh K KA hx hh hv hs hK
        dsimp only at hs
        cases hb:Nat.beq (bD vs) (bD ps) with
        | false=>rw [hb] at hs; exact hs.elim
        | true =>
          rw [hb] at hs
          simp only [cond] at hs
          have hlen:=Nat.eq_of_beq_eq_true hb
          rw [yac,yac] at hlen
          have hdom:∀ k,bD h<=k->ν k=none:=fun k hk=>hh.dom k (by rw [← yac]; exact hk)
          refine ⟨by rw [bw hv]; exact hlen,?_⟩
          refine iha (bD h) _ bi _ h ν nV nS _ lh _ _ hd.2.1 (rb ps e sl vs args hd.1 hx.get hv hlen) hh hs fun x e' h' ν' sl' lh' nV' nS' g0 g1 g2 g3=>?_
          cases x with
          | normal=>exact ihb (bD h) _ bi _ h' ν' nV' nS' _ lh' _ _ hd.2.2.1 g1 g2 g3 fun x e2 h2 ν2 sl2 lh2 nV2 nS2 q0 q1 q2 q3=>hK x h2 ν2 nV2 nS2 lh2 ((g0.trans q0).sub hdom) q2 q3
          | exit i=>exact g3.elim
          | ret=>exact g3.elim
       refine Dc (rd:=⟨ps,asg,body,e,l⟩) (Y:=_) (sl0:=sl) (nb:=bD h) hcf hcp hd.1 hd.2.1 hd.2.2.1 rfl hY it.body 0 _ h none ν nV nS _ lh _ _ (uD hd.2.2.2 (mH hit).1) ⟨by simp; omega,fun i=>?_⟩ hctx h2 (h3 l) fun x e' h' g' ν' sl' lh' nV' nS' g0 g1 g2 g3=>?_
       ·rw [ks]
        cases i with
        | zero=>simp [vr]
        | succ i =>
          rw [if_neg (by omega)]
          have:=xx (j:=1) (i:=i) (rest:=List.replicate (it.ntmps - (vs.length+1)) .any) hys (fun _ _=>trivial)
          rw [show 1+i=i+1 by omega] at this
          simpa using this
       ·have hsub:=g0.sub hdom
        cases x with
        | exit i=>exact g3.elim
        | normal =>
          cases g' with
          | none=>exact h4 .normal e h' ν' sl lh' nV' nS' (NuN.of hsub _) (h1.mono hsub) g2 g3
          | some x=>exact h4 x e h' ν' sl lh' nV' nS' (NuN.of hsub _) (h1.mono hsub) g2 g3
        | ret =>
          cases g' with
          | none=>exact h4 .normal e h' ν' sl lh' nV' nS' (NuN.of hsub _) (h1.mono hsub) g2 g3
          | some x=>exact h4 x e h' ν' sl lh' nV' nS' (NuN.of hsub _) (h1.mono hsub) g2 g3
    ·exact h3.elim
   ·exact h3.elim
theorem mu {LP:d7} {ν:Nu} {nV nS N:Nat} {e:bp} {h:List O} {sl:List ak} {lh:List ap} (h1:fp w0 ν N e sl) (h2:HR w0 ν nV nS h lh):∀ (rs:List yy) (K:List V->T α) (KA:List ak->Prop),bn LP (rn e h rs K) Q ->
 (∀ us az,bf w0 ν.z ν us az->bn LP (K us) Q->KA az)->ib w0 sl lh rs KA
 | [],K,KA,hs,hK=>hK [] [] (by simp only [bf]) hs
 | .tmp t::l,K,KA,hs,hK=>by
   simp only [rn] at hs
   obtain ⟨u,g1,g2⟩:=A9 rfl (h1.at' t) hs
   exact mu h1 h2 l _ _ g2 fun us az g3 g4=>hK (u::us) _ (by simp only [bf]; exact ⟨_,_,rfl,g1,g3⟩) g4
 | .cell t n::l,K,KA,hs,hK=>by
   cases n with
   | none =>
     simp only [rn] at hs
     obtain ⟨g0,hs⟩:=sZ rfl hs
     split at hs
     ·rename_i v hv
      obtain ⟨p,x,e1,e2,e3⟩:=BW h2 (h1.at' t) hv g0
      simp only [ib,e1]
      exact ⟨x,e2,mu h1 h2 l _ _ hs fun us az g3 g4=>hK (v::us) _ (by simp only [bf]; exact ⟨_,_,rfl,e3,g3⟩) g4⟩
     ·exact hs.elim
   | some n =>
     simp only [rn] at hs
     obtain ⟨g0,hs⟩:=sZ rfl hs
     split at hs
     ·rename_i cs hv
      obtain ⟨p,x,e1,e2,e3⟩:=F7 h2 (h1.at' t) hv g0
      simp only [ib,e1]
      exact ⟨x,e2,mu h1 h2 l _ _ hs fun us az g3 g4=>hK (.agg cs::us) _ (by simp only [bf]; exact ⟨_,_,rfl,by simp only [vr]; exact ⟨_,rfl,e3⟩,g3⟩) g4⟩
     ·exact hs.elim
theorem yax {lh:List ap} {ν:Nu}:∀ {us:List V} {az:List ak},bf w0 lh ν us az->vr w0 lh ν (qW us) (oR az)
 | [],az,h=>by simp only [bf] at h; subst h; simp only [qW,oR,vr]; exact ⟨_,rfl,by simp only [bf]⟩
 | [u],az,h=>by simp only [bf] at h; obtain ⟨x,xs,rfl,h1,rfl⟩:=h; exact h1
 | u::v::us,az,h=>by
   have h':=h
   simp only [bf] at h; obtain ⟨x,xs,rfl,h1,y,ys,rfl,h2⟩:=h
   simp only [qW,oR,vr]; exact ⟨_,rfl,h'⟩
theorem HR.none (w0:World):HR w0 Nu.nil 0 0 [] []:=⟨(fun k o h=>by simp at h),(fun k k' x x' _ _ h=>by cases h),(fun _ _=>rfl),(fun k x h=>by cases h),Gb _,(fun k x _ h=>by cases h)⟩
theorem o8 {lv:Nat} (hcf:qI w0 (S lv) (cO w0 S) false cf) (hcp:tA w0 (S lv) (cO w0 S) cp) {un:kn} {sf:aI} {args:List V} {az:List ak} {h:List O} {lh:List ap} {ν:Nu} {nV nS:Nat} {K:V->List O->T α} {KA:ak->List ap->Prop} (hd:eT sf.ntmps sf.body=true)
 (ha:bf w0 ν.z ν args az) (hh:HR w0 ν nV nS h lh) (hs:bn (cO w0 S) (lI cf cp un lv sf args h K) Q)
 (hK:∀ v h' ν' a lh',ν.sub ν'->(∀ nV nS,HR w0 ν' nV nS h' lh')->vr w0 ν'.z ν' v a->bn (cO w0 S) (K v h') Q->KA a lh'):E6 w0 (S lv) sf az lh KA:=by
 unfold lI at hs
 cases hb:Nat.ble (bD args) sf.ntmps with
 | false=>rw [hb] at hs; exact hs.elim
 | true =>
   rw [hb] at hs
   simp only [cond] at hs
   have hle:=Nat.le_of_ble_eq_true hb
   rw [yac] at hle
   have hl:=bw ha
   have hdom:∀ k,bD h<=k->ν k=none:=fun k hk=>hh.dom k (by rw [← yac]; exact hk)
   unfold E6
   refine yF hcf hcp sf.body (bD h) _ 0 _ h ν nV nS _ lh _ _ hd ⟨by simp; omega,fun i=>?_⟩ hh hs fun x e' h' ν' sl' lh' nV' nS' g0 g1 g2 g3=>?_
   ·have:=xx (j:=0) (i:=i) (rest:=List.replicate (sf.ntmps - az.length) .any) ha (fun _ _=>trivial)
    rwa [Nat.zero_add] at this
   ·cases x with
    | exit i=>exact g3.elim
    | normal=>exact mu g1 g2 _ _ _ g3 fun us vs k1 k2=>hK _ _ ν' _ _ (g0.sub hdom) (fun a b=>g2.undead a b) (yax k1) k2
    | ret=>exact mu g1 g2 _ _ _ g3 fun us vs k1 k2=>hK _ _ ν' _ _ (g0.sub hdom) (fun a b=>g2.undead a b) (yax k1) k2
def jn (w0:World) (nb:Nat) (e:bp) (h:List O) (e1:bp) (h1:List O):Prop :=
 ∀ (N:Nat) (ν:Nu) (nV nS:Nat) (sl:List ak) (lh:List ap),fp w0 ν N e sl->HR w0 ν nV nS h lh->∃ ν1 nV1 nS1,NuN nb ν ν1/\fp w0 ν1 N e1 sl/\HR w0 ν1 nV1 nS1 h1 lh
structure LSt (w0:World) (nb N:Nat) (I:Type) (inv:I->bp × List O) (ν0:Nu) where
 i:I
 ν:Nu
 nV:Nat
 nS:Nat
 sl:List ak
 lh:List ap
 hs:fp w0 ν N (inv i).1 sl
 hh:HR w0 ν nV nS (inv i).2 lh
 hn:NuN nb ν0 ν
theorem UM {fr:Nat × Nat} {cf:CF (Ex × bp × List O)} {cp:CP (Ex × bp × List O)} (hcf:qI w0 (S fr.1) (cO w0 S) false cf) (hcp:tA w0 (S fr.1) (cO w0 S) cp) {un:kn} {bi:Nat} {body:fB} {e:bp} {h:List O} {Post:Ex->bp->List O->Option Ex->Prop}
 (I:Type) (inv:I->bp × List O) (μ:I->Nat) (h0:∃ i,jn w0 fr.2 e h (inv i).1 (inv i).2)
 (round:∀ i,bn (cO w0 S) (evC cf cp un fr bi body (inv i).1 (inv i).2 fun x e h=>.ret (x,e,h)) fun r=>match r.1 with
   | .normal=>∃ i',jn w0 fr.2 r.2.1 r.2.2 (inv i').1 (inv i').2/\μ i' < μ i
   | x=>Post x r.2.1 r.2.2 none):cO w0 S fr (.s body) e h none Post:=by
 intro N nbS ν nV nS sl lh QA hd h1 h2 hQ
 obtain ⟨i0,hi0⟩:=h0
 obtain ⟨ν1,nV1,nS1,g0,g1,g2⟩:=hi0 N ν nV nS sl lh h1 h2
 simp only [bO]
 refine ⟨LSt w0 fr.2 N I inv ν,fun s=>s.sl,fun s=>s.lh,fun s=>μ s.i,⟨i0,ν1,nV1,nS1,sl,lh,g1,g2,g0⟩,.inl ⟨rfl,jk _⟩,fun s=>?_⟩
 refine yF hcf hcp body fr.2 nbS bi _ _ s.ν s.nV s.nS s.sl s.lh _ _ hd s.hs s.hh (round s.i) fun x e' h' ν' sl' lh' nV' nS' k0 k1 k2 k3=>?_
 simp only [bn] at k3
 cases x with
 | normal =>
   obtain ⟨i',k4,k5⟩:=k3
   obtain ⟨ν2,nV2,nS2,k8,k6,k7⟩:=k4 N ν' nV' nS' sl' lh' k1 k2
   exact ⟨⟨i',ν2,nV2,nS2,sl',lh',k6,k7,(s.hn.trans k0).trans k8⟩,.inl ⟨rfl,jk _⟩,k5⟩
 | exit i=>exact hQ _ _ _ _ _ _ _ _ (s.hn.trans k0) k1 k2 k3
 | ret=>exact hQ _ _ _ _ _ _ _ _ (s.hn.trans k0) k1 k2 k3
structure anX (w0:World) (nb N:Nat) (I:Type) (inv:I->bp × List O × Option Ex) (ν0:Nu) where
 i:I
 ν:Nu
 nV:Nat
 nS:Nat
 sl:List ak
 lh:List ap
 hs:fp w0 ν N (inv i).1 sl
 hh:HR w0 ν nV nS (inv i).2.1 lh
 hn:NuN nb ν0 ν
def rdY (cf:CF α) (cp:CP α) (un:kn) (lv bi:Nat) (rd:RD):YV α:=fun vs h K=>cond (Nat.beq (bD vs) (bD rd.ps)) (evC cf cp un (lv,bD h) bi rd.asg (oy rd.e0 rd.ps vs) h fun x e1 h1=>match x with
 | .normal=>evC cf cp un (lv,bD h) bi rd.body e1 h1 fun x _ h2=>K x h2
 | _=>.fail 94) (.fail 95)
theorem adB {lv bi:Nat} {un:kn} {rd:RD} {nb N:Nat} {sl:List ak} (hcf:qI w0 (S lv) (cO w0 S) false cf) (hcp:tA w0 (S lv) (cO w0 S) cp) (h0:tn N rd.ps=true) (h1:eT N rd.asg=true) (h2:eT N rd.body=true) :
 LZ w0 (cO w0 S) Q nb N rd.e0 sl (rdY cf cp un lv bi rd) (YA w0 (S lv) rd.ps rd.asg rd.body sl):=by
 intro vs h ν nV nS args lh K KA hx hh hv hs hK
 unfold rdY at hs
 cases hb:Nat.beq (bD vs) (bD rd.ps) with
 | false=>rw [hb] at hs; exact hs.elim
 | true =>
   rw [hb] at hs
   simp only [cond] at hs
   have hlen:=Nat.eq_of_beq_eq_true hb
   rw [yac,yac] at hlen
   have hdom:∀ k,bD h<=k->ν k=none:=fun k hk=>hh.dom k (by rw [← yac]; exact hk)
   refine ⟨by rw [bw hv]; exact hlen,?_⟩
   refine yF hcf hcp rd.asg (bD h) _ bi _ h ν nV nS _ lh _ _ h1 (rb rd.ps rd.e0 sl vs args h0 hx.get hv hlen) hh hs fun x e' h' ν' sl' lh' nV' nS' g0 g1 g2 g3=>?_
   cases x with
   | normal=>exact yF hcf hcp rd.body (bD h) _ bi _ h' ν' nV' nS' _ lh' _ _ h2 g1 g2 g3 fun x e2 h2 ν2 sl2 lh2 nV2 nS2 q0 q1 q2 q3=>hK x h2 ν2 nV2 nS2 lh2 ((g0.trans q0).sub hdom) q2 q3
   | exit i=>exact g3.elim
   | ret=>exact g3.elim
theorem IX {fr:Nat × Nat} {cf:CF (Ex × bp × List O × Option Ex)} {cp:CP (Ex × bp × List O × Option Ex)} (hcf:qI w0 (S fr.1) (cO w0 S) false cf) (hcp:tA w0 (S fr.1) (cO w0 S) cp) {un:kn} {bi bi':Nat} {body:gE} {rd:RD} {e:bp} {h:List O} {g:Option Ex} {Post:Ex->bp->List O->Option Ex->Prop}
 (I:Type) (inv:I->bp × List O × Option Ex) (μ:I->Nat) (h0:∃ i,g=(inv i).2.2/\jn w0 fr.2 e h (inv i).1 (inv i).2.1)
 (round:∀ i,bn (cO w0 S) (lg cf cp un fr rd (rdY cf cp un fr.1 bi' rd) bi body (inv i).1 (inv i).2.1 (inv i).2.2 fun x e h g=>.ret (x,e,h,g)) fun r=>match r.1 with
   | .normal=>∃ i',r.2.2.2=(inv i').2.2/\jn w0 fr.2 r.2.1 r.2.2.1 (inv i').1 (inv i').2.1/\μ i' < μ i
   | x=>Post x r.2.1 r.2.2.1 r.2.2.2):cO w0 S fr (.i body rd) e h g Post:=by
 intro N N0 ν nV nS sl sl0 lh QA hd hp0 hp1 hp2 h1 hx h2 hQ
 obtain ⟨i0,rfl,hi0⟩:=h0
 obtain ⟨ν1,nV1,nS1,g0,g1,g2⟩:=hi0 N ν nV nS sl lh h1 h2
 simp only [ju]
 refine ⟨anX w0 fr.2 N I inv ν,fun s=>s.sl,fun s=>s.lh,fun s=>(inv s.i).2.2,fun s=>μ s.i,⟨i0,ν1,nV1,nS1,sl,lh,g1,g2,g0⟩,rfl,rfl,rfl,fun s=>?_⟩
 refine Dc (Y:=rdY cf cp un fr.1 bi' rd) (sl0:=sl0) hcf hcp hp0 hp1 hp2 rfl (adB hcf hcp hp0 hp1 hp2) body bi _ _ _ s.ν s.nV s.nS s.sl s.lh _ _ hd s.hs (hx.step s.hn) s.hh (round s.i) fun x e' h' g' ν' sl' lh' nV' nS' k0 k1 k2 k3=>?_
 simp only [bn] at k3
 cases x with
 | normal =>
   obtain ⟨i',k9,k4,k5⟩:=k3
   obtain ⟨ν2,nV2,nS2,k8,k6,k7⟩:=k4 N ν' nV' nS' sl' lh' k1 k2
   exact ⟨⟨i',ν2,nV2,nS2,sl',lh',k6,k7,(s.hn.trans k0).trans k8⟩,rfl,rfl,k9,k5⟩
 | exit i=>exact hQ _ _ _ _ _ _ _ _ _ (s.hn.trans k0) k1 k2 k3
 | ret=>exact hQ _ _ _ _ _ _ _ _ _ (s.hn.trans k0) k1 k2 k3
end
section
variable {B:cN} {m:aD} {lh:List ap} {w:World}
mutual
theorem dp (h:aW B m lh w):∀ (d:V) (x:ak) (u:Value),d.fc=true->vr B.w0 lh Nu.nil d x->vrel m x u->vr w [] Nu.nil d (bo u)
 | .int ..,x,u,_,hd,hv=>by simp only [vr] at hd; subst hd; simp only [vrel] at hv; subst hv; simp only [bo,vr]
 | .bool _,x,u,_,hd,hv=>by simp only [vr] at hd; subst hd; simp only [vrel] at hv; subst hv; simp only [bo,vr]
 | .kb _,x,u,_,hd,hv=>by simp only [vr] at hd; subst hd; simp only [vrel] at hv; subst hv; simp only [bo,vr]
 | .str _,x,u,_,hd,hv=>by simp only [vr] at hd; subst hd; simp only [vrel] at hv; subst hv; simp only [bo,vr]
 | .agg _,_,_,hc,_,_=>by cases hc
 | .tup _,_,_,hc,_,_=>by cases hc
 | .fn ..,_,_,hc,_,_=>by cases hc
 | .gd ..,_,_,hc,_,_=>by cases hc
 | .yl _,_,_,hc,_,_=>by cases hc
 | .sl n f,x,u,_,hd,hv=>by
   simp only [vr] at hd ⊢
   obtain ⟨p,c,esz,rfl,h2,h3,h4,h5⟩:=hd
   simp only [vrel] at hv
   obtain ⟨q,rfl,hq⟩:=hv
   refine ⟨q.map .g,c,esz,by cases q <;> rfl,h2,h3,by cases q <;> trivial,fun i hi=>?_⟩
   obtain ⟨p',az,rfl,g2,g3,g4⟩:=h5 i hi
   obtain ⟨a,us,hqa,k1,k2⟩:=uS (q:=q.map fun a=>a.add (i * esz)) h (by
    cases p' with
    | g a=>simp only [dl] at hq; subst hq; simp [dl,gA.add]
    | l k off=>simp only [dl] at hq; obtain ⟨b,e1,rfl⟩:=hq; simp only [dl,gA.add]; exact ⟨b,e1,by simp [Addr.add]⟩) g2
   cases q with
   | none=>cases hqa
   | some a0 =>
     simp at hqa
     subst hqa
     exact ⟨.g a0,_,rfl,k1,mG h (f i) az us g4 g3 k2,g4⟩
 | .sq n m f,x,u,_,hd,hv=>by
   simp only [vr] at hd ⊢
   obtain ⟨p,c,esz,rfl,h2,h3,h4,h5⟩:=hd
   simp only [vrel] at hv
   obtain ⟨q,rfl,hq⟩:=hv
   refine ⟨q.map .g,c,esz,by cases q <;> rfl,h2,h3,by cases q <;> trivial,fun i hi=>?_⟩
   obtain ⟨p',az,rfl,g2,g3,g4⟩:=h5 i hi
   obtain ⟨a,us,hqa,k1,k2⟩:=uS (q:=q.map fun a=>a.add (i * esz)) h (by
    cases p' with
    | g a=>simp only [dl] at hq; subst hq; simp [dl,gA.add]
    | l k off=>simp only [dl] at hq; obtain ⟨b,e1,rfl⟩:=hq; simp only [dl,gA.add]; exact ⟨b,e1,by simp [Addr.add]⟩) g2
   cases q with
   | none=>cases hqa
   | some a0 =>
     simp at hqa
     subst hqa
     exact ⟨.g a0,_,rfl,k1,mG h (f i) az us g4 g3 k2,g4⟩
 | .pd cs,x,u,_,hd,hv=>by
   simp only [vr] at hd ⊢
   obtain ⟨p,az,rfl,_,h3,h4,h5⟩:=hd
   simp only [vrel] at hv
   obtain ⟨q,rfl,hq⟩:=hv
   obtain ⟨a,us,rfl,k1,k2⟩:=uS h hq h3
   exact ⟨.g a,_,rfl,trivial,k1,mG h cs az us h5 h4 k2,h5⟩
 | .pl k off,x,u,_,hd,hv=>by simp only [vr] at hd; obtain ⟨b,c,e,h1,h2⟩:=hd; cases h1
 | .pe k i j,x,u,_,hd,hv=>by simp only [vr] at hd; obtain ⟨b,c,e,h1,h2⟩:=hd; cases h1
 | .ss k off n c,x,u,_,hd,hv=>by simp only [vr] at hd; obtain ⟨b,c,e,h1,h2⟩:=hd; cases h1
 | .gs k n,x,u,_,hd,hv=>by simp only [vr] at hd; rcases hd with ⟨h1,_⟩ | ⟨b,c,e,h1,_⟩ <;> cases h1
 | .go k off n,x,u,_,hd,hv=>by simp only [vr] at hd; rcases hd with ⟨h1,_⟩ | ⟨b,c,e,o,h1,_⟩ <;> cases h1
 | .ns,x,u,_,hd,hv=>by simp only [vr] at hd; subst hd; simp only [vrel,dl] at hv; obtain ⟨q,rfl,rfl⟩:=hv; simp only [bo,vr]
 | .np,x,u,_,hd,hv=>by simp only [vr] at hd; subst hd; simp only [vrel,dl] at hv; obtain ⟨q,rfl,rfl⟩:=hv; simp only [bo,vr]
 | .any,x,u,_,hd,hv=>by simp only [vr]
theorem mG (h:aW B m lh w):∀ (ds:List V) (xs:List ak) (us:List Value),ds.all V.fc=true->bf B.w0 lh Nu.nil ds xs->aw m xs us->bf w [] Nu.nil ds (us.map bo)
 | [],xs,us,_,hd,hv=>by simp only [bf] at hd; subst hd; simp only [aw] at hv; subst hv; simp only [bf,List.map_nil]
 | d::ds,xs,us,hc,hd,hv=>by
   simp only [List.all_cons,Bool.and_eq_true] at hc
   simp only [bf] at hd
   obtain ⟨x,xs',rfl,h2,h3⟩:=hd
   simp only [aw] at hv
   obtain ⟨u,us',rfl,h4,h5⟩:=hv
   simp only [List.map_cons,bf]
   exact ⟨_,_,rfl,dp h d x u hc.1 h2 h4,mG h ds xs' us' hc.2 h3 h5⟩
end
mutual
theorem F8 (h:aW B m lh w):∀ (d:V) (x:ak) (u:Value),vr B.w0 lh Nu.nil d x->vrel m x u->∃ x',vrel (fun _=>none) x' u/\vr w [] Nu.nil d x'
 | .agg cs,x,u,hd,hv=>by
   simp only [vr] at hd
   obtain ⟨az,rfl,h1⟩:=hd
   simp only [vrel] at hv
   obtain ⟨us,rfl,h2⟩:=hv
   obtain ⟨xs',g1,g2⟩:=jb h cs az us.toList h1 h2
   exact ⟨.agg xs',by simp only [vrel]; exact ⟨us,rfl,g1⟩,by simp only [vr]; exact ⟨_,rfl,g2⟩⟩
 | .tup cs,x,u,hd,hv=>by
   simp only [vr] at hd
   obtain ⟨az,rfl,h1⟩:=hd
   simp only [vrel] at hv
   obtain ⟨us,rfl,h2⟩:=hv
   obtain ⟨xs',g1,g2⟩:=jb h cs az us.toList h1 h2
   exact ⟨.tup xs',by simp only [vrel]; exact ⟨us,rfl,g1⟩,by simp only [vr]; exact ⟨_,rfl,g2⟩⟩
 | .fn f xs ys,x,u,hd,hv=>by
   simp only [vr] at hd
   obtain ⟨us,vs,rfl,h1,h2⟩:=hd
   simp only [vrel] at hv
   obtain ⟨us',vs',rfl,h3,h4⟩:=hv
   obtain ⟨az,g1,g2⟩:=jb h xs us us'.toList h1 h3
   obtain ⟨bs,g3,g4⟩:=jb h ys vs vs'.toList h2 h4
   exact ⟨.fn (.func f) az bs,by simp only [vrel]; exact ⟨us',vs',rfl,g1,g3⟩,by simp only [vr]; exact ⟨az,bs,rfl,g2,g4⟩⟩
 | .gd b v,x,u,hd,hv=>by
   simp only [vr] at hd
   cases b with
   | true=>obtain ⟨x',g1,g2⟩:=F8 h v x u (hd.1 rfl) hv; exact ⟨x',g1,by simp only [vr]; exact ⟨fun _=>g2,fun e=>by cases e⟩⟩
   | false =>
     obtain ⟨l,rfl⟩:=hd.2 rfl
     simp only [vrel] at hv
     obtain ⟨vs,rfl,_⟩:=hv
     exact ⟨.tup (vs.toList.map bo),by simp only [vrel]; exact ⟨vs,rfl,bJ _ _⟩,by simp only [vr]; exact ⟨(fun e=>by cases e),fun _=>⟨_,rfl⟩⟩⟩
 | .int k n,x,u,hd,hv=>⟨bo u,bP _ u,dp h (.int k n) x u rfl hd hv⟩
 | .bool b,x,u,hd,hv=>⟨bo u,bP _ u,dp h (.bool b) x u rfl hd hv⟩
 | .kb b,x,u,hd,hv=>⟨bo u,bP _ u,dp h (.kb b) x u rfl hd hv⟩
 | .str b,x,u,hd,hv=>⟨bo u,bP _ u,dp h (.str b) x u rfl hd hv⟩
 | .sl n f,x,u,hd,hv=>⟨bo u,bP _ u,dp h (.sl n f) x u rfl hd hv⟩
 | .sq n m f,x,u,hd,hv=>⟨bo u,bP _ u,dp h (.sq n m f) x u rfl hd hv⟩
 | .pd b,x,u,hd,hv=>⟨bo u,bP _ u,dp h (.pd b) x u rfl hd hv⟩
 | .pl k off,x,u,hd,hv=>⟨bo u,bP _ u,dp h (.pl k off) x u rfl hd hv⟩
 | .pe k i j,x,u,hd,hv=>⟨bo u,bP _ u,dp h (.pe k i j) x u rfl hd hv⟩
 | .ss k off n c,x,u,hd,hv=>⟨bo u,bP _ u,dp h (.ss k off n c) x u rfl hd hv⟩
 | .gs k n,x,u,hd,hv=>⟨bo u,bP _ u,dp h (.gs k n) x u rfl hd hv⟩
 | .ns,x,u,hd,hv=>⟨bo u,bP _ u,dp h .ns x u rfl hd hv⟩
 | .np,x,u,hd,hv=>⟨bo u,bP _ u,dp h .np x u rfl hd hv⟩
 | .any,x,u,hd,hv=>⟨bo u,bP _ u,dp h .any x u rfl hd hv⟩
 | .go k off n,x,u,hd,hv=>⟨bo u,bP _ u,dp h (.go k off n) x u rfl hd hv⟩
 | .yl l,x,u,hd,hv=>⟨iw l,by simp only [vr] at hd; subst hd; simp only [iw,vrel] at hv ⊢; exact hv,by simp only [vr]⟩
theorem jb (h:aW B m lh w):∀ (ds:List V) (xs:List ak) (us:List Value),bf B.w0 lh Nu.nil ds xs->aw m xs us->∃ xs',aw (fun _=>none) xs' us/\bf w [] Nu.nil ds xs'
 | [],xs,us,hd,hv=>by
   simp only [bf] at hd; subst hd
   simp only [aw] at hv; subst hv
   exact ⟨[],by simp only [aw],by simp only [bf]⟩
 | d::ds,xs,us,hd,hv=>by
   simp only [bf] at hd
   obtain ⟨x,xs',rfl,h2,h3⟩:=hd
   simp only [aw] at hv
   obtain ⟨u,us',rfl,h4,h5⟩:=hv
   obtain ⟨a,g1,g2⟩:=F8 h d x u h2 h4
   obtain ⟨az,g3,g4⟩:=jb h ds xs' us' h3 h5
   exact ⟨a::az,by simp only [aw]; exact ⟨_,_,rfl,g1,g3⟩,by simp only [bf]; exact ⟨_,_,rfl,g2,g4⟩⟩
end
end
section
variable {w0:World} {ν:Nu} {nV nS:Nat} {h:List O} {lh:List ap}
theorem Ps (v:V):(qc v).fc=true:=by
 unfold qc
 cases hv:v.fc with
 | true=>simpa using hv
 | false=>rfl
theorem MO {v:V} {a:ak} (hv:vr w0 lh Nu.nil v a):vr w0 lh Nu.nil (qc v) a:=by
 unfold qc
 cases v.fc with
 | true=>exact hv
 | false=>simp only [cond,vr]
theorem qE (g:V->V) (l:List V):(l.map fun v=>qc (g v)).all V.fc=true:=by
 rw [List.all_eq_true]; intro x hx
 rw [List.mem_map] at hx
 obtain ⟨v,_,rfl⟩:=hx
 exact Ps _
theorem r8 {lh':List ap} {ν':Nu} {g:V->V} (hg:∀ v a,vr w0 lh ν v a->vr w0 lh' ν' (g v) a):∀ {vs:List V} {az:List ak},bf w0 lh ν vs az->bf w0 lh' ν' (vs.map g) az
 | [],az,hv=>by simp only [bf] at hv ⊢; subst hv; simp only [List.map_nil,bf]
 | v::vs,az,hv=>by simp only [bf] at hv; obtain ⟨x,xs,rfl,h1,h2⟩:=hv; simp only [List.map_cons,bf]; exact ⟨_,_,rfl,hg v x h1,r8 hg h2⟩
theorem me (hh:HR w0 ν nV nS h lh):∀ (fu:Nat) (v:V) (a:ak),vr w0 ν.z ν v a->vr w0 lh Nu.nil (j7 h fu v) a
 | 0,v,a,_=>by simp only [j7,vr]
 | fu + 1, v,a,hv=>by
   have ih:∀ {vs:List V} {az:List ak},bf w0 ν.z ν vs az->bf w0 lh Nu.nil (vs.map (j7 h fu)) az:=fun hvs=>r8 (fun v a=>me hh fu v a) hvs
   have ihc:∀ {vs:List V} {az:List ak},bf w0 ν.z ν vs az->bf w0 lh Nu.nil (vs.map fun v=>qc (j7 h fu v)) az:=fun hvs=>r8 (fun v a hv=>MO (me hh fu v a hv)) hvs
   unfold j7
   split
   ·simp only [vr] at hv ⊢; exact hv
   ·simp only [vr] at hv ⊢; exact hv
   ·simp only [vr] at hv ⊢; exact hv
   ·simp only [vr] at hv ⊢; exact hv
   ·rename_i n f
    exact kA hh.zl _ _ (by simp only [vr] at hv ⊢; exact hv)
   ·rename_i n m f
    exact kA hh.zl _ _ (by simp only [vr] at hv ⊢; exact hv)
   ·rename_i cs
    exact kA hh.zl _ _ (by simp only [vr] at hv ⊢; exact hv)
   ·simp only [vr] at hv ⊢; subst hv; exact ⟨none,0,0,rfl,Nat.le_refl _,by omega,trivial,fun i hi=>by omega⟩
   ·simp only [vr] at hv ⊢; obtain ⟨az,h1,h2⟩:=hv; exact ⟨az,h1,ih h2⟩
   ·simp only [vr] at hv ⊢; obtain ⟨us,vs,h1,h2,h3⟩:=hv; exact ⟨us,vs,h1,ih h2,ih h3⟩
   ·rename_i k off
    rw [bb]
    split
    ·rename_i cs ty hk
     rw [yac]
     cases hb:Nat.ble off cs.length with
     | false=>simp only [cond,vr]
     | true =>
       have hle:=Nat.le_of_ble_eq_true hb
       simp only [cond]
       obtain ⟨b,c0,e0,az,h1,h2,h3⟩:=hh.blk k _ hk
       simp only [vr] at hv ⊢
       obtain ⟨b',c',e',g1,rfl⟩:=hv
       rw [h1] at g1
       obtain ⟨rfl,rfl,rfl⟩:b=b'/\c0=c'/\e0=e':=by simpa using g1
       have hl:=bw h3
       refine ⟨.l b off,az.drop off,rfl,by simp [Xa,h2,isCells],?_,ihc (fv _ h3),qE _ _⟩
       simp only [lds,h2,List.length_map,List.length_drop]
       rw [if_pos (by omega),List.take_of_length_le (by simp; omega)]
    ·simp only [vr]
   ·rename_i k n
    rw [bb]
    split
    ·rename_i e n' f ty hk
     cases hb:Nat.ble n n' with
     | false=>simp only [cond,vr]
     | true =>
       have hle:=Nat.le_of_ble_eq_true hb
       simp only [cond]
       have hb:=hh.blk k _ hk
       simp only [vr] at hv ⊢
       rcases hb with ⟨h1,h2⟩ | ⟨b,c,az,h1,h2,h3,h4,h5⟩
       ·rcases hv with ⟨_,g2,rfl⟩ | ⟨b,c,e,g1,_⟩
        ·subst g2; exact ⟨none,0,0,rfl,Nat.le_refl _,by omega,trivial,fun i hi=>by omega⟩
        ·rw [h1] at g1; cases g1
       ·rcases hv with ⟨g1,_⟩ | ⟨b',c',e',g1,rfl,g3⟩
        ·rw [h1] at g1; cases g1
        ·rw [h1] at g1
         obtain ⟨rfl,rfl,rfl⟩:b=b'/\c=c'/\e=e':=by simpa using g1
         refine ⟨some (.l b 0),c,e,rfl,g3,by omega,⟨az,ty,h2,Nat.zero_le _⟩,fun i hi=>?_⟩
         have hi':i * e+e<=az.length:=by
          rw [h3,← Nat.succ_mul]; exact Nat.mul_le_mul_right e (by omega)
         refine ⟨_,_,rfl,?_,ihc (h5 i (by omega)).2,qE _ _⟩
         simp only [gA.add,lds,h2,Nat.zero_add]
         rw [if_pos (by omega)]
    ·simp only [vr]
   ·rename_i k off n c
    rw [bb]
    split
    ·rename_i cs ty hk
     rw [yac]
     cases hb:(Nat.ble n 9223372036854775807 && (Nat.ble n c && Nat.ble (off+n * ((cs.length - off) / c)) cs.length)) with
     | false=>simp only [cond,vr]
     | true =>
       simp only [Bool.and_eq_true] at hb
       have b1:=Nat.le_of_ble_eq_true hb.1
       have b2:=Nat.le_of_ble_eq_true hb.2.1
       have b3:=Nat.le_of_ble_eq_true hb.2.2
       simp only [cond]
       obtain ⟨b,c0,e0,az,h1,h2,h3⟩:=hh.blk k _ hk
       simp only [vr] at hv ⊢
       obtain ⟨b',c',e',g1,rfl⟩:=hv
       rw [h1] at g1
       obtain ⟨rfl,rfl,rfl⟩:b=b'/\c0=c'/\e0=e':=by simpa using g1
       have hl:=bw h3
       refine ⟨some (.l b off),c,(cs.length - off) / c,rfl,⟨b2,b2⟩,b1,⟨az,ty,h2,by omega⟩,fun i hi=>?_⟩
       have hi':off+i * ((cs.length - off) / c)+(cs.length - off) / c<=cs.length:=by
        have:(i+1) * ((cs.length - off) / c)<=n * ((cs.length - off) / c):=Nat.mul_le_mul_right _ (by omega)
        rw [Nat.succ_mul] at this
        omega
       refine ⟨_,_,rfl,?_,gt _ (fv _ (ihc h3)),Ec _ _ (qE _ _)⟩
       simp only [gA.add,lds,h2]
       rw [if_pos (by omega)]
    ·simp only [vr]
   ·simp only [vr]
theorem Oz (hz:sS ν.z lh) {v:V} {a:ak} (hv:vr w0 ν.z ν v a):vr w0 lh Nu.nil (An v) a:=by
 unfold An
 split
 ·simp only [vr] at hv ⊢; exact hv
 ·simp only [vr] at hv ⊢; exact hv
 ·simp only [vr] at hv ⊢; exact hv
 ·simp only [vr] at hv ⊢; exact hv
 ·exact kA hz _ _ (by simp only [vr] at hv ⊢; exact hv)
 ·exact kA hz _ _ (by simp only [vr] at hv ⊢; exact hv)
 ·simp only [vr]
theorem ND (v:V):(An v).fc=true:=by cases v <;> rfl
theorem Hz (l:List V):(l.map An).all V.fc=true:=by
 rw [List.all_eq_true]; intro x hx
 rw [List.mem_map] at hx
 obtain ⟨v,_,rfl⟩:=hx
 exact ND _
def QK (l:List (Nat × Nat)):Prop:=∀ p,p ∈ l->p.1<=p.2
theorem Gc {a b:List (Nat × Nat)} (h:QK (uJ a b)):QK a/\QK b:=by
 rw [j9] at h
 exact ⟨fun p hp=>h p (List.mem_append_left _ hp),fun p hp=>h p (List.mem_append_right _ hp)⟩
theorem qV {α:Type} {LP:d7} {Q:α->Prop}:∀ {l:List (Nat × Nat)} {x:T α},bn LP (YE l x) Q->QK l/\bn LP x Q
 | [],x,h=>⟨(fun p hp=>by cases hp),h⟩
 | p::l,x,h=>by
   simp only [YE,bn] at h
   obtain ⟨h1,h2⟩:=qV h.2
   refine ⟨fun q hq=>?_,h2⟩
   rcases List.mem_cons.1 hq with rfl | hq
   ·exact Nat.le_of_ble_eq_true h.1
   ·exact h1 q hq
theorem Ag (hh:HR w0 ν nV nS h lh) {k n:Nat} {a:ak} (hm:QK (E4 h k n)) (hv:vr w0 ν.z ν (.gs k n) a):vr w0 lh Nu.nil (Er h k n) a:=by
 unfold E4 at hm
 unfold Er
 rw [bb] at hm ⊢
 split
 ·rename_i e n' f ty hk
  rw [hk] at hm
  have hle:n<=n':=hm (n,n') List.mem_cons_self
  have hb:=hh.blk k _ hk
  cases Nat.beq e 6 with
  | true=>exact me hh 11 _ a hv
  | false =>
  show vr w0 lh Nu.nil (.sl n (jm f)) a
  simp only [vr] at hv ⊢
  rcases hb with ⟨h1,h2⟩ | ⟨b,c,az,h1,h2,h3,h4,h5⟩
  ·rcases hv with ⟨_,g2,rfl⟩ | ⟨b,c,e,g1,_⟩
   ·subst g2; exact ⟨none,0,0,rfl,Nat.le_refl _,by omega,trivial,fun i hi=>by omega⟩
   ·rw [h1] at g1; cases g1
  ·rcases hv with ⟨g1,_⟩ | ⟨b',c',e',g1,rfl,g3⟩
   ·rw [h1] at g1; cases g1
   ·rw [h1] at g1
    obtain ⟨rfl,rfl,rfl⟩:b=b'/\c=c'/\e=e':=by simpa using g1
    refine ⟨some (.l b 0),c,e,rfl,g3,by omega,⟨az,ty,h2,Nat.zero_le _⟩,fun i hi=>?_⟩
    have hi':i * e+e<=az.length:=by
     rw [h3,← Nat.succ_mul]; exact Nat.mul_le_mul_right e (by omega)
    refine ⟨_,_,rfl,?_,r8 (fun v a hv=>Oz hh.zl hv) (h5 i (by omega)).2,Hz _⟩
    simp only [gA.add,lds,h2,Nat.zero_add]
    rw [if_pos (by omega)]
 ·simp only [vr]
theorem O8 (hh:HR w0 ν nV nS h lh) {v:V} {a:ak} (hb:QK (XX h v)) (hv:vr w0 ν.z ν v a):vr w0 lh Nu.nil (EB h v) a:=by
 unfold EB
 split
 ·exact Ag hh hb hv
 ·exact me hh 11 _ a hv
theorem vp (hh:HR w0 ν nV nS h lh):∀ {vs:List V} {az:List ak},QK (B5 h vs)->bf w0 ν.z ν vs az->bf w0 lh Nu.nil (vs.map (EB h)) az
 | [],az,_,hv=>by simp only [bf,List.map_nil] at hv ⊢; exact hv
 | v::vs,az,hb,hv=>by
   have hb:=Gc hb
   simp only [bf] at hv
   obtain ⟨x,xs,rfl,h1,h2⟩:=hv
   simp only [List.map_cons,bf]; exact ⟨_,_,rfl,O8 hh hb.1 h1,vp hh hb.2 h2⟩
theorem K5 (hh:HR w0 ν nV nS h lh) {v:V} {a:ak} (hb:QK (ZL h v)) (hv:vr w0 ν.z ν v a):vr w0 lh Nu.nil (nT h v) a:=by
 unfold nT
 split
 ·exact Ag hh hb hv
 ·simp only [vr] at hv ⊢
  obtain ⟨az,h1,h2⟩:=hv
  exact ⟨az,h1,vp hh hb h2⟩
 ·exact me hh 12 _ a hv
theorem ma (hh:HR w0 ν nV nS h lh):∀ {vs:List V} {az:List ak},QK (mh h vs)->bf w0 ν.z ν vs az->bf w0 lh Nu.nil (vs.map (nT h)) az
 | [],az,_,hv=>by simp only [bf,List.map_nil] at hv ⊢; exact hv
 | v::vs,az,hb,hv=>by
   have hb:=Gc hb
   simp only [bf] at hv
   obtain ⟨x,xs,rfl,h1,h2⟩:=hv
   simp only [List.map_cons,bf]; exact ⟨_,_,rfl,K5 hh hb.1 h1,ma hh hb.2 h2⟩
end
end Go.Dx
namespace Go.Sx
section
variable {P:Program} {S:FuncId->bE} {w0:World}
theorem fJ (hS:∀ f,(S f).Ok P f):∀ (ops:List gC) (sl:List ak) (lh:List ap) {K K':List ak->List ap->Prop},(∀ s l,K s l->K' s l)->yae w0 S ops sl lh K->yae w0 S ops sl lh K'
 | [],_,_,_,_,hk,h=>hk _ _ h
 | o::rest,sl,lh,K,K',hk,h=>by
   have ih:=fun sl lh=>fJ hS rest sl lh hk
   simp only [yae] at h ⊢
   split at h
   ·exact c7 hS (fun _ _=>ih _ _) h
   ·split at h
    ·exact ⟨fun e=>c7 hS (fun _ _=>ih _ _) (h.1 e),fun e=>ih _ _ (h.2 e)⟩
    ·exact ih _ _ h
    ·exact ih _ _ h
    ·exact h.elim
theorem iN (hS:∀ f,(S f).Ok P f) {Q:Prop}:∀ (ops:List gC) (sl:List ak) (lh:List ap),yae w0 S ops sl lh (fun _ _=>Q)->Q
 | [],_,_,h=>h
 | o :: rest,sl,lh,h=>by
   have ih:=fun sl lh=>iN hS (Q:=Q) rest sl lh
   simp only [yae] at h
   split at h
   ·exact ly hS (c7 hS (fun _ _=>ih _ _) h)
   ·rename_i d want _
    split at h
    ·rename_i b _
     by_cases e:b=want
     ·exact ly hS (c7 hS (fun _ _=>ih _ _) (h.1 e))
     ·exact ih _ _ (h.2 (by cases b <;> cases want <;> simp_all))
    ·exact ih _ _ h
    ·exact ih _ _ h
    ·exact h.elim
theorem rm (hS:∀ f,(S f).Ok P f) {Ws:List (List Nat)} {n0:Nat} {K K':List ak->List ap->Prop} (hk:∀ s l,K s l->K' s l):∀ (ds:List gy) (i:Nat) (sl:List ak) (lh:List ap),iA w0 S Ws n0 K ds i sl lh->iA w0 S Ws n0 K' ds i sl lh
 | [],_,_,_,h=>hk _ _ h
 | d::rest,i,sl,lh,h=>tu hS (fun s l=>rm hS hk rest (i+1) s l) h
theorem nK (hS:∀ f,(S f).Ok P f) {Ws:List (List Nat)} {n0:Nat} {Q:Prop}:∀ (ds:List gy) (i:Nat) (sl:List ak) (lh:List ap),iA w0 S Ws n0 (fun _ _=>Q) ds i sl lh->Q
 | [],_,_,_,h=>h
 | d::rest,i,sl,lh,h=>lR hS (kD hS (fun _=>nK hS rest (i+1) _ _) h)
theorem fR (hS:∀ f,(S f).Ok P f) {ds:List gy} {sl:List ak} {lh:List ap} {K K':List ak->List ap->Prop} (hk:∀ s l,K s l->K' s l) (h:kU w0 S ds sl lh K):kU w0 S ds sl lh K':=⟨h.1,rm hS hk ds 0 _ _ h.2⟩
theorem ki (hS:∀ f,(S f).Ok P f) {ds:List gy} {sl:List ak} {lh:List ap} {Q:Prop} (h:kU w0 S ds sl lh (fun _ _=>Q)):Q:=nK hS ds 0 _ _ h.2
section it
variable {l:Nat} {Y:YH}
theorem cU (hS:∀ f,(S f).Ok P f) (hY:∀ xs lh K K',(∀ x l,K x l->K' x l)->Y xs lh K->Y xs lh K'):∀ (ops:List lJ) (sl:List ak) (lh:List ap) (g:Option Ex) {K K':List ak->List ap->Option Ex->Prop},(∀ s l g,K s l g->K' s l g)->bR w0 S l Y ops sl lh g K->bR w0 S l Y ops sl lh g K'
 | [],_,_,_,_,_,hk,h=>hk _ _ _ h
 | .op o::rest,sl,lh,g,_,_,hk,h=>by
   simp only [bR] at h ⊢
   exact fJ hS _ _ _ (fun _ _=>cU hS hY rest _ _ g hk) h
 | .yld t d xs::rest,sl,lh,g,_,_,hk,h=>by
   simp only [bR] at h ⊢
   refine ⟨h.1,h.2.1,hY _ _ _ _ (fun x l hx=>?_) h.2.2⟩
   cases x <;> exact cU hS hY rest _ _ _ hk hx
 | .yldG d want t dst xs::rest,sl,lh,g,_,_,hk,h=>by
   simp only [bR] at h ⊢
   cases hx:sl.getD d .any with
   | bool b =>
     simp only [hx] at h ⊢
     refine ⟨fun e=>?_,fun e=>cU hS hY rest _ _ g hk (h.2 e)⟩
     obtain ⟨h1,h2,h3⟩:=h.1 e
     refine ⟨h1,h2,hY _ _ _ _ (fun x l hx=>?_) h3⟩
     cases x <;> exact cU hS hY rest _ _ _ hk hx
   | tup vs=>simp only [hx] at h ⊢; exact cU hS hY rest _ _ g hk h
   | int k n=>simp only [hx] at h ⊢; exact cU hS hY rest _ _ g hk h
   | _=>simp only [hx] at h
theorem cZ (hS:∀ f,(S f).Ok P f) (hY:∀ xs lh K K',(∀ x l,K x l->K' x l)->Y xs lh K->Y xs lh K') (hY':∀ xs lh (Q:Prop),Y xs lh (fun _ _=>Q)->Q) {Q:Prop}:∀ (ops:List lJ) (sl:List ak) (lh:List ap) (g:Option Ex),bR w0 S l Y ops sl lh g (fun _ _ _=>Q)->Q
 | [],_,_,_,h=>h
 | .op o::rest,sl,lh,g,h=>by
   simp only [bR] at h
   exact iN hS _ _ _ (fJ hS _ _ _ (fun _ _=>cZ hS hY hY' rest _ _ g) h)
 | .yld t d xs::rest,sl,lh,g,h=>by
   simp only [bR] at h
   refine hY' _ _ _ (hY _ _ _ _ (fun x l hx=>?_) h.2.2)
   cases x <;> exact cZ hS hY hY' rest _ _ _ hx
 | .yldG d want t dst xs::rest,sl,lh,g,h=>by
   simp only [bR] at h
   cases hx:sl.getD d .any with
   | bool b =>
     simp only [hx] at h
     by_cases e:b=want
     ·obtain ⟨h1,h2,h3⟩:=h.1 e
      refine hY' _ _ _ (hY _ _ _ _ (fun x l hx=>?_) h3)
      cases x <;> exact cZ hS hY hY' rest _ _ _ hx
     ·exact cZ hS hY hY' rest _ _ _ (h.2 (by cases b <;> cases want <;> simp_all))
   | tup vs=>simp only [hx] at h; exact cZ hS hY hY' rest _ _ _ h
   | int k n=>simp only [hx] at h; exact cZ hS hY hY' rest _ _ _ h
   | _=>simp only [hx] at h
theorem Hs (hS:∀ f,(S f).Ok P f) (hY:∀ xs lh K K',(∀ x l,K x l->K' x l)->Y xs lh K->Y xs lh K'):∀ (c:gE) (sl:List ak) (lh:List ap) (g:Option Ex) {Q Q':IQ},(∀ x s l g,Q x s l g->Q' x s l g)->ju w0 S l Y c sl lh g Q->ju w0 S l Y c sl lh g Q':=by
 intro c
 induction c with
 | reg ops=>intro sl lh g Q Q' hq h; exact cU hS hY ops sl lh g (fun _ _ _=>hq _ _ _ _) h
 | draw ds=>intro sl lh g Q Q' hq h; exact fR hS (fun _ _=>hq _ _ _ _) h
 | drawY ds xs=>intro sl lh g Q Q' hq h; exact fR hS (fun _ _ h=>cU hS hY xs _ _ g (fun _ _ _=>hq _ _ _ _) h) h
 | seq a b iha ihb =>
   intro sl lh g Q Q' hq h
   refine iha sl lh g (fun x s l g hx=>?_) h
   cases x with
   | normal=>exact ihb _ _ _ hq hx
   | exit i=>exact hq _ _ _ _ hx
   | ret=>exact hq _ _ _ _ hx
 | cond c a b iha ihb =>
   intro sl lh g Q Q' hq h
   simp only [ju] at h ⊢
   split at h
   ·exact ⟨fun e=>iha _ _ _ hq (h.1 e),fun e=>ihb _ _ _ hq (h.2 e)⟩
   ·exact h.elim
 | block id b ih =>
   intro sl lh g Q Q' hq h
   refine ih sl lh g (fun x s l g hx=>?_) h
   cases x with
   | normal=>exact hq _ _ _ _ hx
   | ret=>exact hq _ _ _ _ hx
   | exit i=>simp only [tN] at hx ⊢; split at hx <;> rename_i e <;> simp only [e,if_true,if_false] <;> exact hq _ _ _ _ hx
 | loop b ih =>
   intro sl lh g Q Q' hq h
   simp only [ju] at h ⊢
   obtain ⟨ι,shs,shl,shg,μ,i0,h1,h2,h3,hr⟩:=h
   refine ⟨ι,shs,shl,shg,μ,i0,h1,h2,h3,fun i=>ih _ _ _ (fun x s l g hx=>?_) (hr i)⟩
   cases x with
   | normal=>exact hx
   | exit i=>exact hq _ _ _ _ hx
   | ret=>exact hq _ _ _ _ hx
 | scope b ih=>intro sl lh g Q Q' hq h; exact ih sl lh g hq h
 | skip=>intro sl lh g Q Q' hq h; exact hq _ _ _ _ h
 | exit i=>intro sl lh g Q Q' hq h; exact hq _ _ _ _ h
 | ret=>intro sl lh g Q Q' hq h; exact hq _ _ _ _ h
theorem AA (hS:∀ f,(S f).Ok P f) (hY:∀ xs lh K K',(∀ x l,K x l->K' x l)->Y xs lh K->Y xs lh K') (hY':∀ xs lh (Q:Prop),Y xs lh (fun _ _=>Q)->Q) {R:Prop}:∀ (c:gE) (sl:List ak) (lh:List ap) (g:Option Ex) {Q:IQ},(∀ x s l g,Q x s l g->R)->ju w0 S l Y c sl lh g Q->R:=by
 intro c
 induction c with
 | reg ops=>intro sl lh g Q hq h; exact cZ hS hY hY' ops sl lh g (cU hS hY ops sl lh g (fun _ _ _=>hq _ _ _ _) h)
 | draw ds=>intro sl lh g Q hq h; exact ki hS (fR hS (K':=fun _ _=>R) (fun _ _=>hq _ _ _ _) h)
 | drawY ds xs=>intro sl lh g Q hq h; exact ki hS (fR hS (K':=fun _ _=>R) (fun _ _ h=>cZ hS hY hY' xs _ _ g (cU hS hY xs _ _ g (fun _ _ _=>hq _ _ _ _) h)) h)
 | seq a b iha ihb =>
   intro sl lh g Q hq h
   refine iha sl lh g (fun x s l g hx=>?_) h
   cases x with
   | normal=>exact ihb _ _ _ hq hx
   | exit i=>exact hq _ _ _ _ hx
   | ret=>exact hq _ _ _ _ hx
 | cond c a b iha ihb =>
   intro sl lh g Q hq h
   simp only [ju] at h
   split at h
   ·rename_i t _
    cases t with
    | true=>exact iha _ _ _ hq (h.1 rfl)
    | false=>exact ihb _ _ _ hq (h.2 rfl)
   ·exact h.elim
 | block id b ih =>
   intro sl lh g Q hq h
   refine ih sl lh g (fun x s l g hx=>?_) h
   cases x with
   | normal=>exact hq _ _ _ _ hx
   | ret=>exact hq _ _ _ _ hx
   | exit i=>simp only [tN] at hx; split at hx <;> exact hq _ _ _ _ hx
 | loop b ih =>
   intro sl lh g Q hq h
   simp only [ju] at h
   obtain ⟨ι,shs,shl,shg,μ,i0,h1,h2,h3,hr⟩:=h
   have key:∀ k i,μ i=k->R:=fun k=>by
    induction k using Nat.strongRecOn with
    | _ k ihk =>
      intro i hi
      refine ih _ _ _ (fun x s l g hx=>?_) (hr i)
      cases x with
      | normal=>obtain ⟨i',_,_,_,hlt⟩:=hx; exact ihk _ (by rw [← hi]; exact hlt) i' rfl
      | exit i=>exact hq _ _ _ _ hx
      | ret=>exact hq _ _ _ _ hx
   exact key _ i0 rfl
 | scope b ih=>intro sl lh g Q hq h; exact ih sl lh g hq h
 | skip=>intro sl lh g Q hq h; exact hq _ _ _ _ h
 | exit i=>intro sl lh g Q hq h; exact hq _ _ _ _ h
 | ret=>intro sl lh g Q hq h; exact hq _ _ _ _ h
end it
theorem gH (hS:∀ f,(S f).Ok P f):∀ (t:OT) (sl:List ak) (lh:List ap) {K K':List ak->List ap->Prop},(∀ s l,K s l->K' s l)->nq w0 S t sl lh K->nq w0 S t sl lh K'
 | .done,sl,lh,K,K',hk,h=>hk _ _ h
 | .op o r,sl,lh,K,K',hk,h=>fJ hS [o] sl lh (fun s l h=>gH hS r s l hk h) h
 | .alt a b,sl,lh,K,K',hk,h=>⟨gH hS a sl lh hk h.1,gH hS b sl lh hk h.2⟩
theorem jJ (hS:∀ f,(S f).Ok P f):∀ (t:OT) (sl:List ak) (lh:List ap) {R:Prop},nq w0 S t sl lh (fun _ _=>R)->R
 | .done,sl,lh,R,h=>h
 | .op o r,sl,lh,R,h=>iN hS [o] sl lh (fJ hS [o] sl lh (K':=fun _ _=>R) (fun s l h=>jJ hS r s l h) h)
 | .alt a b,sl,lh,R,h=>jJ hS a sl lh h.1
theorem vE (hS:∀ f,(S f).Ok P f):∀ (c:fB),(∀ (nb:Nat) (sl:List ak) (lh:List ap) {Q Q':Ex->List ak->List ap->Prop},(∀ x s l,Q x s l->Q' x s l)->bO w0 S nb c sl lh Q->bO w0 S nb c sl lh Q') /\
 ∀ (nb:Nat) (sl:List ak) (lh:List ap) {Q:Ex->List ak->List ap->Prop} {R:Prop},(∀ x s l,Q x s l->R)->bO w0 S nb c sl lh Q->R:=by
 intro c
 induction c with
 | reg ops=>exact ⟨fun nb sl lh Q Q' hq h=>fJ hS ops sl lh (fun _ _=>hq _ _ _) h,fun nb sl lh Q R hq h=>iN hS ops sl lh (fJ hS ops sl lh (fun _ _=>hq _ _ _) h)⟩
 | allo t=>exact ⟨fun nb sl lh Q Q' hq h=>gH hS t sl lh (fun _ _=>hq _ _ _) h,fun nb sl lh Q R hq h=>jJ hS t sl lh (gH hS t sl lh (K':=fun _ _=>R) (fun _ _=>hq _ _ _) h)⟩
 | alloq t=>exact ⟨fun nb sl lh Q Q' hq h=>gH (oJ hS) t sl lh (fun _ _=>hq _ _ _) h,fun nb sl lh Q R hq h=>jJ (oJ hS) t sl lh (gH (oJ hS) t sl lh (K':=fun _ _=>R) (fun _ _=>hq _ _ _) h)⟩
 | draw ds=>exact ⟨fun nb sl lh Q Q' hq h=>fR hS (fun _ _=>hq _ _ _) h,fun nb sl lh Q R hq h=>ki hS (fR hS (K':=fun _ _=>R) (fun _ _=>hq _ _ _) h)⟩
 | seq a b iha ihb =>
   refine ⟨fun nb sl lh Q Q' hq h=>iha.1 nb sl lh (fun x s l hx=>?_) h,fun nb sl lh Q R hq h=>iha.2 nb sl lh (fun x s l hx=>?_) h⟩
   ·cases x with
    | normal=>exact ihb.1 nb _ _ hq hx
    | exit i=>exact hq _ _ _ hx
    | ret=>exact hq _ _ _ hx
   ·cases x with
    | normal=>exact ihb.2 nb _ _ hq hx
    | exit i=>exact hq _ _ _ hx
    | ret=>exact hq _ _ _ hx
 | cond c a b iha ihb =>
   refine ⟨fun nb sl lh Q Q' hq h=>?_,fun nb sl lh Q R hq h=>?_⟩
   ·simp only [bO] at h ⊢
    split at h
    ·exact ⟨fun e=>iha.1 nb _ _ hq (h.1 e),fun e=>ihb.1 nb _ _ hq (h.2 e)⟩
    ·exact h.elim
   ·simp only [bO] at h
    split at h
    ·rename_i t _
     cases t with
     | true=>exact iha.2 nb _ _ hq (h.1 rfl)
     | false=>exact ihb.2 nb _ _ hq (h.2 rfl)
    ·exact h.elim
 | block id b ih =>
   refine ⟨fun nb sl lh Q Q' hq h=>ih.1 nb sl lh (fun x s l hx=>?_) h,fun nb sl lh Q R hq h=>ih.2 nb sl lh (fun x s l hx=>?_) h⟩
   ·cases x with
    | normal=>exact hq _ _ _ hx
    | ret=>exact hq _ _ _ hx
    | exit i=>simp only [tw] at hx ⊢; split at hx <;> rename_i e <;> simp only [e,if_true,if_false] <;> exact hq _ _ _ hx
   ·cases x with
    | normal=>exact hq _ _ _ hx
    | ret=>exact hq _ _ _ hx
    | exit i=>simp only [tw] at hx; split at hx <;> exact hq _ _ _ hx
 | loop b ih =>
   refine ⟨fun nb sl lh Q Q' hq h=>?_,fun nb sl lh Q R hq h=>?_⟩
   ·simp only [bO] at h ⊢
    obtain ⟨ι,shs,shl,μ,i0,h1,hr⟩:=h
    refine ⟨ι,shs,shl,μ,i0,h1,fun i=>ih.1 nb _ _ (fun x s l hx=>?_) (hr i)⟩
    cases x with
    | normal=>exact hx
    | exit i=>exact hq _ _ _ hx
    | ret=>exact hq _ _ _ hx
   ·simp only [bO] at h
    obtain ⟨ι,shs,shl,μ,i0,h1,hr⟩:=h
    have key:∀ k i,μ i=k->R:=fun k=>by
     induction k using Nat.strongRecOn with
     | _ k ihk =>
       intro i hi
       refine ih.2 nb _ _ (fun x s l hx=>?_) (hr i)
       cases x with
       | normal=>obtain ⟨i',_,hlt⟩:=hx; exact ihk _ (by rw [← hi]; exact hlt) i' rfl
       | exit i=>exact hq _ _ _ hx
       | ret=>exact hq _ _ _ hx
    exact key _ i0 rfl
 | scope b ih=>exact ⟨fun nb sl lh Q Q' hq h=>ih.1 nb sl lh hq h,fun nb sl lh Q R hq h=>ih.2 nb sl lh hq h⟩
 | skip=>exact ⟨fun nb sl lh Q Q' hq h=>hq _ _ _ h,fun nb sl lh Q R hq h=>hq _ _ _ h⟩
 | exit i=>exact ⟨fun nb sl lh Q Q' hq h=>hq _ _ _ h,fun nb sl lh Q R hq h=>hq _ _ _ h⟩
 | ret=>exact ⟨fun nb sl lh Q Q' hq h=>hq _ _ _ h,fun nb sl lh Q R hq h=>hq _ _ _ h⟩
 | range g ps asg body its iha ihb =>
   have hY:∀ (sl xs:List ak) (lh:List ap) (K K':Ex->List ap->Prop),(∀ x l,K x l->K' x l)->(xs.length=ps.length/\bO w0 S lh.length asg (jX sl ps xs) lh (rU (fun sl lh'=>bO w0 S lh.length body sl lh' fun x _ lh=>K x lh) fun _ _ _=>False))->(xs.length=ps.length/\bO w0 S lh.length asg (jX sl ps xs) lh (rU (fun sl lh'=>bO w0 S lh.length body sl lh' fun x _ lh=>K' x lh) fun _ _ _=>False)):=fun sl xs lh K K' hk h=>by
    refine ⟨h.1,iha.1 _ _ _ (fun x s l hx=>?_) h.2⟩
    cases x with
    | normal=>exact ihb.1 _ _ _ (fun _ _ _=>hk _ _) hx
    | exit i=>exact hx
    | ret=>exact hx
   have hY':∀ (sl xs:List ak) (lh:List ap) (Q:Prop),(xs.length=ps.length/\bO w0 S lh.length asg (jX sl ps xs) lh (rU (fun sl lh'=>bO w0 S lh.length body sl lh' fun _ _ _=>Q) fun _ _ _=>False))->Q:=fun sl xs lh Q h=>by
    refine iha.2 _ _ _ (fun x s l hx=>?_) h.2
    cases x with
    | normal=>exact ihb.2 _ _ _ (fun _ _ _ h=>h) hx
    | exit i=>exact hx.elim
    | ret=>exact hx.elim
   refine ⟨fun nb sl lh Q Q' hq h=>?_,fun nb sl lh Q R hq h=>?_⟩
   ·simp only [bO] at h ⊢
    split at h
    ·split at h
     ·exact fun l=>Hs hS (fun xs lh K K'=>hY sl xs lh K K') _ _ _ _ (fun x s l g hx=>by cases x <;> cases g <;> first | exact hx | exact hq _ _ _ hx) (h l)
     ·exact h.elim
    ·exact h.elim
   ·simp only [bO] at h
    split at h
    ·split at h
     ·exact AA hS (fun xs lh K K'=>hY sl xs lh K K') (fun xs lh Q=>hY' sl xs lh Q) _ _ _ _ (fun x s l g hx=>by cases x <;> cases g <;> first | exact hx.elim | exact hq _ _ _ hx) (h 0)
     ·exact h.elim
    ·exact h.elim
theorem kQ:∀ (rs:List yy) (sl:List ak) (lh:List ap) {K K':List ak->Prop},(∀ vs,K vs->K' vs)->ib w0 sl lh rs K->ib w0 sl lh rs K'
 | [],_,_,_,_,hk,h=>hk _ h
 | .tmp t::l,sl,lh,_,_,hk,h=>kQ l sl lh (fun _=>hk _) h
 | .cell t n::l,sl,lh,_,_,hk,h=>by
   simp only [ib] at h ⊢
   split at h
   ·split at h
    ·obtain ⟨v,h1,h2⟩:=h; exact ⟨v,h1,kQ l sl lh (fun _=>hk _) h2⟩
    ·obtain ⟨v,h1,h2⟩:=h; exact ⟨v,h1,kQ l sl lh (fun _=>hk _) h2⟩
   ·exact h.elim
theorem iL {R:Prop}:∀ (rs:List yy) (sl:List ak) (lh:List ap),ib w0 sl lh rs (fun _=>R)->R
 | [],_,_,h=>h
 | .tmp t::l,sl,lh,h=>iL l sl lh h
 | .cell t n::l,sl,lh,h=>by
   simp only [ib] at h
   split at h
   ·split at h
    ·obtain ⟨v,h1,h2⟩:=h; exact iL l sl lh h2
    ·obtain ⟨v,h1,h2⟩:=h; exact iL l sl lh h2
   ·exact h.elim
def Ld (S:FuncId->bE) (sf:aI):bE:=fun w0 args lh K=>E6 w0 S sf args lh K
theorem VY {eqs : List TypeId} {its : List gk} {f : FuncId} {fn : Func} {sf : aI} (hS : ∀ g, (S g).Ok P g) (hE : ∀ t ∈ eqs, cB P t) (hI : j6 P eqs its) (hf : P.funcs[f]? = some fn) (hn : (fn.name == "runtime.NumGoroutine") = false) (hc : dO P eqs its fn = some sf) : (Ld S sf).Ok P f := by
 have mono:∀ w0 args lh K K',(∀ r l,K r l->K' r l)->Ld S sf w0 args lh K->Ld S sf w0 args lh K':=fun w0 args lh K K' hk h =>
  (vE hS sf.body).1 _ _ _ (fun x s l hx=>by cases x <;> first | exact hx | exact kQ _ _ _ (fun _=>hk _ _) hx) h
 refine ⟨mW hS hE hI hf hn hc fun w0 args lh K _ _ h=>?_,mono,fun w0 args lh Q h=>(vE hS sf.body).2 _ _ _ (fun x s l hx=>by cases x <;> first | exact hx.elim | exact iL _ _ _ hx) h⟩
 exact mono w0 args lh K _ (fun r l hk=>⟨r,l,.inl ⟨rfl,by unfold ku; exact ⟨.inr rfl,by simp [ku]⟩⟩,hk⟩) h
end
end Go.Sx
namespace Go.Dx
open Go.Sx
mutual
def cn:V->ak
 | .int k n=>.int k n
 | .bool b=>.bool b
 | .kb b=>.bool b
 | .str s=>.str s
 | .agg cs=>.agg (b9 cs)
 | .tup cs=>.tup (b9 cs)
 | .sl n f=>.fn (.func 0) [] ((List.range n).map fun i=>.agg (b9 (f i)))
 | _=>.any
def b9:List V->List ak
 | []=>[]
 | v::vs=>cn v::b9 vs
end
section
variable {w0:World} {lh:List ap} {ν:Nu}
theorem kK:∀ {v:V},bh (cn v)=true->∀ a,vr w0 lh ν v a ↔ a=cn v
 | .int ..,_,a=>by simp only [vr,cn]
 | .bool _,_,a=>by simp only [vr,cn]
 | .kb _,_,a=>by simp only [vr,cn]
 | .str _,_,a=>by simp only [vr,cn]
 | .agg _,h,_=>by simp [cn,bh] at h
 | .tup _,h,_=>by simp [cn,bh] at h
 | .fn ..,h,_=>by simp [cn,bh] at h
 | .sl ..,h,_=>by simp [cn,bh] at h
 | .pd ..,h,_=>by simp [cn,bh] at h
 | .pl ..,h,_=>by simp [cn,bh] at h
 | .pe ..,h,_=>by simp [cn,bh] at h
 | .ss ..,h,_=>by simp [cn,bh] at h
 | .gs ..,h,_=>by simp [cn,bh] at h
 | .ns,h,_=>by simp [cn,bh] at h
 | .np,h,_=>by simp [cn,bh] at h
 | .any,h,_=>by simp [cn,bh] at h
 | .gd ..,h,_=>by simp [cn,bh] at h
 | .yl _,h,_=>by simp [cn,bh] at h
 | .go ..,h,_=>by simp [cn,bh] at h
 | .sq ..,h,_=>by simp [cn,bh] at h
theorem dF:∀ {vs:List V},(b9 vs).all bh=true->∀ az,bf w0 lh ν vs az ↔ az=b9 vs
 | [],_,az=>by simp only [bf,b9]
 | v::vs,h,az=>by
   simp only [b9,List.all_cons,Bool.and_eq_true] at h
   simp only [bf,b9]
   constructor
   ·rintro ⟨x,xs,rfl,h1,h2⟩; rw [(kK h.1 x).1 h1,(dF h.2 xs).1 h2]
   ·rintro rfl; exact ⟨_,_,rfl,(kK h.1 _).2 rfl,(dF h.2 _).2 rfl⟩
theorem ow {v:V} (h:(match cn v with | .agg ds=>ds.all bh | a=>bh a)=true) (a:ak):vr w0 lh ν v a ↔ a=cn v:=by
 cases v with
 | agg cs =>
   simp only [cn] at h
   simp only [vr,cn]
   constructor
   ·rintro ⟨az,rfl,h1⟩; rw [(dF h az).1 h1]
   ·rintro rfl; exact ⟨_,rfl,(dF h _).2 rfl⟩
 | _=>first | exact kK (by simpa [cn] using h) a | (simp [cn,bh] at h)
theorem ls:∀ {vs:List V},((b9 vs).all fun | .agg ds=>ds.all bh | a=>bh a)=true->∀ az,bf w0 lh ν vs az ↔ az=b9 vs
 | [],_,az=>by simp only [bf,b9]
 | v::vs,h,az=>by
   simp only [b9,List.all_cons,Bool.and_eq_true] at h
   simp only [bf,b9]
   constructor
   ·rintro ⟨x,xs,rfl,h1,h2⟩; rw [(ow h.1 x).1 h1,(ls h.2 xs).1 h2]
   ·rintro rfl; exact ⟨_,_,rfl,(ow h.1 _).2 rfl,(ls h.2 _).2 rfl⟩
theorem wB {v:V} (h:plain (cn v)=true) (a:ak):vr w0 lh ν v a ↔ a=cn v:=by
 cases v with
 | tup cs =>
   simp only [cn,plain] at h
   simp only [vr,cn]
   constructor
   ·rintro ⟨az,rfl,h1⟩; rw [(ls h az).1 h1]
   ·rintro rfl; exact ⟨_,rfl,(ls h _).2 rfl⟩
 | agg cs=>exact ow (by simpa [cn,plain] using h) a
 | _=>first | exact kK (by simpa [cn,plain] using h) a | (simp [cn,plain,bh] at h)
end
theorem tK:∀ vs:List V,(b9 vs).length=vs.length
 | []=>by simp [b9]
 | v::vs=>by simp [b9,tK vs]
theorem CX {n m:Nat} {f g:Nat->List V} (h:cn (.sl n f)=cn (.sl m g)):n=m/\∀ i,i < n->b9 (f i)=b9 (g i):=by
 simp only [cn,ak.fn.injEq,true_and] at h
 have hl:=congrArg List.length h
 simp only [List.length_map,List.length_range] at hl
 subst hl
 refine ⟨rfl,fun i hi=>?_⟩
 have:=congrArg (fun l=>l[i]?) h
 simpa [hi] using this
def mw:V->Option (Nat × (Nat->List V))
 | .sl n f=>some (n,f)
 | .tup (.sl n f::_)=>some (n,f)
 | _=>none
def BN:V->List V
 | .tup (_::vs)=>vs
 | _=>[]
def Yw (v:V):V->V
 | .tup (_::vs)=>.tup (v::vs)
 | _=>v
def mB (a:ak):V->ak
 | .tup (_::vs)=>.tup (a::b9 vs)
 | _=>a
theorem lT {r:V} {n:Nat} {f:Nat->List V} (h:mw r=some (n,f)):r=.sl n f ∨ ∃ vs,r=.tup (.sl n f::vs):=by
 unfold mw at h
 split at h
 ·cases h; exact .inl rfl
 ·cases h; exact .inr ⟨_,rfl⟩
 ·cases h
def HK (e:Nat) (r:V):Prop:=∃ n f,mw r=some (n,f)/\n<=9223372036854775807/\(∀ i,i < n->kS e (f i)=true/\(b9 (f i)).all bh=true)/\(b9 (BN r)).all bh=true
def GW (e:Nat) (ty:TypeId) (nb:Nat) (lh:List ap) (n:Nat) (f:ah) (x:ak):Prop :=
 (n=0/\x=.slice none 0 0) ∨ ∃ b c az,nb<=b/\lh[b]? = some (.cells az ty)/\x=.slice (some (.l b 0)) n c/\az.length=c * e/\n<=c/\∀ i,i < n->(az.drop (i * e)).take e=b9 (f i)
theorem wC {m m':aD} {x x':ak} {r:V} {n:Nat} {f:Nat->List V} {v:Value} (hr:mw r=some (n,f)) (hs:(b9 (BN r)).all bh=true) (hx:∀ u,vrel m x u->vrel m' x' u) (h:vrel m (mB x r) v):vrel m' (mB x' r) v:=by
 rcases lT hr with rfl | ⟨vs,rfl⟩
 ·exact hx v h
 ·simp only [mB,vrel] at h ⊢
  obtain ⟨us,rfl,h2⟩:=h
  refine ⟨us,rfl,?_⟩
  simp only [aw] at h2 ⊢
  obtain ⟨u,us',e,h3,h4⟩:=h2
  exact ⟨u,us',e,hx u h3,il hs h4⟩
theorem w9 {e:Nat} {f:Nat->List V}:∀ {n:Nat},(∀ i,i < n->(b9 (f i)).length=e)->((List.range n).flatMap fun i=>b9 (f i)).length=n * e/\∀ i,i < n->(((List.range n).flatMap fun i=>b9 (f i)).drop (i * e)).take e=b9 (f i)
 | 0,_=>⟨by simp,fun i hi=>by omega⟩
 | n+1,h=>by
   obtain ⟨h1,h2⟩:=w9 (n:=n) fun i hi=>h i (by omega)
   rw [List.range_succ,List.flatMap_append]
   simp only [List.flatMap_cons,List.flatMap_nil,List.append_nil]
   have hn:=h n (by omega)
   refine ⟨by rw [List.length_append,h1,hn,Nat.succ_mul],fun i hi=>?_⟩
   by_cases e1:i=n
   ·subst e1
    rw [List.drop_append_of_le_length (by omega),List.drop_of_length_le (by omega),List.nil_append,List.take_of_length_le (by omega)]
   ·have hle:i * e+e<=n * e:=by rw [← Nat.succ_mul]; exact Nat.mul_le_mul_right e (by omega)
    rw [List.drop_append_of_le_length (by omega),List.take_append_of_le_length (by rw [List.length_drop]; omega)]
    exact h2 i (by omega)
theorem xN {α:Type} {l l':List α} {N a e:Nat} (h:l.take N=l'.take N) (ha:a+e<=N):(l.drop a).take e=(l'.drop a).take e:=by
 have key:∀ l:List α,(l.drop a).take e=((l.take N).drop a).take e:=fun l=>by
  rw [List.drop_take,List.take_take,Nat.min_eq_left (by omega)]
 rw [key l,key l',h]
theorem pS {az:List ak} {e:Nat}:∀ {n:Nat},(∀ i,i < n->((az.drop (i * e)).take e).all bh=true)->(az.take (n * e)).all bh=true
 | 0,_=>by simp
 | n+1,h=>by
   rw [Nat.succ_mul,List.take_add,List.all_append,pS fun i hi=>h i (by omega),h n (by omega)]; rfl
theorem tQ {m:aD}:∀ vs:List Value,aw m (List.replicate vs.length .any) vs
 | []=>by simp [aw]
 | v::vs=>by simp only [List.length_cons,List.replicate_succ,aw]; exact ⟨v,vs,rfl,trivial,tQ vs⟩
theorem Hn {B:cN} {m:aD} {lh:List ap} {w:World} (h:aW B m lh w) {b:Nat} {az:List ak} {vs:Array Value} {ty:TypeId} (hb:w.heap[b]? = some (.cells vs ty (0,0)))
 (hs:aw (fun k=>if k=lh.length then some b else m k) az vs.toList) (h0:B.w0.heap.size<=b) (h1:B.wf.heap.size<=b) (hn:∀ k b',m k=some b'->b' ≠ b):aW B (fun k=>if k=lh.length then some b else m k) (lh++[.cells az ty]) w/\m.le (fun k=>if k=lh.length then some b else m k):=by
 have hle:m.le (fun k=>if k=lh.length then some b else m k):=fun k x hk=>by
  have:k ≠ lh.length:=fun e=>by rw [e,h.dom _ (Nat.le_refl _)] at hk; cases hk
  simp only [if_neg this]; exact hk
 have hget:∀ k cs ty',(lh++[ap.cells az ty])[k]? = some (.cells cs ty')->(k=lh.length/\cs=az/\ty'=ty) ∨ (k < lh.length/\lh[k]? = some (.cells cs ty')):=fun k cs ty' hk=>by
  rw [List.getElem?_append] at hk
  split at hk
  ·rename_i hlt; exact .inr ⟨hlt,hk⟩
  ·rename_i hge
   have:k - lh.length=0:=by
    apply Classical.byContradiction; intro hne
    rw [List.getElem?_eq_none (by simp; omega)] at hk; cases hk
   rw [this] at hk
   simp only [List.getElem?_cons_zero,Option.some.injEq,ap.cells.injEq] at hk
   exact .inl ⟨by omega,hk.1.symm,hk.2.symm⟩
 refine ⟨⟨h.os,h.tape,h.output,h.size,h.old,h.fsize,h.kept,fun k cs ty' hk=>?_,fun k k' b' cs cs' ty1 ty2 hk hk' hm hm'=>?_,fun k hk=>?_,fun k hk=>?_,fun k b' hk=>?_⟩,hle⟩
 ·rcases hget k cs ty' hk with ⟨rfl,rfl,rfl⟩ | ⟨hlt,hk⟩
  ·exact ⟨b,vs,by simp,hs,hb,h0,.inl h1⟩
  ·obtain ⟨b',vs',g1,g2,g3,g4,g5⟩:=h.loc k cs ty' hk
   exact ⟨b',vs',hle _ _ g1,b6 hle _ _ g2,g3,g4,g5⟩
 ·rcases hget k cs ty1 hk with ⟨e1,_,_⟩ | ⟨l1,g1⟩ <;> rcases hget k' cs' ty2 hk' with ⟨e2,_,_⟩ | ⟨l2,g2⟩
  ·omega
  ·simp only [e1,if_true] at hm; simp only [if_neg (Nat.ne_of_lt l2)] at hm'; cases hm; exact (hn _ _ hm' rfl).elim
  ·simp only [e2,if_true] at hm'; simp only [if_neg (Nat.ne_of_lt l1)] at hm; cases hm'; exact (hn _ _ hm rfl).elim
  ·simp only [if_neg (Nat.ne_of_lt l1)] at hm; simp only [if_neg (Nat.ne_of_lt l2)] at hm'; exact h.inj k k' b' cs cs' ty1 ty2 g1 g2 hm hm'
 ·simp only [List.length_append,List.length_cons,List.length_nil] at hk
  simp only [if_neg (show k ≠ lh.length by omega)]; exact h.dom k (by omega)
 ·rw [List.getElem?_append] at hk
  split at hk
  ·rename_i hlt; simp only [if_neg (Nat.ne_of_lt hlt)]; exact h.dead k hk
  ·rename_i hge
   have:k - lh.length=0:=by
    apply Classical.byContradiction; intro hne
    rw [List.getElem?_eq_none (by simp; omega)] at hk; cases hk
   rw [this] at hk; simp at hk
 ·by_cases e1:k=lh.length
  ·simp only [e1,if_true,Option.some.injEq] at hk; subst hk; exact (Array.getElem?_eq_some_iff.1 hb).1
  ·simp only [if_neg e1] at hk; exact h.rng k b' hk
abbrev aB:=List V->Option ((List V × List V) × Prop × V)
def okN (r:V):Prop:=∀ (w0:World) (lh:List ap),∃ x new,vr w0 (List.replicate lh.length .dead++new) Nu.nil r x
inductive Ent where
 | con (C:aB)
 | conL (e:Nat) (ty:TypeId) (C:aB) (h:∀ ds d p r,C ds=some (d,p,r)->d.1=d.2->p->HK e r)
 | conN (C:aB) (h:∀ ds d p r,C ds=some (d,p,r)->d.1=d.2->p->okN r)
 | conZ (C:aB) (h:∀ ds d p r,C ds=some (d,p,r)->d.1=d.2->p->∀ w0 lh args,bf w0 lh Nu.nil ds args->∃ x new,vr w0 (lh++new) Nu.nil r x)
 | inl (sf:aI) (un:kn)
abbrev bd:=List (FuncId × Ent)
def ig:bd->FuncId->Option Ent
 | [],_=>none
 | (k,c)::l,f=>cond (Nat.beq f k) (some c) (ig l f)
def vP (C:aB):bE:=fun w0 args lh K=>∃ ds d p r,bf w0 lh Nu.nil ds args/\C ds=some (d,p,r)/\(d.1=d.2/\p)/\plain (cn r)=true/\K (cn r) lh
def vL (e:Nat) (ty:TypeId) (C:aB):bE:=fun w0 args lh K=>∃ ds d p r n f,bf w0 lh Nu.nil ds args/\C ds=some (d,p,r)/\(d.1=d.2/\p)/\mw r=some (n,f)/\HK e r/\∀ x new,GW e ty lh.length (lh++new) n f x->K (mB x r) (lh++new)
def vN (C:aB):bE:=fun w0 args lh K=>∃ ds d p r,bf w0 lh Nu.nil ds args/\C ds=some (d,p,r)/\(d.1=d.2/\p)/\okN r/\∀ x new,vr w0 (List.replicate lh.length .dead++new) Nu.nil r x->K x (lh++new)
def vZ (C:aB):bE:=fun w0 args lh K=>∃ ds d p r X,bf w0 (hide X lh) Nu.nil ds args/\(∀ k,k ∉ X->isCells lh[k]? = true ∨ lh.length<=k)/\C ds=some (d,p,r)/\(d.1=d.2/\p)/\(∃ x new,vr w0 (hide X lh++new) Nu.nil r x)/\∀ x new,vr w0 (hide X lh++new) Nu.nil r x->K x (lh++new)
def SV (ct:bd):zS
 | 0,f=>match ig ct f with
   | some (.con C)=>vP C
   | some (.conL e ty C _)=>vL e ty C
   | some (.conN C _)=>vN C
   | some (.conZ C _)=>vZ C
   | _=>aaK
 | n+1,f=>match ig ct f with
   | some (.con C)=>vP C
   | some (.conL e ty C _)=>vL e ty C
   | some (.conN C _)=>vN C
   | some (.conZ C _)=>vZ C
   | some (.inl sf _)=>Ld (SV ct n) sf
   | none=>aaK
section
variable {α:Type}
def zp (C:aB) (vs:List V) (h:List O) (K:V->T α):T α:=match C (vs.map (nT h)) with
 | none=>.fail 81
 | some (d,p,r)=>.obq d.1 d.2 (.obp p (.ob (plain (cn r)) (YE (mh h vs) (K r))))
def w8 (e:Nat) (ty:TypeId) (C:aB) (vs:List V) (h:List O) (K:V->List O->T α):T α:=match C (vs.map (nT h)) with
 | none=>.fail 81
 | some (d,p,r)=>match mw r with
   | none=>.fail 85
   | some (n,f)=>.obq d.1 d.2 (.obp p (YE (mh h vs) (K (Yw (.gs (bD h) n) r) (yZ h (.gl e n f ty)))))
def tH (C:aB) (vs:List V) (h:List O) (K:V->T α):T α:=match C (vs.map (nT h)) with
 | none=>.fail 86
 | some (d,p,r)=>.obq d.1 d.2 (.obp p (YE (mh h vs) (K r)))
mutual
def lD:V->Bool
 | .int .. | .bool _ | .kb _ | .str _ | .sl .. | .sq .. | .pd _ | .ns | .np | .any=>true
 | .agg cs | .tup cs=>tZ cs
 | _=>false
def tZ:List V->Bool
 | []=>true
 | v::vs=>lD v && tZ vs
end
def ud (C:aB) (vs:List V) (h:List O) (K:V->T α):T α:=match C vs with
 | none=>.fail 87
 | some (d,p,r)=>.obq d.1 d.2 (.obp p (.ob (tZ vs) (K r)))
def kT (ct:bd):CP α:=fun q f vs h K=>match ig ct f with
 | some (.con C)=>zp C vs h K
 | some (.conN C _)=>cond q (tH C vs h K) (.fail 80)
 | some (.conZ C _)=>cond q (ud C vs h K) (.fail 80)
 | _=>.fail 80
def lz (ct:bd):Nat->CF α
 | 0,f,vs,h,K=>match ig ct f with
   | some (.con C)=>zp C vs h fun v=>K v h
   | some (.conL e ty C _)=>w8 e ty C vs h K
   | some (.conN C _)=>tH C vs h fun v=>K v h
   | some (.conZ C _)=>ud C vs h fun v=>K v h
   | _=>.fail 82
 | n+1,f,vs,h,K=>match ig ct f with
   | some (.con C)=>zp C vs h fun v=>K v h
   | some (.conL e ty C _)=>w8 e ty C vs h K
   | some (.conN C _)=>tH C vs h fun v=>K v h
   | some (.conZ C _)=>ud C vs h fun v=>K v h
   | some (.inl sf un)=>lI (lz ct n) (kT ct) un n sf vs h K
   | none=>.fail 83
theorem pf {w0:World} {LP:d7} {C:aB} {vs:List V} {h:List O} {K:V->T α} {Q:α->Prop} {ν:Nu} {nV nS:Nat} {args:List ak} {lh:List ap} {KA:ak->List ap->Prop} (hv:bf w0 ν.z ν vs args) (hh:HR w0 ν nV nS h lh) (hs:bn LP (zp C vs h K) Q)
 (hK:∀ v a,vr w0 ν.z ν v a->bn LP (K v) Q->KA a lh):vP C w0 args lh KA:=by
 unfold zp at hs
 split at hs
 ·exact hs.elim
 ·rename_i d p r hr
  simp only [bn] at hs
  obtain ⟨hb,hs4⟩:=qV hs.2.2.2
  exact ⟨_,d,p,r,ma hh hb hv,hr,⟨hs.1,hs.2.1⟩,hs.2.2.1,hK r (cn r) ((wB hs.2.2.1 _).2 rfl) hs4⟩
theorem wb {w0:World} {LP:d7} {e:Nat} {ty:TypeId} {C:aB} (hC:∀ ds d p r,C ds=some (d,p,r)->d.1=d.2->p->HK e r) {vs:List V} {h:List O} {K:V->List O->T α} {Q:α->Prop} {ν:Nu} {nV nS:Nat} {args:List ak} {lh:List ap} {KA:ak->List ap->Prop} (hv:bf w0 ν.z ν vs args) (hh:HR w0 ν nV nS h lh) (hs:bn LP (w8 e ty C vs h K) Q)
 (hK:∀ v h' ν' a lh',ν.sub ν'->HR w0 ν' nV nS h' lh'->vr w0 ν'.z ν' v a->bn LP (K v h') Q->KA a lh'):vL e ty C w0 args lh KA:=by
 unfold w8 at hs
 split at hs
 ·exact hs.elim
 ·rename_i d p r hr
  split at hs
  ·exact hs.elim
  ·rename_i n f hl
   simp only [bn] at hs
   obtain ⟨hb,hs4⟩:=qV hs.2.2
   have ho:=hC _ _ _ _ hr hs.1 hs.2.1
   refine ⟨_,d,p,r,n,f,ma hh hb hv,hr,⟨hs.1,hs.2.1⟩,hl,ho,fun x new hx=>?_⟩
   obtain ⟨n',f',hl',hn,hel,hrs⟩:=ho
   rw [hl] at hl'; cases hl'
   have hp:=hh.dom h.length (Nat.le_refl _)
   have key:∃ y:Option (Nat × Nat × Nat),vr w0 ν.z (sF ν h.length y) (.gs h.length n) x/\yO w0 (sF ν h.length y) nV nS (lh++new) h.length (.gl e n f ty)/\∀ z,y=some z->lh.length<=z.1/\z.1 < (lh++new).length:=by
    rcases hx with ⟨rfl,rfl⟩ | ⟨b,c,az,hb,hbl,rfl,hal,hnc,hall⟩
    ·exact ⟨none,by simp only [vr]; exact .inl ⟨d4 _ _ _,by simp⟩,.inl ⟨d4 _ _ _,rfl⟩,fun z hz=>by cases hz⟩
    ·refine ⟨some (b,c,e),by simp only [vr]; exact .inr ⟨b,c,e,d4 _ _ _,rfl,hnc⟩,.inr ⟨b,c,az,d4 _ _ _,hbl,hal,⟨hnc,hn⟩,fun i hi=>⟨(hel i hi).1,?_⟩⟩,fun z hz=>?_⟩
     ·rw [hall i hi]; exact (dF (hel i hi).2 _).2 rfl
     ·cases hz; exact ⟨hb,(List.getElem?_eq_some_iff.1 hbl).1⟩
   obtain ⟨y,k1,k2,k3⟩:=key
   have hsub:=gX (x:=y) hp
   refine hK _ _ (sF ν h.length y) _ _ hsub ?_ ?_ hs4
   ·rw [p9]
    have hcell:∀ k o,(h++[O.gl e n f ty])[k]? = some o->(k=h.length/\o=.gl e n f ty) ∨ (k < h.length/\h[k]? = some o):=fun k o hk=>by
     rw [List.getElem?_append] at hk
     split at hk
     ·rename_i hlt; exact .inr ⟨hlt,hk⟩
     ·have:k - h.length=0:=by
       apply Classical.byContradiction; intro hne
       rw [List.getElem?_eq_none (by simp; omega)] at hk; cases hk
      rw [this] at hk; simp at hk
      exact .inl ⟨by omega,hk.symm⟩
    have hlive:∀ k,aV (h++[O.gl e n f ty]) k->k=h.length ∨ aV h k:=fun k hl=>by
     rcases eh hl with ⟨cs,t,hk⟩ | ⟨_,_,_,_,hk⟩
     ·rcases hcell k _ hk with ⟨e1,_⟩ | ⟨_,g⟩
      ·exact .inl e1
      ·exact .inr (dd g)
     ·rcases hcell k _ hk with ⟨e1,_⟩ | ⟨_,g⟩
      ·exact .inl e1
      ·exact .inr (ff g)
    have hne:∀ k,aV h k->k ≠ h.length:=fun k hl e1=>by
     rcases eh hl with ⟨cs,t,hk⟩ | ⟨_,_,_,_,hk⟩ <;> (have:=(List.getElem?_eq_some_iff.1 hk).1; omega)
    refine ⟨fun k o hk=>?_,fun k k' x1 x2 h1 h2 h3 h4 h5=>?_,fun k hk=>?_,fun k x1 hk=>?_,fun j az ty hj=>?_,fun k x1 hl hk=>?_⟩
    ·rcases hcell k o hk with ⟨rfl,rfl⟩ | ⟨hlt,hk⟩
     ·exact k2
     ·by_cases hd:o=.dead
      ·subst hd
       obtain ⟨g1,g2,g3⟩:=hh.blk k _ hk
       exact ⟨by rw [d5,if_neg (Nat.ne_of_lt hlt)]; exact g1,g2,by rw [List.getElem?_append_left (List.getElem?_eq_some_iff.1 g3).1]; exact g3⟩
      ·exact cS hsub hd (fun b az ty' g1 _=>by rw [List.getElem?_append_left (List.getElem?_eq_some_iff.1 g1).1]; exact g1) (hh.blk k _ hk)
    ·rw [d5] at h3 h4
     rcases hlive k h1 with e1 | e1 <;> rcases hlive k' h2 with e2 | e2
     ·omega
     ·rw [if_pos e1] at h3; rw [if_neg (hne _ e2)] at h4; simp only [Option.some.injEq] at h3
      have:=(k3 _ h3).1; have:=hh.rng _ _ h4; omega
     ·rw [if_neg (hne _ e1)] at h3; rw [if_pos e2] at h4; simp only [Option.some.injEq] at h4
      have:=(k3 _ h4).1; have:=hh.rng _ _ h3; omega
     ·rw [if_neg (hne _ e1)] at h3; rw [if_neg (hne _ e2)] at h4
      exact hh.inj k k' x1 x2 e1 e2 h3 h4 h5
    ·simp only [List.length_append,List.length_cons,List.length_nil] at hk
     rw [d5,if_neg (by omega)]; exact hh.dom k (by omega)
    ·rw [d5] at hk
     split at hk
     ·simp only [Option.some.injEq] at hk; exact (k3 _ hk).2
     ·rw [List.length_append]; exact Nat.lt_of_lt_of_le (hh.rng k x1 hk) (by omega)
    ·have g1:=hh.zl j az ty hj
     rw [List.getElem?_append_left (List.getElem?_eq_some_iff.1 g1).1]; exact g1
    ·rw [d5] at hk
     rcases hlive k hl with e1 | e1
     ·rw [if_pos e1] at hk; simp only [Option.some.injEq] at hk
      have:=(k3 _ hk).1
      exact HU hh.zl (by rw [List.getElem?_eq_none (by omega)]; rfl)
     ·rw [if_neg (hne _ e1)] at hk; exact hh.zn k x1 e1 hk
   ·rw [yac]
    rcases lT hl with rfl | ⟨us,rfl⟩
    ·exact k1
    ·simp only [Yw,mB,vr]
     refine ⟨_,rfl,?_⟩
     simp only [bf]
     exact ⟨_,_,rfl,k1,(dF hrs _).2 rfl⟩
theorem qN {w0:World} {LP:d7} {C:aB} (hC:∀ ds d p r,C ds=some (d,p,r)->d.1=d.2->p->okN r) {vs:List V} {h:List O} {K:V->T α} {Q:α->Prop} {ν:Nu} {nV nS:Nat} {args:List ak} {lh:List ap} {KA:ak->List ap->Prop} (hv:bf w0 ν.z ν vs args) (hh:HR w0 ν nV nS h lh) (hs:bn LP (tH C vs h K) Q)
 (hK:∀ v ν' a lh',(∃ t,lh'=lh++t)->ν.sub ν'->HR w0 ν' nV nS h lh'->vr w0 ν'.z ν' v a->bn LP (K v) Q->KA a lh'):vN C w0 args lh KA:=by
 unfold tH at hs
 split at hs
 ·exact hs.elim
 ·rename_i d p r hr
  simp only [bn] at hs
  obtain ⟨hb,hs4⟩:=qV hs.2.2
  refine ⟨_,d,p,r,ma hh hb hv,hr,⟨hs.1,hs.2.1⟩,hC _ _ _ _ hr hs.1 hs.2.1,fun x new hx=>?_⟩
  have hz:∀ k,k < lh.length->((List.range lh.length).map (fun k=>(ν.z[k]?).getD ap.dead)++new)[k]? = some ((ν.z[k]?).getD .dead):=fun k hk=>by
   rw [List.getElem?_append_left (by simpa using hk)]; simp [hk]
  have hz2:∀ k,lh.length<=k->((List.range lh.length).map (fun k=>(ν.z[k]?).getD ap.dead)++new)[k]? = new[k - lh.length]? := fun k hk=>by
   rw [List.getElem?_append_right (by simpa using hk)]; simp
  have hsub:ν.sub ⟨ν.m,(List.range lh.length).map (fun k=>(ν.z[k]?).getD ap.dead)++new⟩:=⟨fun _ _ h=>h,fun k az ty hk=>by
   have g:=hh.zl k az ty hk
   have hlt:=(List.getElem?_eq_some_iff.1 g).1
   show ((List.range lh.length).map (fun k=>(ν.z[k]?).getD ap.dead)++new)[k]? = _
   rw [hz k hlt,hk]; rfl⟩
  refine hK r _ x _ ⟨new,rfl⟩ hsub ⟨fun k o hk=>?_,hh.inj,hh.dom,fun k x1 hk=>by rw [List.length_append]; exact Nat.lt_of_lt_of_le (hh.rng k x1 hk) (by omega),fun j az ty hj=>?_,fun k x1 hl hk=>?_⟩ ?_ hs4
  ·by_cases hd:o=.dead
   ·subst hd
    obtain ⟨g1,g2,g3⟩:=hh.blk k _ hk
    exact ⟨g1,g2,by rw [List.getElem?_append_left (List.getElem?_eq_some_iff.1 g3).1]; exact g3⟩
   ·exact cS hsub hd (fun b az ty' g1 _=>by rw [List.getElem?_append_left (List.getElem?_eq_some_iff.1 g1).1]; exact g1) (hh.blk k _ hk)
  ·by_cases hlt:j < lh.length
   ·rw [hz j hlt] at hj
    cases hg:ν.z[j]? with
    | none=>rw [hg] at hj; cases hj
    | some o =>
      rw [hg] at hj
      simp only [Option.getD_some,Option.some.injEq] at hj
      subst hj
      rw [List.getElem?_append_left hlt]; exact hh.zl j az ty hg
   ·rw [hz2 j (by omega)] at hj
    rw [List.getElem?_append_right (by omega)]; exact hj
  ·have hlt:=hh.rng k x1 hk
   have:=hh.zn k x1 hl hk
   show isCells ((List.range lh.length).map (fun k=>(ν.z[k]?).getD ap.dead)++new)[x1.1]? = false
   rw [hz _ hlt]
   cases hg:ν.z[x1.1]? with
   | none=>rfl
   | some o=>rw [hg] at this; exact this
  ·refine mD (fun k x h=>by cases h) r x (kA (fun k az ty hk=>?_) r x hx)
   by_cases hlt:k < lh.length
   ·rw [List.getElem?_append_left (by simpa using hlt)] at hk
    simp [hlt] at hk
   ·rw [List.getElem?_append_right (by simp; omega)] at hk
    rw [hz2 k (by omega)]
    simpa using hk
mutual
theorem Jw {w0:World} {lh:List ap} {ν:Nu}:∀ (v:V) (a:ak),lD v=true->vr w0 lh ν v a->vr w0 lh Nu.nil v a
 | .int ..,a,_,h=>by simp only [vr] at h ⊢; exact h
 | .bool _,a,_,h=>by simp only [vr] at h ⊢; exact h
 | .kb _,a,_,h=>by simp only [vr] at h ⊢; exact h
 | .str _,a,_,h=>by simp only [vr] at h ⊢; exact h
 | .sl ..,a,_,h=>by simp only [vr] at h ⊢; exact h
 | .sq ..,a,_,h=>by simp only [vr] at h ⊢; exact h
 | .pd _,a,_,h=>by simp only [vr] at h ⊢; exact h
 | .ns,a,_,h=>by simp only [vr] at h ⊢; exact h
 | .np,a,_,h=>by simp only [vr] at h ⊢; exact h
 | .any,a,_,h=>by simp only [vr]
 | .agg cs,a,hn,h=>by simp only [vr] at h ⊢; obtain ⟨az,e,h⟩:=h; exact ⟨az,e,nj cs az (by simpa only [lD] using hn) h⟩
 | .tup cs,a,hn,h=>by simp only [vr] at h ⊢; obtain ⟨az,e,h⟩:=h; exact ⟨az,e,nj cs az (by simpa only [lD] using hn) h⟩
 | .fn ..,a,hn,h=>by simp [lD] at hn
 | .pl ..,a,hn,h=>by simp [lD] at hn
 | .pe ..,a,hn,h=>by simp [lD] at hn
 | .ss ..,a,hn,h=>by simp [lD] at hn
 | .gs ..,a,hn,h=>by simp [lD] at hn
 | .gd ..,a,hn,h=>by simp [lD] at hn
 | .yl ..,a,hn,h=>by simp [lD] at hn
 | .go ..,a,hn,h=>by simp [lD] at hn
theorem nj {w0:World} {lh:List ap} {ν:Nu}:∀ (vs:List V) (az:List ak),tZ vs=true->bf w0 lh ν vs az->bf w0 lh Nu.nil vs az
 | [],az,_,h=>by simp only [bf] at h ⊢; exact h
 | v::vs,az,hn,h=>by
   simp only [tZ,Bool.and_eq_true] at hn
   simp only [bf] at h ⊢
   obtain ⟨x,xs,e,h1,h2⟩:=h
   exact ⟨x,xs,e,Jw v x hn.1 h1,nj vs xs hn.2 h2⟩
end
theorem qq {w0:World} {LP:d7} {C:aB} (hC:∀ ds d p r,C ds=some (d,p,r)->d.1=d.2->p->∀ w0 lh args,bf w0 lh Nu.nil ds args->∃ x new,vr w0 (lh++new) Nu.nil r x) {vs:List V} {h:List O} {K:V->T α} {Q:α->Prop} {ν:Nu} {nV nS:Nat} {args:List ak} {lh:List ap} {KA:ak->List ap->Prop} (hv:bf w0 ν.z ν vs args) (hh:HR w0 ν nV nS h lh) (hs:bn LP (ud C vs h K) Q)
 (hK:∀ v ν' a lh',(∃ t,lh'=lh++t)->ν.sub ν'->HR w0 ν' nV nS h lh'->vr w0 ν'.z ν' v a->bn LP (K v) Q->KA a lh'):vZ C w0 args lh KA:=by
 unfold ud at hs
 split at hs
 ·exact hs.elim
 ·rename_i d p r hr
  simp only [bn] at hs
  obtain ⟨hs1,hs2,hs3,hs4⟩:=hs
  have hX:∀ k,k ∈ ((List.range lh.length).filter fun k=>!isCells ν.z[k]?) ↔ k < lh.length/\isCells ν.z[k]? = false:=fun k=>by simp
  have hzl:sS ν.z (hide ((List.range lh.length).filter fun k=>!isCells ν.z[k]?) lh):=fun k az ty hk=>by
   rw [Go.Sx.hide_get,if_neg (fun hm=>by have:=((hX k).1 hm).2; rw [hk] at this; simp [isCells] at this)]
   exact hh.zl k az ty hk
  have ha:bf w0 (hide ((List.range lh.length).filter fun k=>!isCells ν.z[k]?) lh) Nu.nil vs args:=jl hzl vs args (nj vs args hs3 hv)
  refine ⟨vs,d,p,r,_,ha,fun k hk=>?_,hr,⟨hs1,hs2⟩,hC _ _ _ _ hr hs1 hs2 _ _ _ ha,fun x new hx=>?_⟩
  ·rcases Nat.lt_or_ge k lh.length with hlt | hge
   ·left
    cases hi:isCells ν.z[k]? with
    | false=>exact (hk ((hX k).2 ⟨hlt,hi⟩)).elim
    | true =>
      cases hz:ν.z[k]? with
      | none=>rw [hz] at hi; cases hi
      | some o =>
        rw [hz] at hi
        cases o with
        | cells az ty=>rw [hh.zl k az ty hz]; rfl
        | _=>cases hi
   ·exact .inr hge
  have hz:∀ k,k < lh.length->((List.range lh.length).map (fun k=>(ν.z[k]?).getD ap.dead)++new)[k]? = some ((ν.z[k]?).getD .dead):=fun k hk=>by
   rw [List.getElem?_append_left (by simpa using hk)]; simp [hk]
  have hz2:∀ k,lh.length<=k->((List.range lh.length).map (fun k=>(ν.z[k]?).getD ap.dead)++new)[k]? = new[k - lh.length]? := fun k hk=>by
   rw [List.getElem?_append_right (by simpa using hk)]; simp
  have hsub:ν.sub ⟨ν.m,(List.range lh.length).map (fun k=>(ν.z[k]?).getD ap.dead)++new⟩:=⟨fun _ _ h=>h,fun k az ty hk=>by
   have g:=hh.zl k az ty hk
   have hlt:=(List.getElem?_eq_some_iff.1 g).1
   show ((List.range lh.length).map (fun k=>(ν.z[k]?).getD ap.dead)++new)[k]? = _
   rw [hz k hlt,hk]; rfl⟩
  refine hK r _ x _ ⟨new,rfl⟩ hsub ⟨fun k o hk=>?_,hh.inj,hh.dom,fun k x1 hk=>by rw [List.length_append]; exact Nat.lt_of_lt_of_le (hh.rng k x1 hk) (by omega),fun j az ty hj=>?_,fun k x1 hl hk=>?_⟩ ?_ hs4
  ·by_cases hd:o=.dead
   ·subst hd
    obtain ⟨g1,g2,g3⟩:=hh.blk k _ hk
    exact ⟨g1,g2,by rw [List.getElem?_append_left (List.getElem?_eq_some_iff.1 g3).1]; exact g3⟩
   ·exact cS hsub hd (fun b az ty' g1 _=>by rw [List.getElem?_append_left (List.getElem?_eq_some_iff.1 g1).1]; exact g1) (hh.blk k _ hk)
  ·by_cases hlt:j < lh.length
   ·rw [hz j hlt] at hj
    cases hg:ν.z[j]? with
    | none=>rw [hg] at hj; cases hj
    | some o =>
      rw [hg] at hj
      simp only [Option.getD_some,Option.some.injEq] at hj
      subst hj
      rw [List.getElem?_append_left hlt]; exact hh.zl j az ty hg
   ·rw [hz2 j (by omega)] at hj
    rw [List.getElem?_append_right (by omega)]; exact hj
  ·have hlt:=hh.rng k x1 hk
   have:=hh.zn k x1 hl hk
   show isCells ((List.range lh.length).map (fun k=>(ν.z[k]?).getD ap.dead)++new)[x1.1]? = false
   rw [hz _ hlt]
   cases hg:ν.z[x1.1]? with
   | none=>rfl
   | some o=>rw [hg] at this; exact this
  ·refine mD (fun k x h=>by cases h) r x (kA (fun k az ty hk=>?_) r x hx)
   by_cases hlt:k < lh.length
   ·rw [List.getElem?_append_left (by rw [Go.Sx.hide_length]; exact hlt),Go.Sx.hide_get] at hk
    split at hk
    ·cases hg:lh[k]? <;> rw [hg] at hk <;> cases hk
    ·rename_i hm
     rw [hz k hlt]
     cases hi:isCells ν.z[k]? with
     | false=>exact (hm ((hX k).2 ⟨hlt,hi⟩)).elim
     | true =>
       cases hg:ν.z[k]? with
       | none=>rw [hg] at hi; cases hi
       | some o =>
         rw [hg] at hi
         cases o with
         | cells as' ty'=>have:=hh.zl k as' ty' hg; rw [hk] at this; cases this; rfl
         | _=>cases hi
   ·rw [List.getElem?_append_right (by rw [Go.Sx.hide_length]; omega),Go.Sx.hide_length] at hk
    rw [hz2 k (by omega)]; exact hk
theorem Ob {ct:bd} {lv:Nat} {f:FuncId} {C:aB} (hC:ig ct f=some (.con C)):SV ct lv f=vP C:=by cases lv <;> simp only [SV,hC]
theorem UK {ct:bd} {lv:Nat} {f:FuncId} {C:aB} {h} (hC:ig ct f=some (.conN C h)):SV ct lv f=vN C:=by cases lv <;> simp only [SV,hC]
theorem UH {ct:bd} {lv:Nat} {f:FuncId} {C:aB} {h} (hC:ig ct f=some (.conZ C h)):SV ct lv f=vZ C:=by cases lv <;> simp only [SV,hC]
theorem nd (w0:World) (ct:bd) (LP:d7) (lv:Nat):tA w0 (SV ct lv) LP (kT (α:=α) ct):=by
 refine ⟨?_,?_⟩
 ·intro f vs h K Q ν nV nS args lh KA hv hh hs hK
  unfold kT at hs
  split at hs
  ·rename_i C hC
   rw [Ob hC]
   exact pf hv hh hs hK
  ·exact hs.elim
  ·exact hs.elim
  ·exact hs.elim
 ·intro f vs h K Q ν nV nS args lh KA hv hh hs hK
  unfold kT at hs
  unfold u6
  dsimp only at hs
  split at hs
  ·rename_i C hC
   rw [Ob hC]
   exact pf hv hh hs fun v a h1 h2=>⟨⟨[],by simp⟩,hK v h ν a lh (fun e=>by cases e) (Nu.sub_refl ν) hh h1 h2⟩
  ·rename_i C hC' hC
   rw [UK hC]
   exact qN hC' hv hh hs fun v ν' a lh' h0 h1 h2 h3 h4=>⟨h0,hK v h ν' a lh' (fun e=>by cases e) h1 h2 h3 h4⟩
  ·rename_i C hC' hC
   rw [UH hC]
   exact qq hC' hv hh hs fun v ν' a lh' h0 h1 h2 h3 h4=>⟨h0,hK v h ν' a lh' (fun e=>by cases e) h1 h2 h3 h4⟩
  ·exact hs.elim
def ms:bd->Bool
 | []=>true
 | (_,.con _)::l=>ms l
 | (_,.conL ..)::l=>ms l
 | (_,.conN ..)::l=>ms l
 | (_,.conZ ..)::l=>ms l
 | (_,.inl sf _)::l=>eT sf.ntmps sf.body && ms l
theorem wI:∀ {ct:bd} {f:FuncId} {sf:aI} {un:kn},ms ct=true->ig ct f=some (.inl sf un)->eT sf.ntmps sf.body=true
 | [],_,_,_,_,h=>by cases h
 | (k,c)::l,f,sf,un,hd,h=>by
   simp only [ig] at h
   cases hb:Nat.beq f k with
   | true =>
     rw [hb] at h; simp only [cond] at h; cases h
     simp only [ms,Bool.and_eq_true] at hd; exact hd.1
   | false =>
     rw [hb] at h; simp only [cond] at h
     refine wI (ct:=l) ?_ h
     cases c with
     | con C=>exact hd
     | conL e ty C h=>exact hd
     | conN C h=>exact hd
     | conZ C h=>exact hd
     | inl sf' un'=>simp only [ms,Bool.and_eq_true] at hd; exact hd.2
theorem mS (w0:World) (ct:bd) (hd:ms ct=true):∀ (lv:Nat),qI w0 (SV ct lv) (cO w0 (SV ct)) false (lz (α:=α) ct lv)
 | 0=>by
   intro f vs h K Q ν nV nS args lh KA hv hh hs hK
   simp only [lz] at hs
   split at hs
   ·rename_i C hC
    have:SV ct 0 f=vP C:=by simp only [SV,hC]
    rw [this]
    exact pf hv hh hs fun v a hv hs=>hK v h ν a lh (fun e=>by cases e) (Nu.sub_refl ν) hh hv hs
   ·rename_i e ty C hC0 hC
    have:SV ct 0 f=vL e ty C:=by simp only [SV,hC]
    rw [this]
    exact wb hC0 hv hh hs fun v h' ν' a lh' g0 g1 g2 g3=>hK v h' ν' a lh' (fun e=>by cases e) g0 g1 g2 g3
   ·rename_i C hC0 hC
    have:SV ct 0 f=vN C:=by simp only [SV,hC]
    rw [this]
    exact qN hC0 hv hh hs fun v ν' a lh' _ g0 g1 g2 g3=>hK v h ν' a lh' (fun e=>by cases e) g0 g1 g2 g3
   ·rename_i C hC0 hC
    have:SV ct 0 f=vZ C:=by simp only [SV,hC]
    rw [this]
    exact qq hC0 hv hh hs fun v ν' a lh' _ g0 g1 g2 g3=>hK v h ν' a lh' (fun e=>by cases e) g0 g1 g2 g3
   ·exact hs.elim
 | n+1=>by
   intro f vs h K Q ν nV nS args lh KA hv hh hs hK
   simp only [lz] at hs
   split at hs
   ·rename_i C hC
    have:SV ct (n+1) f=vP C:=by simp only [SV,hC]
    rw [this]
    exact pf hv hh hs fun v a hv hs=>hK v h ν a lh (fun e=>by cases e) (Nu.sub_refl ν) hh hv hs
   ·rename_i e ty C hC0 hC
    have:SV ct (n+1) f=vL e ty C:=by simp only [SV,hC]
    rw [this]
    exact wb hC0 hv hh hs fun v h' ν' a lh' g0 g1 g2 g3=>hK v h' ν' a lh' (fun e=>by cases e) g0 g1 g2 g3
   ·rename_i C hC0 hC
    have:SV ct (n+1) f=vN C:=by simp only [SV,hC]
    rw [this]
    exact qN hC0 hv hh hs fun v ν' a lh' _ g0 g1 g2 g3=>hK v h ν' a lh' (fun e=>by cases e) g0 g1 g2 g3
   ·rename_i C hC0 hC
    have:SV ct (n+1) f=vZ C:=by simp only [SV,hC]
    rw [this]
    exact qq hC0 hv hh hs fun v ν' a lh' _ g0 g1 g2 g3=>hK v h ν' a lh' (fun e=>by cases e) g0 g1 g2 g3
   ·rename_i sf un hC
    have:SV ct (n+1) f=Ld (SV ct n) sf:=by simp only [SV,hC]
    rw [this]
    exact o8 (mS w0 ct hd n) (nd w0 ct _ n) (wI hd hC) hv hh hs fun v h' ν' a lh' g0 g1 g2 g3=>hK v h' ν' a lh' (fun e=>by cases e) g0 (g1 nV nS) g2 g3
   ·exact hs.elim
end
inductive aR (P:Program) (eqs:List TypeId) (its:List gk):bd->Prop
 | nil:aR P eqs its []
 | con {f:FuncId} {C:aB} {ct:bd} (h:(vP C).Ok P f) (hl:aR P eqs its ct):aR P eqs its ((f,.con C)::ct)
 | conL {f:FuncId} {e:Nat} {ty:TypeId} {C:aB} {hC:∀ ds d p r,C ds=some (d,p,r)->d.1=d.2->p->HK e r} {ct:bd} (h:(vL e ty C).Ok P f) (hl:aR P eqs its ct):aR P eqs its ((f,.conL e ty C hC)::ct)
 | conN {f:FuncId} {C:aB} {hC:∀ ds d p r,C ds=some (d,p,r)->d.1=d.2->p->okN r} {ct:bd} (h:(vN C).Ok P f) (hl:aR P eqs its ct):aR P eqs its ((f,.conN C hC)::ct)
 | conZ {f:FuncId} {C:aB} {hC:∀ ds d p r,C ds=some (d,p,r)->d.1=d.2->p->∀ w0 lh args,bf w0 lh Nu.nil ds args->∃ x new,vr w0 (lh++new) Nu.nil r x} {ct:bd} (h:(vZ C).Ok P f) (hl:aR P eqs its ct):aR P eqs its ((f,.conZ C hC)::ct)
 | inl {f : FuncId} {fn : Func} {sf : aI} {un : kn} {ct : bd} (hf : P.funcs[f]? = some fn) (hn : (fn.name == "runtime.NumGoroutine") = false) (hc : dO P eqs its fn = some sf) (hd : eT sf.ntmps sf.body = true) (hl : aR P eqs its ct) : aR P eqs its ((f, .inl sf un) :: ct)
theorem aR.look {P:Program} {eqs:List TypeId} {its:List gk} {ct:bd} (h:aR P eqs its ct):∀ {f:FuncId} {x:Ent},ig ct f=some x->match x with
 | .con C=>(vP C).Ok P f
 | .conL e ty C _=>(vL e ty C).Ok P f
 | .conN C _=>(vN C).Ok P f
 | .conZ C _=>(vZ C).Ok P f
 | .inl sf _ => ∃ fn, P.funcs[f]? = some fn /\ (fn.name == "runtime.NumGoroutine") = false /\ dO P eqs its fn = some sf := by
 induction h with
 | nil=>intro f x h; cases h
 | @con k C ct h hl ih =>
   intro f x hx
   simp only [ig] at hx
   cases hb:Nat.beq f k with
   | true=>rw [hb] at hx; simp only [cond] at hx; cases hx; have:=Nat.eq_of_beq_eq_true hb; subst this; exact h
   | false=>rw [hb] at hx; simp only [cond] at hx; exact ih hx
 | @conL k e ty C hC ct h hl ih =>
   intro f x hx
   simp only [ig] at hx
   cases hb:Nat.beq f k with
   | true=>rw [hb] at hx; simp only [cond] at hx; cases hx; have:=Nat.eq_of_beq_eq_true hb; subst this; exact h
   | false=>rw [hb] at hx; simp only [cond] at hx; exact ih hx
 | @conN k C hC ct h hl ih =>
   intro f x hx
   simp only [ig] at hx
   cases hb:Nat.beq f k with
   | true=>rw [hb] at hx; simp only [cond] at hx; cases hx; have:=Nat.eq_of_beq_eq_true hb; subst this; exact h
   | false=>rw [hb] at hx; simp only [cond] at hx; exact ih hx
 | @conZ k C hC ct h hl ih =>
   intro f x hx
   simp only [ig] at hx
   cases hb:Nat.beq f k with
   | true=>rw [hb] at hx; simp only [cond] at hx; cases hx; have:=Nat.eq_of_beq_eq_true hb; subst this; exact h
   | false=>rw [hb] at hx; simp only [cond] at hx; exact ih hx
 | @inl k fn sf un ct hf hn hc hd hl ih =>
   intro f x hx
   simp only [ig] at hx
   cases hb:Nat.beq f k with
   | true=>rw [hb] at hx; simp only [cond] at hx; cases hx; have:=Nat.eq_of_beq_eq_true hb; subst this; exact ⟨fn,hf,hn,hc⟩
   | false=>rw [hb] at hx; simp only [cond] at hx; exact ih hx
theorem aR.dst {P:Program} {eqs:List TypeId} {its:List gk} {ct:bd} (h:aR P eqs its ct):ms ct=true:=by
 induction h with
 | nil=>rfl
 | con h hl ih=>exact ih
 | conL h hl ih=>exact ih
 | conN h hl ih=>exact ih
 | conZ h hl ih=>exact ih
 | inl hf hn hc hd hl ih=>simp only [ms,hd,ih,Bool.and_self]
theorem aR.ok {P:Program} {eqs:List TypeId} {its:List gk} {ct:bd} (h:aR P eqs its ct) (hE:∀ t ∈ eqs,cB P t) (hI:j6 P eqs its):∀ (lv:Nat) (g:FuncId),(SV ct lv g).Ok P g
 | 0,g=>by
   simp only [SV]
   split
   ·rename_i C hC; exact h.look hC
   ·rename_i e ty C hC0 hC; exact h.look hC
   ·rename_i C hC0 hC; exact h.look hC
   ·rename_i C hC0 hC; exact h.look hC
   ·exact Nk g
 | n+1,g=>by
   simp only [SV]
   split
   ·rename_i C hC; exact h.look hC
   ·rename_i e ty C hC0 hC; exact h.look hC
   ·rename_i C hC0 hC; exact h.look hC
   ·rename_i C hC0 hC; exact h.look hC
   ·rename_i sf un hC
    obtain ⟨fn,h1,h2,h3⟩:=h.look hC
    exact VY (h.ok hE hI n) hE hI h1 h2 h3
   ·exact Nk g
def LV:Nat:=12
def run (ct:bd) (un:kn) (sf:aI) (ds:List V):T V:=lI (lz ct LV) (kT ct) un LV sf ds [] fun v _=>.ret v
theorem aes {α:Type} {P:Program} {eqs:List TypeId} {its:List gk} {ct:bd} {f:FuncId} {fn:Func} {sf:aI} {un:kn} {C:aB} {K0:V->T α} {Q0:V->α->Prop} (hK0:∀ w0 r v,bn (cO w0 (SV ct)) (K0 v) (Q0 r)->cn v=cn r) (hT:aR P eqs its ct) (hE:∀ t ∈ eqs,cB P t) (hI:j6 P eqs its) (hf:P.funcs[f]? = some fn)
 (hn : (fn.name == "runtime.NumGoroutine") = false) (hc : dO P eqs its fn = some sf) (hd : eT sf.ntmps sf.body = true)
 (h:∀ w0 ds d p r,C ds=some (d,p,r)->d.1=d.2->p->plain (cn r)=true->bn (cO w0 (SV ct)) (lI (lz ct LV) (kT ct) un LV sf ds [] fun v _=>K0 v) (Q0 r)):(vP C).Ok P f:=by
 refine ⟨fun B m lh w args vs K hrel hargs hsp=>?_,fun _ _ _ _ _ hk ⟨ds,d,p,r,h1,h2,h3,h4,h5⟩=>⟨ds,d,p,r,h1,h2,h3,h4,hk _ _ h5⟩,fun _ _ _ _ ⟨_,_,_,_,_,_,_,_,h⟩=>h⟩
 obtain ⟨ds,d,p,r,h1,h2,⟨h30,h3⟩,h4,h5⟩:=hsp
 obtain ⟨args',g1,g2⟩:=jb hrel ds args vs h1 hargs
 have hs:=mW (Sp:=fun w0 args lh K=>lh=[]/\∃ ds d p r,bf w0 [] Nu.nil ds args/\C ds=some (d,p,r)/\(d.1=d.2/\p)/\plain (cn r)=true/\K (cn r) []) (hT.ok hE hI LV) hE hI hf hn hc (fun w0 args lh K hw ha ⟨e,ds,d,p,r,k1,k2,⟨k30,k3⟩,k4,k5⟩=>by
  subst e
  refine o8 (mS w0 ct hT.dst LV) (nd w0 ct _ LV) hd k1 (HR.none w0) (h w0 ds d p r k2 k30 k3 k4) fun v h' ν' a lh' _ q1 q2 q3=>?_
  have q3:=hK0 _ _ _ q3
  have:=(wB (by rw [q3]; exact k4) a).1 q2
  rw [q3] at this
  subst this
  exact KG (lh:=[]) (l:=lh') (Nr k4) hw k5)
 obtain ⟨e1,e2⟩:=hs ⟨w,w,fun _=>False,[]⟩ (fun _=>none) [] w args' vs (fun r' _=>r'=cn r) (aW.start w) g1 ⟨rfl,ds,d,p,r,g2,h2,⟨h30,h3⟩,h4,rfl⟩
 refine ⟨e1,e2.mono fun e w' ⟨v,r',m1,lh1,he,hv,_,hr,hk⟩=>?_⟩
 subst hk
 exact ⟨v,_,m,lh,he,GV h4 hv,gJ.refl _ _,hrel.back hr,h5⟩
def yau (e:Nat) (ty:TypeId) (h:List O):V->V
 | .gs k n=>match fq h k with
   | some (.gl e' _ f ty')=>cond (Nat.beq e' e && Nat.beq ty' ty) (.sl n f) .any
   | _=>.any
 | .ns=>.sl 0 fun _=>[]
 | _=>.any
def ES (h:List O):V->Bool
 | .gs k n=>match fq h k with
   | some (.gl _ n' _ _)=>decide (n<=n')
   | _=>true
 | _=>true
def Hc (h:List O):V->Bool
 | .tup (v::_)=>ES h v
 | v=>ES h v
def Hp (e:Nat) (ty:TypeId) (h:List O):V->V
 | .tup (v::vs)=>.tup (yau e ty h v::vs)
 | v=>yau e ty h v
section
variable {w0:World} {ν:Nu} {nV nS:Nat} {h:List O} {lh:List ap}
theorem D8 (hh:HR w0 ν nV nS h lh) {e:Nat} {ty:TypeId} {v:V} {a:ak} {n:Nat} {f:Nat->List V} (hv:vr w0 ν.z ν v a) (hs:∀ i,i < n->(b9 (f i)).all bh=true) (hc:ES h v=true) (ht:cn (yau e ty h v)=cn (.sl n f)):GW e ty 0 lh n f a:=by
 unfold yau at ht
 split at ht
 ·rename_i k n1
  unfold ES at hc; dsimp only at hc
  rw [bb] at ht hc
  split at ht
  ·rename_i e' n' g ty' hk
   cases hb:(Nat.beq e' e && Nat.beq ty' ty) with
   | false=>rw [hb] at ht; simp [cn] at ht
   | true =>
     rw [hb] at ht
     simp only [Bool.and_eq_true] at hb
     have e1:=Nat.eq_of_beq_eq_true hb.1
     have e2:=Nat.eq_of_beq_eq_true hb.2
     rw [hk] at hc
     have e3:=of_decide_eq_true hc
     subst e1; subst e2
     obtain ⟨rfl,hel⟩:=CX ht
     simp only [vr] at hv
     rcases hv with ⟨g1,rfl,rfl⟩ | ⟨b,c,e2,g1,rfl,g3⟩
     ·exact .inl ⟨rfl,rfl⟩
     ·rcases hh.blk k _ hk with ⟨h1,h2⟩ | ⟨b',c',az,h1,h2,h3,h4,h5⟩
      ·rw [h1] at g1; cases g1
      ·rw [h1] at g1
       obtain ⟨rfl,rfl,rfl⟩:b'=b/\c'=c/\e'=e2:=by simpa using g1
       refine .inr ⟨b',c',az,Nat.zero_le _,h2,rfl,h3,g3,fun i hi=>?_⟩
       have:=(dF (by rw [hel i hi]; exact hs i hi) _).1 (h5 i (by omega)).2
       rw [this,hel i hi]
  ·simp [cn] at ht
 ·simp only [vr] at hv
  obtain ⟨rfl,_⟩:=CX ht
  exact .inl ⟨rfl,hv⟩
 ·simp [cn] at ht
theorem S3 (hh:HR w0 ν nV nS h lh) {e:Nat} {ty:TypeId} {v r:V} {a:ak} {n:Nat} {f:Nat->List V} (hv:vr w0 ν.z ν v a) (hr:mw r=some (n,f)) (ho:HK e r) (hc:Hc h v=true) (ht:cn (Hp e ty h v)=cn r):∃ x,GW e ty 0 lh n f x/\a=mB x r:=by
 obtain ⟨n',f',hl,_,hel,hrs⟩:=ho
 rw [hr] at hl; cases hl
 have hs:=fun i hi=>(hel i hi).2
 unfold Hp at ht
 rcases lT hr with rfl | ⟨us,rfl⟩
 ·split at ht
  ·simp [cn] at ht
  ·rename_i hv0
   exact ⟨a,D8 hh hv hs (by unfold Hc at hc; split at hc <;> first | exact (hv0 _ _ rfl).elim | exact hc) ht,rfl⟩
 ·split at ht
  ·rename_i u vs
   have ht1:cn (yau e ty h u)=cn (.sl n f):=by simp only [cn,b9,ak.tup.injEq,List.cons.injEq] at ht ⊢; exact ht.1
   have ht2:b9 vs=b9 us:=by simp only [cn,b9,ak.tup.injEq,List.cons.injEq] at ht; exact ht.2
   simp only [vr] at hv
   obtain ⟨az,rfl,hv⟩:=hv
   simp only [bf] at hv
   obtain ⟨x,xs,rfl,h1,h2⟩:=hv
   refine ⟨x,D8 hh h1 hs hc ht1,?_⟩
   simp only [mB]
   rw [(dF (by rw [ht2]; exact hrs) _).1 h2,ht2]
  ·have:∀ u,cn (yau e ty h u) ≠ .tup (b9 (.sl n f::us)):=fun u=>by
    unfold yau
    split
    ·split
     ·rename_i e' n' g ty' _
      cases (Nat.beq e' e && Nat.beq ty' ty) <;> simp [cn]
     ·simp [cn]
    ·simp [cn]
    ·simp [cn]
   exact (this _ (by rw [ht]; simp only [cn])).elim
end
theorem exL {e:Nat} {ty:TypeId} {r:V} {n:Nat} {f:Nat->List V} (hr:mw r=some (n,f)) (ho:HK e r) (lh:List ap):∃ x new,GW e ty lh.length (lh++new) n f x:=by
 obtain ⟨n',f',hl,_,hel,_⟩:=ho
 rw [hr] at hl; cases hl
 obtain ⟨h1,h2⟩:=w9 (e:=e) (f:=f) (n:=n) fun i hi=>by rw [tK]; exact (kX (hel i hi).1).1
 exact ⟨_,[.cells ((List.range n).flatMap fun i=>b9 (f i)) ty],.inr ⟨lh.length,n,(List.range n).flatMap fun i=>b9 (f i),Nat.le_refl _,by simp,rfl,h1,Nat.le_refl _,h2⟩⟩
theorem aea {α:Type} {P:Program} {eqs:List TypeId} {its:List gk} {ct:bd} {f:FuncId} {fn:Func} {sf:aI} {un:kn} {e:Nat} {ty:TypeId} {C:aB} {K0:V->List O->T α} {Q0:V->α->Prop} (hK0:∀ w0 r v h,bn (cO w0 (SV ct)) (K0 v h) (Q0 r)->Hc h v=true/\cn (Hp e ty h v)=cn r) (hT:aR P eqs its ct) (hE:∀ t ∈ eqs,cB P t) (hI:j6 P eqs its) (hf:P.funcs[f]? = some fn)
 (hn : (fn.name == "runtime.NumGoroutine") = false) (hc : dO P eqs its fn = some sf) (hd : eT sf.ntmps sf.body = true)
 (h:∀ w0 ds d p r,C ds=some (d,p,r)->d.1=d.2->p->bn (cO w0 (SV ct)) (lI (lz ct LV) (kT ct) un LV sf ds [] K0) (Q0 r)):(vL e ty C).Ok P f:=by
 refine ⟨fun B m lh w args vs K hrel hargs hsp=>?_,fun _ _ _ _ _ hk ⟨ds,d,p,r,n,g,h1,h2,h3,h4,h5,h6⟩=>⟨ds,d,p,r,n,g,h1,h2,h3,h4,h5,fun x new hx=>hk _ _ (h6 x new hx)⟩,fun _ _ lh _ ⟨_,_,_,_,_,_,_,_,_,h4,h5,h6⟩=>let ⟨x,new,hx⟩:=exL (ty:=ty) h4 h5 lh; h6 x new hx⟩
 obtain ⟨ds,d,p,r,n,g,h1,h2,⟨h30,h3⟩,h4,h5,h6⟩:=hsp
 obtain ⟨args',g1,g2⟩:=jb hrel ds args vs h1 hargs
 have hs:=mW (Sp:=fun w0 args lh K=>lh=[]/\∃ ds d p r n g,bf w0 [] Nu.nil ds args/\C ds=some (d,p,r)/\(d.1=d.2/\p)/\mw r=some (n,g)/\HK e r/\∀ x lh1,GW e ty 0 lh1 n g x->K (mB x r) lh1) (hT.ok hE hI LV) hE hI hf hn hc (fun w0 args lh K hw ha ⟨e,ds,d,p,r,n,g,k1,k2,⟨k30,k3⟩,k4,k5,k6⟩=>by
  subst e
  refine o8 (mS w0 ct hT.dst LV) (nd w0 ct _ LV) hd k1 (HR.none w0) (h w0 ds d p r k2 k30 k3) fun v h' ν' a lh' _ q1 q2 q3=>?_
  have q3:=hK0 _ _ _ _ q3
  obtain ⟨x,hx,rfl⟩:=S3 (q1 0 0) q2 k4 k5 q3.1 q3.2
  exact ⟨_,lh',.inl ⟨rfl,(⟨.inr rfl,trivial⟩:ku [_] [_])⟩,k6 x lh' hx⟩)
 obtain ⟨e1,e2⟩:=hs ⟨w,w,fun _=>False,[]⟩ (fun _=>none) [] w args' vs (fun r' lh1=>∃ x,GW e ty 0 lh1 n g x/\r'=mB x r) (aW.start w) g1 ⟨rfl,ds,d,p,r,n,g,g2,h2,⟨h30,h3⟩,h4,h5,fun x lh1 hx=>⟨x,hx,rfl⟩⟩
 refine ⟨e1,e2.mono fun ee w' ⟨v,r',m1,lh1,he,hv,_,hr,⟨x,hx,hk⟩⟩=>?_⟩
 subst hk
 obtain ⟨n',g',hl,hmax,hel,hrs⟩:=h5
 have hl':=hl
 rw [h4] at hl'; cases hl'
 have hback:=hrel.back hr
 rcases hx with ⟨rfl,rfl⟩ | ⟨b,c,az,_,hbl,rfl,hal,hnc,hall⟩
 ·refine ⟨v,mB (.slice none 0 0) r,m,lh,he,wC h4 hrs (fun u hu=>?_) hv,gJ.refl _ _,hback,?_⟩
  ·simp only [vrel] at hu ⊢; exact hu
  ·have:=h6 (.slice none 0 0) [] (.inl ⟨rfl,rfl⟩)
   rwa [List.append_nil] at this
 ·obtain ⟨b0,us,m1b,hus,hheap,hge,_⟩:=hr.loc b az ty hbl
  have hle:n * e<=az.length:=by rw [hal]; exact Nat.mul_le_mul_right e hnc
  have hlen:=cG hus
  have hnew:∀ k b',m k=some b'->b' ≠ b0:=fun k b' hk e0=>by
   have:=hrel.rng k b' hk; simp only at hge; omega
  have hsc:(az.take (n * e)).all bh=true:=pS fun i hi=>by rw [hall i hi]; exact (hel i hi).2
  have hvs:aw (fun k=>if k=lh.length then some b0 else m k) (az.take (n * e)++List.replicate (us.toList.drop (n * e)).length .any) us.toList:=by
   have:=dw (il (m':=fun k=>if k=lh.length then some b0 else m k) hsc (i4 (n * e) hus)) (tQ (us.toList.drop (n * e)))
   rwa [List.take_append_drop] at this
  obtain ⟨hH,hle'⟩:=Hn hback (b:=b0) (ty:=ty) hheap hvs (Nat.le_trans hrel.size hge) (Nat.le_trans hrel.fsize hge) hnew
  refine ⟨v,mB (.slice (some (.l lh.length 0)) n c) r,_,_,he,wC h4 hrs (fun u hu=>?_) hv,⟨hle',fun k hk=>⟨?_,?_⟩⟩,hH,h6 _ _ (.inr ⟨lh.length,c,az.take (n * e)++List.replicate (us.toList.drop (n * e)).length .any,Nat.le_refl _,by rw [List.getElem?_append_right (Nat.le_refl _),Nat.sub_self]; rfl,rfl,?_,hnc,fun i hi=>?_⟩)⟩
  ·simp only [vrel,dl] at hu ⊢
   obtain ⟨q,rfl,b',hb',rfl⟩:=hu
   rw [m1b] at hb'; cases hb'
   exact ⟨_,rfl,b0,by simp,rfl⟩
  ·rw [List.getElem?_append_left (List.getElem?_eq_some_iff.1 hk).1]; exact hk
  ·have:=(List.getElem?_eq_some_iff.1 hk).1
   simp only [if_neg (Nat.ne_of_lt this)]
  ·simp only [List.length_append,List.length_take,List.length_replicate,List.length_drop]; omega
  ·rw [← hall i hi]
   refine xN (N:=n * e) ?_ (by rw [← Nat.succ_mul]; exact Nat.mul_le_mul_right e (by omega))
   rw [List.take_append_of_le_length (by simp; omega),List.take_take,Nat.min_self]
inductive Ty where
 | int (k:IntKind)
 | bool
 | str
 | agg (ts:List Ty)
 | sl (ts:List Ty)
 | fn (f:FuncId) (xs ys:List Ty)
 | pd (ts:List Ty)
def iv:V->Int
 | .int _ n=>n
 | _=>0
def bv:V->Bool
 | .bool b=>b
 | .kb b=>b
 | _=>false
def sv:V->ByteArray
 | .str s=>s
 | _=>ByteArray.empty
def au:V->Nat
 | .sl n _=>n
 | .sq n _ _=>n
 | _=>0
def G7:V->Nat
 | .sl n _=>n
 | .sq _ m _=>m
 | _=>0
def bj:V->Nat->List V
 | .sl _ f,i=>f i
 | .sq _ _ f,i=>f i
 | _,_=>[]
def dA:V->List V
 | .agg cs=>cs
 | _=>[]
def Gg:V->List V
 | .fn _ xs _=>xs
 | _=>[]
def F2:V->List V
 | .fn _ _ ys=>ys
 | _=>[]
def DZ:V->List V
 | .pd cs=>cs
 | _=>[]
def hdV:List V->V
 | v::_=>v
 | []=>.any
def ab:List V->List V
 | _::vs=>vs
 | []=>[]
def bM:Ty->Bool
 | .agg _=>false
 | .fn ..=>false
 | .pd _=>false
 | _=>true
mutual
def cz:Ty->V->V
 | .int k,v=>.int k (iv v)
 | .bool,v=>.bool (bv v)
 | .str,v=>.str (sv v)
 | .agg ts,v=>.agg (ao ts (dA v))
 | .sl ts,v=>.sl (au v) fun i=>ao ts (bj v i)
 | .fn f xs ys,v=>.fn f (ao xs (Gg v)) (ao ys (F2 v))
 | .pd ts,v=>.pd (ao ts (DZ v))
def ao:List Ty->List V->List V
 | [],_=>[]
 | t::ts,vs=>cz t (hdV vs)::ao ts (ab vs)
end
mutual
def cD:Ty->V->Prop
 | .int k,v=>v=.int k (iv v)
 | .bool,v=>v=.bool (bv v) ∨ v=.kb (bv v)
 | .str,v=>v=.str (sv v)
 | .agg ts,v=>v=.agg (dA v)/\bl ts (dA v)
 | .sl ts,v=>(v=.sl (au v) (bj v) ∨ v=.sq (au v) (G7 v) (bj v))/\ts.all bM=true/\∀ i,i < G7 v->bl ts (bj v i)
 | .fn f xs ys,v=>v=.fn f (Gg v) (F2 v)/\bl xs (Gg v)/\bl ys (F2 v)
 | .pd ts,v=>v=.pd (DZ v)/\ts.all bM=true/\bl ts (DZ v)
def bl:List Ty->List V->Prop
 | [],vs=>vs=[]
 | t::ts,vs=>vs=hdV vs::ab vs/\cD t (hdV vs)/\bl ts (ab vs)
end
theorem ml:∀ (ts:List Ty) (vs:List V),ts.all bM=true->(ao ts vs).all V.fc=true
 | [],_,_=>by simp [ao]
 | t::ts,vs,h=>by
   simp only [List.all_cons,Bool.and_eq_true] at h
   simp only [ao,List.all_cons,Bool.and_eq_true]
   refine ⟨?_,ml ts _ h.2⟩
   cases t <;> first | rfl | (simp [bM] at h) | (simp only [cz]; rfl)
theorem tp:∀ {ts:List Ty} {vs:List V},bl ts vs->vs.length=ts.length
 | [],vs,h=>by simp only [bl] at h; subst h; rfl
 | t::ts,vs,h=>by simp only [bl] at h; rw [h.1]; simp [tp h.2.2]
section
variable {w0:World} {lh:List ap}
theorem q7:∀ (ts:List Ty) (vs:List V),(ao ts vs).length=ts.length
 | [],_=>by simp [ao]
 | t::ts,vs=>by simp [ao,q7 ts]
mutual
theorem TI:∀ (t:Ty) (v:V) (a:ak),cD t v->vr w0 lh Nu.nil v a->vr w0 lh Nu.nil (cz t v) a
 | .int k,v,a,h,hv=>by simp only [cD] at h; simp only [cz]; rw [h] at hv; exact hv
 | .bool,v,a,h,hv=>by
   simp only [cD] at h; simp only [cz,vr]
   rcases h with h | h <;> (rw [h] at hv; simp only [vr] at hv; exact hv)
 | .str,v,a,h,hv=>by simp only [cD] at h; simp only [cz]; rw [h] at hv; exact hv
 | .agg ts,v,a,h,hv=>by
   simp only [cD] at h
   rw [h.1] at hv
   simp only [cz,vr] at hv ⊢
   obtain ⟨az,h1,h2⟩:=hv
   exact ⟨az,h1,eF ts _ az h.2 h2⟩
 | .sl ts,v,a,h,hv=>by
   simp only [cD] at h
   rcases h.1 with h0 | h0
   ·have hb:G7 v=au v:=by rw [h0]; rfl
    rw [h0] at hv
    simp only [cz,vr] at hv ⊢
    obtain ⟨p,c,esz,h1,h2,h3,h4,h5⟩:=hv
    exact ⟨p,c,esz,h1,h2,h3,h4,fun i hi=>let ⟨q,az,g1,g2,g3,g4⟩:=h5 i hi; ⟨q,az,g1,g2,eF ts _ az (h.2.2 i (by omega)) g3,ml ts _ h.2.1⟩⟩
   ·rw [h0] at hv
    simp only [cz,vr] at hv ⊢
    obtain ⟨p,c,esz,h1,⟨h2,h2'⟩,h3,h4,h5⟩:=hv
    exact ⟨p,c,esz,h1,h2,h3,h4,fun i hi=>let ⟨q,az,g1,g2,g3,g4⟩:=h5 i hi; ⟨q,az,g1,g2,eF ts _ az (h.2.2 i (by omega)) g3,ml ts _ h.2.1⟩⟩
 | .fn f xs ys,v,a,h,hv=>by
   simp only [cD] at h
   rw [h.1] at hv
   simp only [cz,vr] at hv ⊢
   obtain ⟨us,vs,h1,h2,h3⟩:=hv
   exact ⟨us,vs,h1,eF xs _ us h.2.1 h2,eF ys _ vs h.2.2 h3⟩
 | .pd ts,v,a,h,hv=>by
   simp only [cD] at h
   rw [h.1] at hv
   simp only [cz,vr] at hv ⊢
   obtain ⟨p,az,h1,h2,h3,h4,h5⟩:=hv
   have hl:=tp h.2.2
   refine ⟨p,az,h1,h2,by rw [q7,← hl]; exact h3,eF ts _ az h.2.2 h4,ml ts _ h.2.1⟩
theorem eF:∀ (ts:List Ty) (vs:List V) (az:List ak),bl ts vs->bf w0 lh Nu.nil vs az->bf w0 lh Nu.nil (ao ts vs) az
 | [],vs,az,h,hv=>by simp only [bl] at h; subst h; simpa only [ao] using hv
 | t::ts,vs,az,h,hv=>by
   simp only [bl] at h
   rw [h.1] at hv
   simp only [bf] at hv
   obtain ⟨x,xs,rfl,h1,h2⟩:=hv
   simp only [ao,bf]
   exact ⟨x,xs,rfl,TI t _ x h.2.1 h1,eF ts _ xs h.2.2 h2⟩
end
end
mutual
def ub:Ty->Bool
 | .agg ts=>fl ts
 | .sl ts=>ts.all bM && fl ts
 | .fn _ xs ys=>fl xs && fl ys
 | .pd ts=>ts.all bM && fl ts
 | _=>true
def fl:List Ty->Bool
 | []=>true
 | t::ts=>ub t && fl ts
end
def Hi:Nat->(Nat->List V->List V)->List V->List V
 | 0,_,k=>k
 | j+1,g,k=>g j (Hi j g k)
mutual
def qX:Ty->V->List V->List V
 | .agg ts,v,k=>.agg (dA v)::jB ts (dA v) k
 | .sl ts,v,k=>match v with
   | .sq _ m f=>Hi m (fun j k=>jB ts (f j) k) k
   | v=>cz (.sl ts) v::k
 | .fn f xs ys,v,k=>.fn f (Gg v) (F2 v)::jB xs (Gg v) (jB ys (F2 v) k)
 | .pd ts,v,k=>.pd (DZ v)::jB ts (DZ v) k
 | t,v,k=>cz t v::k
def jB:List Ty->List V->List V->List V
 | [],_,k=>.agg []::k
 | t::ts,vs,k=>.agg (hdV vs::ab vs)::qX t (hdV vs) (jB ts (ab vs) k)
end
mutual
def qK:Ty->V->List V->List V
 | .agg ts,v,k=>v::jC ts (dA v) k
 | .sl ts,v,k=>match v with
   | .sq _ m f=>Hi m (fun j k=>jC ts (f j) k) k
   | v=>v::k
 | .fn _ xs ys,v,k=>v::jC xs (Gg v) (jC ys (F2 v) k)
 | .pd ts,v,k=>v::jC ts (DZ v) k
 | _,v,k=>v::k
def jC:List Ty->List V->List V->List V
 | [],vs,k=>.agg vs::k
 | t::ts,vs,k=>.agg vs::qK t (hdV vs) (jC ts (ab vs) k)
end
theorem xq {P:Nat->Prop} {g g':Nat->List V->List V} (hg:∀ j k k',g j k=g' j k'->P j/\k=k'):∀ (m:Nat) (k k':List V),Hi m g k=Hi m g' k'->(∀ j,j < m->P j)/\k=k'
 | 0,k,k',h=>⟨fun j hj=>by omega,h⟩
 | m+1,k,k',h=>by
   simp only [Hi] at h
   obtain ⟨h1,h2⟩:=hg m _ _ h
   obtain ⟨h3,h4⟩:=xq hg m k k' h2
   exact ⟨fun j hj=>by
    by_cases e:j=m
    ·subst e; exact h1
    ·exact h3 j (by omega),h4⟩
theorem xD:∀ (ts:List Ty) (vs:List V),fl ts=true->ao ts vs=vs->bl ts vs:=by
 have key:∀ (ts:List Ty),fl ts=true->∀ vs,ao ts vs=vs->bl ts vs:=fun ts ho vs h=>hasTys_of' ts vs ho h
 exact fun ts vs ho h=>key ts ho vs h
 where
 hasTy_of':∀ (t:Ty) (v:V),ub t=true->cz t v=v->cD t v
 | .int k,v,_,h=>by simp only [cz] at h; simp only [cD]; exact h.symm
 | .bool,v,_,h=>by simp only [cz] at h; simp only [cD]; exact .inl h.symm
 | .str,v,_,h=>by simp only [cz] at h; simp only [cD]; exact h.symm
 | .agg ts,v,ho,h=>by
   simp only [cz] at h; simp only [ub] at ho
   have h2:ao ts (dA v)=dA v:=by have:=congrArg dA h; simpa only [dA] using this
   simp only [cD]
   exact ⟨by rw [h2] at h; exact h.symm,hasTys_of' ts _ ho h2⟩
 | .sl ts,v,ho,h=>by
   simp only [cz] at h; simp only [ub,Bool.and_eq_true] at ho
   have h2:∀ i,ao ts (bj v i)=bj v i:=fun i=>by
    have:=congrArg (fun u=>bj u i) h
    simpa only [bj] using this
   simp only [cD]
   refine ⟨.inl ?_,ho.1,fun i _=>hasTys_of' ts _ ho.2 (h2 i)⟩
   have h3:(fun i=>ao ts (bj v i))=bj v:=funext h2
   rw [h3] at h; exact h.symm
 | .fn f xs ys,v,ho,h=>by
   simp only [cz] at h; simp only [ub,Bool.and_eq_true] at ho
   have h2:ao xs (Gg v)=Gg v:=by have:=congrArg Gg h; simpa only [Gg] using this
   have h3:ao ys (F2 v)=F2 v:=by have:=congrArg F2 h; simpa only [F2] using this
   simp only [cD]
   exact ⟨by rw [h2,h3] at h; exact h.symm,hasTys_of' xs _ ho.1 h2,hasTys_of' ys _ ho.2 h3⟩
 | .pd ts,v,ho,h=>by
   simp only [cz] at h; simp only [ub,Bool.and_eq_true] at ho
   have h2:ao ts (DZ v)=DZ v:=by have:=congrArg DZ h; simpa only [DZ] using this
   simp only [cD]
   exact ⟨by rw [h2] at h; exact h.symm,ho.1,hasTys_of' ts _ ho.2 h2⟩
 hasTys_of':∀ (ts:List Ty) (vs:List V),fl ts=true->ao ts vs=vs->bl ts vs
 | [],vs,_,h=>by simp only [ao] at h; simp only [bl]; exact h.symm
 | t::ts,vs,ho,h=>by
   simp only [ao] at h; simp only [fl,Bool.and_eq_true] at ho
   have h2:cz t (hdV vs)=hdV vs:=by have:=congrArg hdV h; simpa only [hdV] using this
   have h3:ao ts (ab vs)=ab vs:=by have:=congrArg ab h; simpa only [ab] using this
   simp only [bl]
   exact ⟨by rw [h2,h3] at h; exact h.symm,hasTy_of' t _ ho.1 h2,hasTys_of' ts _ ho.2 h3⟩
def aa (ts:List Ty) (f:ah):Nat->List V:=fun i=>ao ts (f i)
mutual
def unq:Ty->V->V
 | .agg ts,v=>match v with
   | .agg cs=>.agg (jq ts cs)
   | v=>v
 | .sl ts,v=>match v with
   | .sq n _ f=>.sl n (aa ts f)
   | v=>v
 | .fn _ xs ys,v=>match v with
   | .fn f us vs=>.fn f (jq xs us) (jq ys vs)
   | v=>v
 | .pd ts,v=>match v with
   | .pd cs=>.pd (jq ts cs)
   | v=>v
 | _,v=>v
def jq:List Ty->List V->List V
 | [],_=>[]
 | t::ts,vs=>match vs with
   | v::vs=>unq t v::jq ts vs
   | []=>[]
end
mutual
theorem aaS:∀ (t:Ty) (v:V) (k k':List V),qX t v k=qK t v k'->unq t v=cz t v/\k=k'
 | .int _,v,k,k',h=>by
   simp only [qX,qK,List.cons.injEq] at h
   simp only [unq]; exact ⟨h.1.symm,h.2⟩
 | .bool,v,k,k',h=>by
   simp only [qX,qK,List.cons.injEq] at h
   simp only [unq]; exact ⟨h.1.symm,h.2⟩
 | .str,v,k,k',h=>by
   simp only [qX,qK,List.cons.injEq] at h
   simp only [unq]; exact ⟨h.1.symm,h.2⟩
 | .agg ts,v,k,k',h=>by
   simp only [qX,qK,List.cons.injEq] at h
   obtain ⟨h1,h2⟩:=fE ts _ k k' h.2
   obtain ⟨cs,rfl⟩:∃ cs,v=.agg cs:=⟨_,h.1.symm⟩
   simp only [dA] at h1
   simp only [unq,cz,dA,h1]; exact ⟨trivial,h2⟩
 | .sl ts,v,k,k',h=>by
   by_cases hv:∃ n m f,v=.sq n m f
   ·obtain ⟨n,m,f,rfl⟩:=hv
    simp only [qX,qK] at h
    obtain ⟨_,h2⟩:=xq (P:=fun _=>True) (fun j k k' hj=>⟨trivial,(fE ts (f j) k k' hj).2⟩) m k k' h
    exact ⟨rfl,h2⟩
   ·cases v <;> first | exact (hv ⟨_,_,_,rfl⟩).elim | (simp only [qX,qK,List.cons.injEq] at h; simp only [unq]; exact ⟨h.1.symm,h.2⟩)
 | .fn f xs ys,v,k,k',h=>by
   simp only [qX,qK,List.cons.injEq] at h
   obtain ⟨h1,h2⟩:=fE xs _ _ _ h.2
   obtain ⟨h3,h4⟩:=fE ys _ _ _ h2
   obtain ⟨us,vs,rfl⟩:∃ us vs,v=.fn f us vs:=⟨_,_,h.1.symm⟩
   simp only [Gg] at h1
   simp only [F2] at h3
   simp only [unq,cz,Gg,F2,h1,h3]; exact ⟨trivial,h4⟩
 | .pd ts,v,k,k',h=>by
   simp only [qX,qK,List.cons.injEq] at h
   obtain ⟨h1,h2⟩:=fE ts _ k k' h.2
   obtain ⟨cs,rfl⟩:∃ cs,v=.pd cs:=⟨_,h.1.symm⟩
   simp only [DZ] at h1
   simp only [unq,cz,DZ,h1]; exact ⟨trivial,h2⟩
theorem fE:∀ (ts:List Ty) (vs:List V) (k k':List V),jB ts vs k=jC ts vs k'->jq ts vs=ao ts vs/\k=k'
 | [],vs,k,k',h=>by
   simp only [jB,jC,List.cons.injEq,V.agg.injEq] at h
   simp only [jq,ao]; exact ⟨trivial,h.2⟩
 | t :: ts,vs,k,k',h=>by
   simp only [jB,jC,List.cons.injEq,V.agg.injEq] at h
   obtain ⟨h1,h2⟩:=aaS t _ _ _ h.2
   obtain ⟨h3,h4⟩:=fE ts _ _ _ h2
   have h0:=h.1
   cases vs with
   | nil=>cases h0
   | cons v vs =>
     simp only [hdV,ab] at h1 h3
     simp only [jq,ao,hdV,ab,h1,h3]; exact ⟨trivial,h4⟩
end
mutual
theorem ahw:∀ (t:Ty) (v:V) (k k':List V),ub t=true->qX t v k=qK t v k'->cD t v/\k=k'
 | .int _,v,k,k',_,h=>by
   simp only [qX,qK,List.cons.injEq] at h
   simp only [cz] at h; simp only [cD]; exact ⟨h.1.symm,h.2⟩
 | .bool,v,k,k',_,h=>by
   simp only [qX,qK,List.cons.injEq,cz] at h
   simp only [cD]
   exact ⟨.inl h.1.symm,h.2⟩
 | .str,v,k,k',_,h=>by
   simp only [qX,qK,List.cons.injEq] at h
   simp only [cz] at h; simp only [cD]; exact ⟨h.1.symm,h.2⟩
 | .agg ts,v,k,k',ho,h=>by
   simp only [qX,qK,List.cons.injEq] at h; simp only [ub] at ho
   obtain ⟨h1,h2⟩:=iz ts _ k k' ho h.2
   simp only [cD]; exact ⟨⟨h.1.symm,h1⟩,h2⟩
 | .sl ts,v,k,k',ho,h=>by
   have ho':=ho
   simp only [ub,Bool.and_eq_true] at ho
   by_cases hv:∃ n m f,v=.sq n m f
   ·obtain ⟨n,m,f,rfl⟩:=hv
    simp only [qX,qK] at h
    obtain ⟨h1,h2⟩:=xq (P:=fun j=>bl ts (f j)) (fun j k k' hj=>iz ts (f j) k k' ho.2 hj) m k k' h
    simp only [cD,au,bj,G7]
    exact ⟨⟨.inr rfl,ho.1,h1⟩,h2⟩
   ·have h':cz (.sl ts) v=v/\k=k':=by
     cases v <;> first | exact (hv ⟨_,_,_,rfl⟩).elim | (simp only [qX,qK,List.cons.injEq] at h; exact h)
    have:=xD [.sl ts] [v] (by simp only [fl,ho',Bool.and_true]) (by simp only [ao,hdV,ab,h'.1])
    simp only [bl,hdV] at this
    exact ⟨this.2.1,h'.2⟩
 | .fn f xs ys,v,k,k',ho,h=>by
   simp only [qX,qK,List.cons.injEq] at h; simp only [ub,Bool.and_eq_true] at ho
   obtain ⟨h1,h2⟩:=iz xs _ _ _ ho.1 h.2
   obtain ⟨h3,h4⟩:=iz ys _ _ _ ho.2 h2
   simp only [cD]; exact ⟨⟨h.1.symm,h1,h3⟩,h4⟩
 | .pd ts,v,k,k',ho,h=>by
   simp only [qX,qK,List.cons.injEq] at h; simp only [ub,Bool.and_eq_true] at ho
   obtain ⟨h1,h2⟩:=iz ts _ k k' ho.2 h.2
   simp only [cD]; exact ⟨⟨h.1.symm,ho.1,h1⟩,h2⟩
theorem iz:∀ (ts:List Ty) (vs:List V) (k k':List V),fl ts=true->jB ts vs k=jC ts vs k'->bl ts vs/\k=k'
 | [],vs,k,k',_,h=>by
   simp only [jB,jC,List.cons.injEq,V.agg.injEq] at h
   simp only [bl]; exact ⟨h.1.symm,h.2⟩
 | t::ts,vs,k,k',ho,h=>by
   simp only [jB,jC,List.cons.injEq,V.agg.injEq] at h; simp only [fl,Bool.and_eq_true] at ho
   obtain ⟨h1,h2⟩:=ahw t _ _ _ ho.1 h.2
   obtain ⟨h3,h4⟩:=iz ts _ _ _ ho.2 h2
   simp only [bl]; exact ⟨⟨h.1.symm,h1,h3⟩,h4⟩
end
def bI (ts:List Ty) (pre:List V->Prop) (r:List V->V):aB:=fun ds=>some ((jB ts ds [],jC ts ds []),pre (jq ts ds),r (jq ts ds))
theorem SK {α:Type} {P:Program} {eqs:List TypeId} {its:List gk} {ct:bd} {f:FuncId} {fn:Func} {sf:aI} {un:kn} {ts:List Ty} {pre:List V->Prop} {r:List V->V} {K0:V->T α} {Q0:V->α->Prop} (hK0:∀ w0 r v,bn (cO w0 (SV ct)) (K0 v) (Q0 r)->cn v=cn r) (hT:aR P eqs its ct) (hE:∀ t ∈ eqs,cB P t) (hI:j6 P eqs its) (hf:P.funcs[f]? = some fn)
 (hn : (fn.name == "runtime.NumGoroutine") = false) (hc : dO P eqs its fn = some sf) (hd : eT sf.ntmps sf.body = true) (ho : fl ts = true)
 (h:∀ w0 ds,pre (ao ts ds)->bn (cO w0 (SV ct)) (lI (lz ct LV) (kT ct) un LV sf (ao ts ds) [] fun v _=>K0 v) (Q0 (r (ao ts ds)))):(vP (bI ts pre r)).Ok P f:=by
 refine ⟨fun B m lh w args vs K hrel hargs hsp=>?_,fun _ _ _ _ _ hk ⟨ds,d,p,r,h1,h2,h3,h4,h5⟩=>⟨ds,d,p,r,h1,h2,h3,h4,hk _ _ h5⟩,fun _ _ _ _ ⟨_,_,_,_,_,_,_,_,h⟩=>h⟩
 obtain ⟨ds,d,p,r',h1,h2,⟨h30,h3⟩,h4,h5⟩:=hsp
 simp only [bI,Option.some.injEq,Prod.mk.injEq] at h2
 obtain ⟨rfl,rfl,rfl⟩:=h2
 have hty:=(iz ts ds [] [] ho h30).1
 rw [(fE ts ds [] [] h30).1] at h3 h4 h5
 have key2:=aes (C:=fun ds'=>some ((ds',ao ts ds),pre (ao ts ds),r (ao ts ds))) (P:=P) (f:=f) hK0 hT hE hI hf hn hc hd (fun w0 ds' d' p' r' e he hp _=>by
  simp only [Option.some.injEq,Prod.mk.injEq] at e
  obtain ⟨rfl,rfl,rfl⟩:=e
  simp only at he
  subst he
  exact h w0 ds hp)
 exact key2.sound B m lh w args vs K hrel hargs ⟨ao ts ds,_,_,_,eF ts ds args hty h1,rfl,⟨rfl,h3⟩,h4,h5⟩
theorem yaT {α:Type} {P:Program} {eqs:List TypeId} {its:List gk} {ct:bd} {f:FuncId} {fn:Func} {sf:aI} {un:kn} {e:Nat} {ty:TypeId} {ts:List Ty} {pre:List V->Prop} {r:List V->V} {K0:V->List O->T α} {Q0:V->α->Prop} (hK0:∀ w0 r v h,bn (cO w0 (SV ct)) (K0 v h) (Q0 r)->Hc h v=true/\cn (Hp e ty h v)=cn r) (hT:aR P eqs its ct) (hE:∀ t ∈ eqs,cB P t) (hI:j6 P eqs its) (hf:P.funcs[f]? = some fn)
 (hn : (fn.name == "runtime.NumGoroutine") = false) (hc : dO P eqs its fn = some sf) (hd : eT sf.ntmps sf.body = true) (ho : fl ts = true)
 (h:∀ w0 ds,pre (ao ts ds)->bn (cO w0 (SV ct)) (lI (lz ct LV) (kT ct) un LV sf (ao ts ds) [] K0) (Q0 (r (ao ts ds)))):(vL e ty (bI ts pre r)).Ok P f:=by
 refine ⟨fun B m lh w args vs K hrel hargs hsp=>?_,fun _ _ _ _ _ hk ⟨ds,d,p,r,n,g,h1,h2,h3,h4,h5,h6⟩=>⟨ds,d,p,r,n,g,h1,h2,h3,h4,h5,fun x new hx=>hk _ _ (h6 x new hx)⟩,fun _ _ lh _ ⟨_,_,_,_,_,_,_,_,_,h4,h5,h6⟩=>let ⟨x,new,hx⟩:=exL (ty:=ty) h4 h5 lh; h6 x new hx⟩
 obtain ⟨ds,d,p,r',n,g,h1,h2,⟨h30,h3⟩,h4,h5,h6⟩:=hsp
 simp only [bI,Option.some.injEq,Prod.mk.injEq] at h2
 obtain ⟨rfl,rfl,rfl⟩:=h2
 have hty:=(iz ts ds [] [] ho h30).1
 rw [(fE ts ds [] [] h30).1] at h3 h4 h5 h6
 have key2:=aea (e:=e) (ty:=ty) (C:=fun ds'=>some ((ds',ao ts ds),pre (ao ts ds),r (ao ts ds))) (P:=P) (f:=f) hK0 hT hE hI hf hn hc hd (fun w0 ds' d' p' r' e he hp=>by
  simp only [Option.some.injEq,Prod.mk.injEq] at e
  obtain ⟨rfl,rfl,rfl⟩:=e
  simp only at he
  subst he
  exact h w0 ds hp)
 exact key2.sound B m lh w args vs K hrel hargs ⟨ao ts ds,_,_,_,n,g,eF ts ds args hty h1,rfl,⟨rfl,h3⟩,h4,h5,h6⟩
abbrev lO:=List (Option (Option Nat))
def dj (ρ:lO) (k:Nat):Option (Option Nat):=match fq ρ k with
 | some x=>x
 | none=>none
mutual
def b5 (ρ:lO):V->V->Prop
 | v,.any=>True ∨ v=.any
 | .int k a,.int k' b=>k=k'/\a=b
 | .bool a,.bool b=>a=b
 | .kb a,.bool b=>a=b
 | .kb a,.kb b=>a=b
 | .str a,.str b=>a=b
 | .agg xs,.agg ys=>eG ρ xs ys
 | .tup xs,.tup ys=>eG ρ xs ys
 | .fn f xs ys,.fn g us vs=>f=g/\eG ρ xs us/\eG ρ ys vs
 | .sl n f,.sl m g=>n=m/\f=g
 | .pd cs,.pd ds=>cs=ds
 | .pl k o,.pl k1 o1=>dj ρ k1=some (some k)/\o=o1
 | .pe k i j,.pe k1 i1 j1=>dj ρ k1=some (some k)/\i=i1/\j=j1
 | .ss k o n c,.ss k1 o1 n1 c1=>dj ρ k1=some (some k)/\o=o1/\n=n1/\c=c1
 | .gs k n,.gs k1 n1=>dj ρ k1=some (some k)/\n=n1
 | .ns,.gs k1 n1=>dj ρ k1=some none/\n1=0
 | .ns,.ns=>True
 | .np,.np=>True
 | .yl l,.yl l1=>l=l1
 | .go k o n,.go k1 o1 n1=>dj ρ k1=some (some k)/\o=o1/\n=n1
 | _,_=>False
def eG (ρ:lO):List V->List V->Prop
 | [],[]=>True
 | x::xs,y::ys=>b5 ρ x y/\eG ρ xs ys
 | _,_=>False
end
def s3 (ρ:lO) (e:bp):bp->Prop
 | []=>True
 | (s,v)::l=>b5 ρ (iq e s) v/\s3 ρ e l
def yar (ρ:lO) (h:List O) (k:Nat):O->Prop
 | .cells cs ty=>∃ j ds,dj ρ k=some (some j)/\fq h j=some (.cells ds ty)/\eG ρ ds cs
 | .gl e n f ty=>(dj ρ k=some none/\n=0) ∨ ∃ j m g,dj ρ k=some (some j)/\fq h j=some (.gl e m g ty)/\n<=m/\∀ i,i < n->kS e (f i)=true/\eG ρ (g i) (f i)
 | .dead=>False
 | .hid=>True
def sW (ρ:lO) (h:List O):Nat->List O->Prop
 | _,[]=>True
 | k,o::l=>yar ρ h k o/\sW ρ h (k+1) l
def pu (x:Option (Option Nat)):lO->Bool
 | []=>true
 | y::l=>(match x,y with
   | some (some a),some (some b)=>!Nat.beq a b
   | _,_=>true) && pu x l
def Cp:lO->Bool
 | []=>true
 | x::l=>pu x l && Cp l
def Ni (ρ:lO):Nat->Bool
 | 0=>true
 | k+1=>(match dj ρ k with
   | some (some j)=>Nat.beq j k
   | _=>false) && Ni ρ k
def kG (ρ:lO) (ν:Nu):Nu:=⟨fun k=>match dj ρ k with
 | some (some j)=>ν j
 | some none=>some none
 | none=>none,ν.z⟩
section
variable {w0:World} {ν:Nu} {ρ:lO} {lh:List ap}
mutual
theorem F1:∀ (v v1:V) (a:ak),b5 ρ v v1->vr w0 ν.z ν v a->vr w0 ν.z (kG ρ ν) v1 a
 | .int k n,v1,a,h,hv=>by
   cases v1 <;> simp only [b5] at h
   case int=>obtain ⟨rfl,rfl⟩:=h; simp only [vr] at hv ⊢; exact hv
   case any=>simp only [vr]
 | .bool b,v1,a,h,hv=>by
   cases v1 <;> simp only [b5] at h
   case bool=>subst h; simp only [vr] at hv ⊢; exact hv
   case any=>simp only [vr]
 | .kb b,v1,a,h,hv=>by
   cases v1 <;> simp only [b5] at h
   case bool=>subst h; simp only [vr] at hv ⊢; exact hv
   case kb=>subst h; simp only [vr] at hv ⊢; exact hv
   case any=>simp only [vr]
 | .str b,v1,a,h,hv=>by
   cases v1 <;> simp only [b5] at h
   case str=>subst h; simp only [vr] at hv ⊢; exact hv
   case any=>simp only [vr]
 | .agg xs,v1,a,h,hv=>by
   cases v1 <;> simp only [b5] at h
   case agg=>simp only [vr] at hv ⊢; obtain ⟨az,h1,h2⟩:=hv; exact ⟨az,h1,ip xs _ az h h2⟩
   case any=>simp only [vr]
 | .tup xs,v1,a,h,hv=>by
   cases v1 <;> simp only [b5] at h
   case tup=>simp only [vr] at hv ⊢; obtain ⟨az,h1,h2⟩:=hv; exact ⟨az,h1,ip xs _ az h h2⟩
   case any=>simp only [vr]
 | .fn f xs ys,v1,a,h,hv=>by
   cases v1 <;> simp only [b5] at h
   case fn=>obtain ⟨rfl,g1,g2⟩:=h; simp only [vr] at hv ⊢; obtain ⟨az,bs,h1,h2,h3⟩:=hv; exact ⟨az,bs,h1,ip xs _ az g1 h2,ip ys _ bs g2 h3⟩
   case any=>simp only [vr]
 | .sl n f,v1,a,h,hv=>by
   cases v1 <;> simp only [b5] at h
   case sl=>obtain ⟨rfl,rfl⟩:=h; simp only [vr] at hv ⊢; exact hv
   case any=>simp only [vr]
 | .pd cs,v1,a,h,hv=>by
   cases v1 <;> simp only [b5] at h
   case pd=>subst h; simp only [vr] at hv ⊢; exact hv
   case any=>simp only [vr]
 | .pl k o,v1,a,h,hv=>by
   cases v1 <;> simp only [b5] at h
   case pl=>obtain ⟨h1,rfl⟩:=h; simp only [vr] at hv ⊢; simp only [kG,h1]; exact hv
   case any=>simp only [vr]
 | .pe k i j,v1,a,h,hv=>by
   cases v1 <;> simp only [b5] at h
   case pe=>obtain ⟨h1,rfl,rfl⟩:=h; simp only [vr] at hv ⊢; simp only [kG,h1]; exact hv
   case any=>simp only [vr]
 | .ss k o n c,v1,a,h,hv=>by
   cases v1 <;> simp only [b5] at h
   case ss=>obtain ⟨h1,rfl,rfl,rfl⟩:=h; simp only [vr] at hv ⊢; simp only [kG,h1]; exact hv
   case any=>simp only [vr]
 | .gs k n,v1,a,h,hv=>by
   cases v1 <;> simp only [b5] at h
   case gs=>obtain ⟨h1,rfl⟩:=h; simp only [vr] at hv ⊢; simp only [kG,h1]; exact hv
   case any=>simp only [vr]
 | .ns,v1,a,h,hv=>by
   cases v1 <;> simp only [b5] at h
   case gs=>obtain ⟨h1,rfl⟩:=h; simp only [vr] at hv ⊢; simp only [kG,h1]; exact .inl ⟨trivial,trivial,hv⟩
   case ns=>simp only [vr] at hv ⊢; exact hv
   case any=>simp only [vr]
 | .np,v1,a,h,hv=>by
   cases v1 <;> simp only [b5] at h
   case np=>simp only [vr] at hv ⊢; exact hv
   case any=>simp only [vr]
 | .any,v1,a,h,hv=>by
   cases v1 <;> simp only [b5] at h
   case any=>simp only [vr]
 | .gd b v,v1,a,h,hv=>by
   cases v1 <;> simp only [b5] at h
   case any=>simp only [vr]
 | .yl l,v1,a,h,hv=>by
   cases v1 <;> simp only [b5] at h
   case yl=>subst h; simp only [vr] at hv ⊢; exact hv
   case any=>simp only [vr]
 | .go k o n,v1,a,h,hv=>by
   cases v1 <;> simp only [b5] at h
   case go=>obtain ⟨h1,rfl,rfl⟩:=h; simp only [vr] at hv ⊢; simp only [kG,h1]; exact hv
   case any=>simp only [vr]
 | .sq n m f,v1,a,h,hv=>by
   cases v1 <;> simp only [b5] at h
   case any=>simp only [vr]
theorem ip:∀ (vs us:List V) (az:List ak),eG ρ vs us->bf w0 ν.z ν vs az->bf w0 ν.z (kG ρ ν) us az
 | [],[],az,_,hv=>by simp only [bf] at hv ⊢; exact hv
 | v::vs,u::us,az,h,hv=>by
   simp only [eG] at h
   simp only [bf] at hv ⊢
   obtain ⟨x,xs,h1,h2,h3⟩:=hv
   exact ⟨x,xs,h1,F1 v u x h.1 h2,ip vs us xs h.2 h3⟩
 | [],_::_,_,h,_=>by simp only [eG] at h
 | _::_,[],_,h,_=>by simp only [eG] at h
end
theorem vC:∀ {e e1:bp} (s:Nat),s3 ρ e e1->iq e1 s=.any ∨ b5 ρ (iq e s) (iq e1 s)
 | e,[],s,_=>.inl rfl
 | e,(d,v)::l,s,h=>by
   simp only [s3] at h
   rw [ks]
   by_cases hd:s=d
   ·subst hd; rw [if_pos rfl]; exact .inr h.1
   ·rw [if_neg hd]; exact vC s h.2
theorem lk {h:List O}:∀ {l:List O} {k i:Nat} {o:O},sW ρ h k l->l[i]? = some o->yar ρ h (k+i) o
 | [],_,_,_,_,hi=>by simp at hi
 | x::l,k,0,o,hh,hi=>by simp at hi; subst hi; exact hh.1
 | x::l,k,i+1,o,hh,hi=>by
   have:=lk (i:=i) hh.2 (by simpa using hi)
   rwa [show k+1+i=k+(i+1) by omega] at this
theorem oa:∀ {l:lO} {a i:Nat},pu (some (some a)) l=true->fq l i=some (some (some a))->False
 | [],_,_,_,h=>by cases h
 | y::l,a,0,h,hi=>by
   simp only [fq,Option.some.injEq] at hi; subst hi
   simp [pu] at h
 | y::l,a,i+1,h,hi=>by
   simp only [pu,Bool.and_eq_true] at h
   exact oa h.2 hi
theorem D9:∀ {l:lO} {a i j:Nat},Cp l=true->fq l i=some (some (some a))->fq l j=some (some (some a))->i=j
 | [],_,_,_,_,h,_=>by cases h
 | x::l,a,0,0,_,_,_=>rfl
 | x::l,a,i+1,0,h,hi,hj=>by
   simp only [Cp,Bool.and_eq_true] at h
   simp only [fq,Option.some.injEq] at hj; subst hj
   exact (oa h.1 hi).elim
 | x::l,a,0,j+1,h,hi,hj=>by
   simp only [Cp,Bool.and_eq_true] at h
   simp only [fq,Option.some.injEq] at hi; subst hi
   exact (oa h.1 hj).elim
 | x::l,a,i+1,j+1,h,hi,hj=>by
   simp only [Cp,Bool.and_eq_true] at h
   rw [D9 h.2 hi hj]
theorem C1:∀ {n k:Nat},Ni ρ n=true->k < n->dj ρ k=some (some k)
 | n+1,k,h,hk=>by
   simp only [Ni,Bool.and_eq_true] at h
   rcases Nat.lt_succ_iff_lt_or_eq.1 hk with hk | rfl
   ·exact C1 h.2 hk
   ·have h1:=h.1
    split at h1
    ·rename_i j hj; rw [hj,Nat.eq_of_beq_eq_true h1]
    ·cases h1
theorem uh {k j:Nat} (h:dj ρ k=some (some j)):fq ρ k=some (some (some j)):=by
 unfold dj at h
 split at h
 ·rename_i x hx; rw [hx,h]
 ·cases h
theorem jn.ren (w0:World) {nb:Nat} {e e1:bp} {h h1:List O} (ρ:lO) (hl:Nat.beq (bD ρ) (bD h1)=true) (hi:Cp ρ=true) (hid:Ni ρ nb=true) (he:s3 ρ e e1) (hh:sW ρ h 0 h1):jn w0 nb e h e1 h1:=by
 intro N ν nV nS sl lh hs hr
 have hlen:ρ.length=h1.length:=by have:=Nat.eq_of_beq_eq_true hl; rwa [yac,yac] at this
 have hlive:∀ k,aV h1 k->∀ x,kG ρ ν k=some (some x)->∃ j,dj ρ k=some (some j)/\aV h j/\ν j=some (some x):=fun k hk x hx=>by
  have hx':=hx
  simp only [kG] at hx
  split at hx
  ·rename_i j hj
   refine ⟨j,hj,?_,hx⟩
   rcases eh hk with ⟨cs,ty,hc⟩ | ⟨e',n,f,ty,hc⟩
   ·obtain ⟨j',ds,g1,g2,g3⟩:=lk (k:=0) (i:=k) hh hc
    rw [Nat.zero_add,hj] at g1; cases g1
    exact dd (by rwa [bb] at g2)
   ·rcases lk (k:=0) (i:=k) hh hc with ⟨g1,_⟩ | ⟨j',m,g,g1,g2,_⟩
    ·rw [Nat.zero_add,hj] at g1; cases g1
    ·rw [Nat.zero_add,hj] at g1; cases g1
     exact ff (by rwa [bb] at g2)
  ·cases hx
  ·cases hx
 refine ⟨kG ρ ν,0,0,⟨fun k x hk hx=>by simp only [kG,C1 hid hk]; exact hx,kq _⟩,⟨hs.len,fun i=>?_⟩,⟨fun k o hk=>?_,fun k k' x x' hk hk' hx hx' hxx=>?_,fun k hk=>?_,fun k x hx=>?_,hr.zl,fun k x hk hx=>let ⟨j,_,g2,g3⟩:=hlive k hk x hx; hr.zn j x g2 g3⟩⟩
 ·rcases vC i he with h0 | h0
  ·rw [h0]; simp only [vr]
  ·exact F1 _ _ _ h0 (hs.at' i)
 ·have hb:=lk (k:=0) (i:=k) hh hk
  rw [Nat.zero_add] at hb
  cases o with
  | cells cs ty =>
    obtain ⟨j,ds,g1,g2,g3⟩:=hb
    rw [bb] at g2
    obtain ⟨b,c,e',az,k1,k2,k3⟩:=hr.blk j _ g2
    exact ⟨b,c,e',az,by simp only [kG,g1]; exact k1,k2,ip _ _ _ g3 k3⟩
  | gl e' n f ty =>
    rcases hb with ⟨g1,rfl⟩ | ⟨j,m,g,g1,g2,g3,g4⟩
    ·exact .inl ⟨by simp only [kG,g1],rfl⟩
    ·rw [bb] at g2
     rcases hr.blk j _ g2 with ⟨k1,k2⟩ | ⟨b,c,az,k1,k2,k3,k4,k5⟩
     ·exact .inl ⟨by simp only [kG,g1]; exact k1,by omega⟩
     ·exact .inr ⟨b,c,az,by simp only [kG,g1]; exact k1,k2,k3,⟨by omega,by omega⟩,fun i hi=>⟨(g4 i hi).1,ip _ _ _ (g4 i hi).2 (k5 i (by omega)).2⟩⟩
  | dead=>exact hb.elim
  | hid=>trivial
 ·obtain ⟨j,g1,g2,g3⟩:=hlive k hk x hx
  obtain ⟨j',g1',g2',g3'⟩:=hlive k' hk' x' hx'
  have:=hr.inj j j' x x' g2 g2' g3 g3' hxx
  subst this
  exact D9 hi (uh g1) (uh g1')
 ·simp only [kG,dj,bb]
  rw [List.getElem?_eq_none (by omega)]
 ·simp only [kG] at hx
  split at hx
  ·exact hr.rng _ x hx
  ·cases hx
  ·cases hx
theorem jn.refl (w0:World) (nb:Nat) (e:bp) (h:List O):jn w0 nb e h e h:=fun N ν nV nS sl lh hs hr=>⟨ν,nV,nS,NuN.refl _ _,hs,hr⟩
theorem jn.trans {w0:World} {nb:Nat} {e e1 e2:bp} {h h1 h2:List O} (a:jn w0 nb e h e1 h1) (b:jn w0 nb e1 h1 e2 h2):jn w0 nb e h e2 h2:=fun N ν nV nS sl lh hs hr=>by
 obtain ⟨ν1,nV1,nS1,g0,g1,g2⟩:=a N ν nV nS sl lh hs hr
 obtain ⟨ν2,nV2,nS2,k0,k1,k2⟩:=b N ν1 nV1 nS1 sl lh g1 g2
 exact ⟨ν2,nV2,nS2,g0.trans k0,k1,k2⟩
end
def ve {α:Type}:T α->List Bool->T α
 | t,[]=>t
 | .br _ x y,p::ps=>cond p (ve x ps) (ve y ps)
 | .und x y,p::ps=>cond p (ve x ps) (ve y ps)
 | .asm _ x,ps=>ve x ps
 | .ob _ x,ps=>ve x ps
 | .obi _ _ x,ps=>ve x ps
 | .obp _ x,ps=>ve x ps
 | .obq _ _ x,ps=>ve x ps
 | t,_=>t
def wh {α:Type}:T α->T α
 | .ob _ x=>wh x
 | .obi _ _ x=>wh x
 | .obp _ x=>wh x
 | .obq _ _ x=>wh x
 | .asm _ x=>wh x
 | t=>t
def hT:T (Ex × bp × List O)->List O
 | .ret r=>r.2.2
 | _=>[]
def afT {α:Type}:T α->Nat->T α
 | .all f=>f
 | _=>fun _=>.fail 0
def eL {α:Type} (t:T α) (p:List Bool):T α:=wh (ve t p)
theorem agT {ct:bd} {w0:World} (hd:ms ct=true) {lv nb:Nat} {un:kn} {body:fB} {e:bp} {h:List O} {Post:Ex->bp->List O->Option Ex->Prop} (bi:Nat)
 (I:Type) (inv:I->bp × List O) (μ:I->Nat) (h0:∃ i,jn w0 nb e h (inv i).1 (inv i).2)
 (round:∀ i,bn (cO w0 (SV ct)) (evC (lz ct lv) (kT ct) un (lv,nb) bi body (inv i).1 (inv i).2 fun x e h=>.ret (x,e,h)) fun r=>match r.1 with
   | .normal=>∃ i',jn w0 nb r.2.1 r.2.2 (inv i').1 (inv i').2/\μ i' < μ i
   | x=>Post x r.2.1 r.2.2 none):cO w0 (SV ct) (lv,nb) (.s body) e h none Post :=
 UM (fr:=(lv,nb)) (mS w0 ct hd lv) (nd w0 ct _ lv) I inv μ h0 round
theorem acx {ct:bd} {w0:World} (hd:ms ct=true) {lv nb:Nat} {un:kn} {body:gE} {rd:RD} {e:bp} {h:List O} {g:Option Ex} {Post:Ex->bp->List O->Option Ex->Prop} (bi bi':Nat)
 (I:Type) (inv:I->bp × List O × Option Ex) (μ:I->Nat) (h0:∃ i,g=(inv i).2.2/\jn w0 nb e h (inv i).1 (inv i).2.1)
 (round:∀ i,bn (cO w0 (SV ct)) (lg (lz ct lv) (kT ct) un (lv,nb) rd (rdY (lz ct lv) (kT ct) un lv bi' rd) bi body (inv i).1 (inv i).2.1 (inv i).2.2 fun x e h g=>.ret (x,e,h,g)) fun r=>match r.1 with
   | .normal=>∃ i',r.2.2.2=(inv i').2.2/\jn w0 nb r.2.1 r.2.2.1 (inv i').1 (inv i').2.1/\μ i' < μ i
   | x=>Post x r.2.1 r.2.2.1 r.2.2.2):cO w0 (SV ct) (lv,nb) (.i body rd) e h g Post :=
 IX (fr:=(lv,nb)) (mS w0 ct hd lv) (nd w0 ct _ lv) I inv μ h0 round
def fP (P:Program) (rec:TypeId->Option (List Ty)):List Field->Nat->Option (List Ty × Nat)
 | [],off=>some ([],off)
 | f::l,off=>match rec f.type,fP P rec l (off+P.cellsOf f.type) with
   | some ts,some (us,n)=>if f.offset=off/\ts.length=P.cellsOf f.type then some (ts++us,n) else none
   | _,_=>none
def iS (P:Program):Nat->TypeId->Option (List Ty)
 | 0,_=>none
 | fu+1,t=>match P.underlying t with
   | some .bool=>some [.bool]
   | some (.int k)=>some [.int k]
   | some .string=>some [.str]
   | some (.slice e)=>match iS P fu e with
     | some ts=>if ts.length=P.cellsOf e then some [.sl ts] else none
     | none=>none
   | some (.struct fs)=>match fP P (iS P fu) fs.toList 0 with
     | some (ts,n)=>if n=P.cellsOf t then some ts else none
     | none=>none
   | some (.array n e)=>match iS P fu e with
     | some ts=>if ts.length=P.cellsOf e/\P.cellsOf t=n * P.cellsOf e then some (List.replicate n ts).flatten else none
     | none=>none
   | _=>none
def rgI:IntKind->Int->Prop
 | .u8,n=>0<=n/\n<=255
 | _,_=>True
theorem O5 {k:IntKind} {n:Int} (h:(Lit.int k n).wf=true):rgI k n:=by
 have h1:(decide (k.min<=n) && decide (n<=k.max))=true:=h
 rw [Bool.and_eq_true,decide_eq_true_eq,decide_eq_true_eq] at h1
 cases k <;> first | trivial | exact ⟨h1.1,h1.2⟩
mutual
def vh:Ty->V->Prop
 | .int k,v=>rgI k (iv v)
 | .str,v=>(sv v).size<=9223372036854775807
 | .agg ts,v=>fT ts (dA v)
 | .sl ts,v=>∀ i,i < au v->fT ts (bj v i)
 | _,_=>True
def fT:List Ty->List V->Prop
 | [],_=>True
 | t::ts,vs=>vh t (hdV vs)/\fT ts (ab vs)
end
mutual
theorem GU:∀ (t:Ty) (v:V),vh t v->vh t (cz t v)
 | .int k,v,h=>by simp only [cz,vh,iv] at h ⊢; exact h
 | .bool,_,_=>trivial
 | .str,v,h=>by simp only [cz,vh,sv] at h ⊢; exact h
 | .agg ts,v,h=>by simp only [cz,vh,dA] at h ⊢; exact gZ ts _ h
 | .sl ts,v,h=>by simp only [cz,vh,au,bj] at h ⊢; exact fun i hi=>gZ ts _ (h i hi)
 | .fn ..,_,_=>trivial
 | .pd _,_,_=>trivial
theorem gZ:∀ (ts:List Ty) (vs:List V),fT ts vs->fT ts (ao ts vs)
 | [],_,_=>trivial
 | t::ts,vs,h=>by simp only [fT,ao,hdV,ab] at h ⊢; exact ⟨GU t _ h.1,gZ ts _ h.2⟩
end
section
variable {w:World}
theorem kN:∀ {ts us:List Ty} {vs xs:List V},bl ts vs->fT ts vs->fT us xs->fT (ts++us) (vs++xs)
 | [],_,_,_,h,_,k=>by simp only [bl] at h; subst h; simpa using k
 | t::ts,us,vs,xs,h,hz,k=>by
   simp only [bl] at h
   rw [h.1]
   simp only [fT] at hz
   simp only [List.cons_append,fT,hdV,ab]
   exact ⟨hz.1,kN h.2.2 hz.2 k⟩
theorem kj:∀ {ts us:List Ty} {vs xs:List V},bl ts vs->bl us xs->bl (ts++us) (vs++xs)
 | [],_,_,_,h,k=>by simp only [bl] at h; subst h; simpa using k
 | t::ts,us,vs,xs,h,k=>by
   simp only [bl] at h
   rw [h.1]
   simp only [List.cons_append,bl,hdV,ab]
   exact ⟨trivial,h.2.1,kj h.2.2 k⟩
theorem iU {w:World} {a:Addr}:∀ (n i:Nat) (cs:List Value),(List.range' i n).mapM (fun j=>w.cell? (a.add j))=some cs->fm w a i n=some (cs.map bo):=by
 intro n
 induction n with
 | zero=>intro i cs h; simp at h; subst h; rfl
 | succ n ih =>
   intro i cs h
   simp only [List.range'_succ,List.mapM_cons] at h
   cases hc:w.cell? (a.add i) with
   | none=>simp [hc] at h
   | some v =>
     cases hr:(List.range' (i+1) n).mapM (fun j=>w.cell? (a.add j)) with
     | none=>simp [hc,hr] at h
     | some l =>
       simp [hc,hr] at h
       subst h
       simp [fm,hc,ih (i+1) l hr]
theorem Qn {a:Addr} {n c esz:Nat} {ts:List Ty} (hn:n<=c) (hc:c<=maxLen) (hcell:ts.all bM=true)
 (h:∀ i,i < n->∃ cs:List Value,fm w (a.add (i * esz)) 0 esz=some (cs.map bo)/\∃ vs,bf w [] Nu.nil vs (cs.map bo)/\(bl ts vs/\fT ts vs)/\vs.all V.fc=true) :
 ∃ v,vr w [] Nu.nil v (.slice (some (.g a)) n c)/\(cD (.sl ts) v/\vh (.sl ts) v)/\v.fc=true:=by
 classical
 refine ⟨.sl n fun i=>if hi:i < n then (Classical.choose (Classical.choose_spec (h i hi)).2) else [],?_,?_,rfl⟩
 ·simp only [vr]
  refine ⟨some (.g a),c,esz,rfl,hn,by unfold maxLen at hc; omega,trivial,fun i hi=>?_⟩
  have h1:=Classical.choose_spec (h i hi)
  have h2:=Classical.choose_spec h1.2
  refine ⟨.g a,(Classical.choose (h i hi)).map bo,rfl,?_,?_,?_⟩
  ·simp only [gA.add,lds]; exact h1.1
  ·simp only [hi,dite_true]; exact h2.1
  ·simp only [hi,dite_true]; exact h2.2.2
 ·simp only [cD,vh,au,bj,G7]
  refine ⟨⟨.inl rfl,hcell,fun i hi=>?_⟩,fun i hi=>?_⟩
  ·simp only [hi,dite_true]
   exact (Classical.choose_spec (Classical.choose_spec (h i hi)).2).2.1.1
  ·simp only [hi,dite_true]
   exact (Classical.choose_spec (Classical.choose_spec (h i hi)).2).2.1.2
end
theorem pL:∀ {ts:List Ty} {vs:List V},bl ts vs->ts.all bM=true->vs.all V.fc=true
 | [],vs,h,_=>by simp only [bl] at h; subst h; rfl
 | t::ts,vs,h,ho=>by
   simp only [bl] at h
   simp only [List.all_cons,Bool.and_eq_true] at ho
   rw [h.1]
   simp only [List.all_cons,Bool.and_eq_true]
   refine ⟨?_,pL h.2.2 ho.2⟩
   have h1:=h.2.1
   cases t <;> simp only [cD] at h1
   case int=>rw [h1]; rfl
   case bool=>rcases h1 with h1 | h1 <;> (rw [h1]; rfl)
   case str=>rw [h1]; rfl
   case sl=>rcases h1.1 with h0 | h0 <;> (rw [h0]; rfl)
   all_goals simp [bM] at ho
section
variable {P:Program}
theorem lF {rec:TypeId->Option (List Ty)} (hr:∀ t ts,rec t=some ts->ts.all bM=true):∀ {fs:List Field} {off n:Nat} {ts:List Ty},fP P rec fs off=some (ts,n)->ts.all bM=true
 | [],off,n,ts,h=>by simp [fP] at h; rw [h.1]; rfl
 | f::l,off,n,ts,h=>by
   simp only [fP] at h
   split at h
   ·rename_i us vs m h1 h2
    split at h
    ·cases h; rw [List.all_append,hr _ _ h1,lF hr h2]; rfl
    ·cases h
   ·cases h
theorem gT:∀ {fu:Nat} {t:TypeId} {ts:List Ty},iS P fu t=some ts->ts.all bM=true
 | 0,_,_,h=>by cases h
 | fu + 1,t,ts,h=>by
   simp only [iS] at h
   split at h
   ·cases h; rfl
   ·cases h; rfl
   ·cases h; rfl
   ·split at h
    ·split at h
     ·cases h; rfl
     ·cases h
    ·cases h
   ·split at h
    ·rename_i us n hf
     split at h
     ·cases h; exact lF (fun t ts=>gT (fu:=fu)) hf
     ·cases h
    ·cases h
   ·split at h
    ·rename_i us hu
     split at h
     ·cases h
      rw [List.all_eq_true]; intro x hx
      obtain ⟨l,hl,hx⟩:=List.mem_flatten.1 hx
      rw [(List.mem_replicate.1 hl).2] at hx
      exact List.all_eq_true.1 (gT hu) x hx
     ·cases h
    ·cases h
   ·cases h
variable {H:Type} {enc:TypeId × Value->H} {w:World} {base:Nat} {spare:Nat->Bool} {held:Bool}
theorem rq {rec:TypeId->Option (List Ty)} {fuel:Nat} (hr:∀ t ts cs d ps,rec t=some ts->DataW.trod enc P w base spare held fuel t cs=some (d,ps)->∃ vs,bf w [] Nu.nil vs (cs.map bo)/\bl ts vs/\fT ts vs) (cs:List Value) :
 ∀ {fs:List Field} {off n:Nat} {ts:List Ty},fP P rec fs off=some (ts,n)->(∀ f ∈ fs,∃ x,DataW.trod enc P w base spare held fuel f.type ((cs.drop f.offset).take (P.cellsOf f.type))=some x)->cs.length=n ->
 ∃ vs,bf w [] Nu.nil vs ((cs.drop off).map bo)/\bl ts vs/\fT ts vs
 | [],off,n,ts,h,_,hl=>by
   simp [fP] at h
   obtain ⟨rfl,rfl⟩:=h
   exact ⟨[],by rw [List.drop_eq_nil_of_le (by omega)]; simp [bf],by simp [bl],trivial⟩
 | f :: l,off,n,ts,h,hx,hl=>by
   simp only [fP] at h
   split at h
   ·rename_i us vs m h1 h2
    split at h
    ·rename_i hc
     cases h
     obtain ⟨rfl,hlen⟩:=hc
     obtain ⟨⟨d,ps⟩,ha⟩:=hx f List.mem_cons_self
     obtain ⟨v1,g1,g2,z1⟩:=hr _ _ _ _ _ h1 ha
     obtain ⟨v2,g3,g4,z2⟩:=rq hr cs h2 (fun g hg=>hx g (List.mem_cons_of_mem _ hg)) hl
     refine ⟨v1++v2,?_,kj g2 g4,kN g2 z1 z2⟩
     have e:cs.drop f.offset=(cs.drop f.offset).take (P.cellsOf f.type)++cs.drop (f.offset+P.cellsOf f.type):=by
      rw [← List.drop_drop]; exact (List.take_append_drop _ _).symm
     rw [e,List.map_append]
     exact jw g1 g3
    ·cases h
   ·cases h
theorem yav {fuel k:Nat} {e:TypeId} {us:List Ty} (hr:∀ cs d ps,DataW.trod enc P w base spare held fuel e cs=some (d,ps)->∃ vs,bf w [] Nu.nil vs (cs.map bo)/\bl us vs/\fT us vs) (cs:List Value) :
 ∀ (n m:Nat),cs.length=(m+n) * k->(∀ i,m<=i->i < m+n->∃ x,DataW.trod enc P w base spare held fuel e ((cs.drop (i * k)).take k)=some x)->∃ vs,bf w [] Nu.nil vs ((cs.drop (m * k)).map bo)/\bl (List.replicate n us).flatten vs/\fT (List.replicate n us).flatten vs:=by
 intro n
 induction n with
 | zero=>intro m hl _; exact ⟨[],by rw [List.drop_eq_nil_of_le (by simp at hl; omega)]; simp [bf],by simp [bl],trivial⟩
 | succ n ih =>
   intro m hl h
   obtain ⟨x,hx⟩:=h m (Nat.le_refl _) (by omega)
   obtain ⟨d,ps⟩:=x
   obtain ⟨v1,g1,g2,z1⟩:=hr _ _ _ hx
   obtain ⟨v2,g3,g4,z2⟩:=ih (m+1) (by rw [hl]; congr 1; omega) (fun i h1 h2=>h i (by omega) (by omega))
   refine ⟨v1++v2,?_,by rw [List.replicate_succ,List.flatten_cons]; exact kj g2 g4,by rw [List.replicate_succ,List.flatten_cons]; exact kN g2 z1 z2⟩
   have e:cs.drop (m * k)=(cs.drop (m * k)).take k++cs.drop ((m+1) * k):=by
    rw [Nat.succ_mul,← List.drop_drop]; exact (List.take_append_drop _ _).symm
   rw [e,List.map_append]
   exact jw g1 g3
theorem NE : ∀ (fuel fu:Nat) (t:TypeId) (ts:List Ty) (cs:List Value) (d:DataW H) (ps:List MemPlace),iS P fu t=some ts->DataW.trod enc P w base spare held fuel t cs=some (d,ps)->∃ vs,bf w [] Nu.nil vs (cs.map bo)/\bl ts vs/\fT ts vs:=by
 intro fuel
 induction fuel with
 | zero=>intro fu t ts cs d ps _ h; cases h
 | succ fuel ih =>
   intro fu t ts cs d ps ht h
   cases fu with
   | zero=>cases ht
   | succ fu =>
     have hok:=gT ht
     simp only [iS] at ht
     split at ht
     ·rename_i hu
      cases ht
      obtain ⟨b,rfl,_⟩:=DataW.trod_bool hu h
      exact ⟨[.bool b],by simp [bf,vr,bo],by simp [bl,cD,hdV,ab,bv],trivial,trivial⟩
     ·rename_i k hu
      cases ht
      obtain ⟨n,rfl,_,hwf⟩:=DataW.trod_int hu h
      exact ⟨[.int k n],by simp [bf,vr,bo],by simp [bl,cD,hdV,ab,iv],O5 hwf,trivial⟩
     ·rename_i hu
      cases ht
      obtain ⟨b,rfl,_,hb⟩:=DataW.trod_string hu h
      exact ⟨[.str b],by simp [bf,vr,bo],by simp [bl,cD,hdV,ab,sv],(show b.size<=9223372036854775807 by unfold maxLen at hb; omega),trivial⟩
     ·rename_i e hu
      split at ht
      ·rename_i us hus
       split at ht
       ·rename_i hlen
        cases ht
        have hcell:=gT hus
        rcases DataW.trod_slice hu h with ⟨rfl,_⟩ | ⟨a,len,cap,elems,rest,n,hn,rfl,_,_,h3,h4,h5,h6,_⟩
        ·exact ⟨[.sl 0 fun _=>[]],by simp only [List.map_cons,List.map_nil,bo,bf,vr]; exact ⟨_,_,rfl,⟨none,0,0,rfl,Nat.le_refl _,by omega,trivial,fun i hi=>by omega⟩,rfl⟩,by simp only [bl,cD,hdV,ab,au,G7]; exact ⟨trivial,⟨.inl rfl,hcell,fun i hi=>by omega⟩,trivial⟩,(fun i hi=>by simp [au,hdV] at hi),trivial⟩
        ·cases hn
         obtain ⟨v,g1,g2,_⟩:=Qn (w:=w) (a:=a) (n:=len) (c:=cap) (esz:=P.cellsOf e) (ts:=us) h3 h4 hcell (fun i hi=>by
          have h7:=h6 i hi
          rw [List.getElem?_eq_getElem (by omega)] at h7
          cases hcs:w.cells? base (a.add (i * P.cellsOf e)) (P.cellsOf e) with
          | none=>rw [hcs] at h7; cases h7
          | some cs' =>
            rw [hcs] at h7
            obtain ⟨vs,g1,g2,z2⟩:=ih fu e us cs' elems[i].1 elems[i].2 hus h7
            unfold World.cells? at hcs
            split at hcs
            ·rw [List.range_eq_range'] at hcs
             exact ⟨cs',iU _ 0 cs' hcs,vs,g1,⟨g2,z2⟩,pL g2 hcell⟩
            ·cases hcs)
         exact ⟨[v],by simp only [List.map_cons,List.map_nil,bo,bf]; exact ⟨_,_,rfl,g1,rfl⟩,by simp only [bl,hdV,ab]; exact ⟨trivial,g2.1,trivial⟩,g2.2,trivial⟩
       ·cases ht
      ·cases ht
     ·rename_i fs hu
      split at ht
      ·rename_i us n hf
       split at ht
       ·rename_i hn
        cases ht
        obtain ⟨xs,m,hm,_,h3,h4,h5⟩:=DataW.trod_struct hu h
        cases hm
        have:=rq (off:=0) (fun t ts cs d ps=>ih fu t ts cs d ps) cs hf (fun f hf'=>by
         obtain ⟨i,hi,rfl⟩:=List.getElem_of_mem hf'
         simp at hi
         have h6:=h5 i fs[i] (by simp [hi])
         rw [List.getElem?_eq_getElem (by omega)] at h6
         exact ⟨_,by simpa using h6⟩) (by rw [h3,hn])
        simpa using this
       ·cases ht
      ·cases ht
     ·rename_i n e hu
      split at ht
      ·rename_i us hus
       split at ht
       ·rename_i hc
        cases ht
        obtain ⟨xs,m,hm,_,h3,h4,h5⟩:=DataW.trod_array hu h
        cases hm
        have:=yav (k:=P.cellsOf e) (fun cs d ps=>ih fu e us cs d ps hus) cs n 0 (by rw [h3,hc.2]; simp) (fun i _ hi=>by
         have h6:=h5 i (by omega)
         rw [List.getElem?_eq_getElem (by omega)] at h6
         exact ⟨_,h6⟩)
        simpa using this
       ·cases ht
      ·cases ht
     ·cases ht
end
end Go.Dx
namespace Go.Dx
open Go.Sx Go.RowKit
def nY:Value->ak
 | .agg cs=>.agg (cs.toList.map bo)
 | v=>bo v
theorem BR (v:Value):vrel (fun _=>none) (nY v) v:=by
 unfold nY; split
 ·rename_i cs; simp only [vrel]; exact ⟨cs,rfl,bJ _ _⟩
 ·exact bP _ _
theorem rI:∀ vs:List Value,aw (fun _=>none) (vs.map nY) vs
 | []=>by simp [aw]
 | v::vs=>by simp only [List.map_cons,aw]; exact ⟨_,_,rfl,BR v,rI vs⟩
def Jc (P:Program) (fu:Nat) (t:TypeId):Option Ty:=match P.underlying t with
 | some (.struct _)=>(iS P fu t).map .agg
 | some (.array _ _)=>(iS P fu t).map .agg
 | some (.int k)=>some (.int k)
 | some .bool=>some .bool
 | _=>none
def argTys (P:Program) (fu:Nat):List TypeId->Option (List Ty)
 | []=>some []
 | t::ts=>match Jc P fu t,argTys P fu ts with
   | some x,some xs=>some (x::xs)
   | _,_=>none
section
variable {P:Program} {H:Type} {enc:TypeId × Value->H} {W:World} {base:Nat}
theorem aki {fu:Nat} {t:TypeId} {ty:Ty} {v:Value} {d:DataW H} {ps:List MemPlace} {b:Nat} {spare:Nat->Bool} {held:Bool} (ht:Jc P fu t=some ty) (hv:Value.okWide P W .any base t v) (h:DataW.Trod enc P W b spare held t v d ps) :
 ∃ x,vr W [] Nu.nil x (nY v)/\cD ty x/\vh ty x:=by
 obtain ⟨fuel,h⟩:=h
 unfold Jc at ht
 unfold Value.okWide at hv
 split at ht
 ·rename_i fs hu
  rw [hu] at hv
  obtain ⟨cs,rfl,_,_⟩:=hv
  simp only [Option.map_eq_some_iff] at ht
  obtain ⟨ts,hts,rfl⟩:=ht
  obtain ⟨vs,g1,g2,z2⟩:=NE fuel fu t ts _ d ps hts h
  exact ⟨.agg vs,by simp only [nY,vr]; exact ⟨_,rfl,g1⟩,by simp only [cD,dA]; exact ⟨trivial,g2⟩,z2⟩
 ·rename_i n e hu
  rw [hu] at hv
  obtain ⟨cs,rfl,_,_⟩:=hv
  simp only [Option.map_eq_some_iff] at ht
  obtain ⟨ts,hts,rfl⟩:=ht
  obtain ⟨vs,g1,g2,z2⟩:=NE fuel fu t ts _ d ps hts h
  exact ⟨.agg vs,by simp only [nY,vr]; exact ⟨_,rfl,g1⟩,by simp only [cD,dA]; exact ⟨trivial,g2⟩,z2⟩
 ·rename_i k hu
  cases ht
  obtain ⟨n,hc,_,hwf⟩:=DataW.trod_int hu h
  have:v=.int k n:=by
   rw [hu] at hv
   unfold Cell.okWide at hv
   rw [hu] at hv
   cases v <;> simp_all [Value.cells,Cell.ok]
  subst this
  exact ⟨.int k n,by simp [nY,bo,vr],by simp [cD,iv],O5 hwf⟩
 ·rename_i hu
  cases ht
  obtain ⟨n,hc,_⟩:=DataW.trod_bool hu h
  have:v=.bool n:=by
   rw [hu] at hv
   unfold Cell.okWide at hv
   rw [hu] at hv
   cases v <;> simp_all [Value.cells,Cell.ok]
  subst this
  exact ⟨.bool n,by simp [nY,bo,vr],by simp [cD,bv],trivial⟩
 ·cases ht
theorem NI {fu:Nat} {b:Nat} {spare:Nat->Bool} {held:Bool}:∀ {ts:List TypeId} {tys:List Ty} {vs:List Value} {ds:List (DataW H)} {ps:List MemPlace},argTys P fu ts=some tys->(∀ (j:Nat) t v,ts[j]? = some t->vs[j]? = some v->Value.okWide P W .any base t v)->DataW.TrodAll enc P W b spare held ts vs ds ps ->
 ∃ xs,bf W [] Nu.nil xs (vs.map nY)/\bl tys xs/\fT tys xs
 | [],tys,[],[],ps,ht,_,h=>by simp only [argTys,Option.some.injEq] at ht; subst ht; exact ⟨[],by simp [bf],by simp [bl],trivial⟩
 | t::ts,tys,v::vs,d::ds,ps,ht,hv,h=>by
   simp only [argTys] at ht
   split at ht
   ·rename_i x xs hx hxs
    cases ht
    obtain ⟨p,q,h1,h2,_⟩:=h
    obtain ⟨y,g1,g2,z1⟩:=aki hx (hv 0 t v rfl rfl) h1
    obtain ⟨ys,g3,g4,z2⟩:=NI hxs (fun j t v hj hvj=>hv (j+1) t v (by simpa using hj) (by simpa using hvj)) h2
    exact ⟨y::ys,by simp only [List.map_cons,bf]; exact ⟨_,_,rfl,g1,g3⟩,by simp only [bl,hdV,ab]; exact ⟨trivial,g2,g4⟩,z1,z2⟩
   ·cases ht
 | [],_,_::_,_,_,_,_,h=>by simp [DataW.TrodAll] at h
 | [],_,[],_::_,_,_,_,h=>by simp [DataW.TrodAll] at h
 | _::_,_,[],_,_,_,_,h=>by simp [DataW.TrodAll] at h
 | _::_,_,_::_,[],_,_,_,h=>by simp [DataW.TrodAll] at h
mutual
theorem v7:∀ (t:Ty) (v:V),cz t (cz t v)=cz t v
 | .int k,v=>by simp only [cz,iv]
 | .bool,v=>by simp only [cz,bv]
 | .str,v=>by simp only [cz,sv]
 | .agg ts,v=>by simp only [cz,dA]; rw [dI ts]
 | .sl ts,v=>by simp only [cz,au,bj]; congr 1; funext i; exact dI ts _
 | .fn f xs ys,v=>by simp only [cz,Gg,F2]; rw [dI xs,dI ys]
 | .pd ts,v=>by simp only [cz,DZ]; rw [dI ts]
theorem dI:∀ (ts:List Ty) (vs:List V),ao ts (ao ts vs)=ao ts vs
 | [],vs=>by simp only [ao]
 | t::ts,vs=>by simp only [ao,hdV,ab]; rw [v7 t,dI ts]
end
mutual
theorem L8:∀ (t:Ty) (v:V) (k:List V),qX t (cz t v) k=qK t (cz t v) k
 | .int k,v,_=>by simp only [cz,qX,qK,iv]
 | .bool,v,_=>by simp only [cz,qX,qK,bv]
 | .str,v,_=>by simp only [cz,qX,qK,sv]
 | .agg ts,v,k=>by simp only [cz,qX,qK,dA]; rw [yaf ts]
 | .sl ts,v,k=>by
   have:=v7 (.sl ts) v
   simp only [cz] at this ⊢
   simp only [qX,qK,cz,this]
 | .fn f xs ys,v,k=>by simp only [cz,qX,qK,Gg,F2]; rw [yaf ys,yaf xs]
 | .pd ts,v,k=>by simp only [cz,qX,qK,DZ]; rw [yaf ts]
theorem yaf:∀ (ts:List Ty) (vs:List V) (k:List V),jB ts (ao ts vs) k=jC ts (ao ts vs) k
 | [],vs,k=>by simp only [ao,jB,jC]
 | t::ts,vs,k=>by simp only [ao,jB,jC,hdV,ab]; rw [yaf ts,L8 t]
end
def lawC (tys:List Ty):aB:=bI tys (fT tys) fun _=>.bool true
theorem law_calls {f:FuncId} {fu b:Nat} {spare:Nat->Bool} {held:Bool} {tys:List Ty} {ts:List TypeId} {args:Array Value} {ds:List (DataW H)} {ps:List MemPlace} (hOk:(vP (lawC tys)).Ok P f) (ht:argTys P fu ts=some tys)
 (hv:∀ (j:Nat) t v,ts[j]? = some t->args[j]? = some v->Value.okWide P W .any base t v) (hA:DataW.TrodAll enc P W b spare held ts args.toList ds ps) :
 Calls P f args W fun e W'=>e=.returned (.bool true)/\Below W.heap.size W W':=by
 obtain ⟨xs,g1,g2,z2⟩:=NI (vs:=args.toList) ht (fun j t v hj hvj=>hv j t v hj (by simpa using hvj)) hA
 obtain ⟨_,hc⟩:=hOk.sound ⟨W,W,fun _=>False,[]⟩ (fun _=>none) [] W (args.toList.map nY) args.toList (fun r _=>r=.bool true) (aW.start W) (rI _)
  ⟨ao tys xs,_,_,_,eF tys xs _ g2 g1,rfl,⟨yaf tys xs [],by rw [(fE tys _ [] [] (yaf tys xs [])).1]; exact gZ tys _ (gZ tys xs z2)⟩,rfl,rfl⟩
 refine hc.mono fun e w' ⟨v,r,m',lh',he,hr,_,hh,hk⟩=>?_
 subst hk
 simp only [vrel] at hr
 subst hr
 exact ⟨he,hh.os,hh.tape,hh.output,hh.fsize,hh.old⟩
end
end Go.Dx
