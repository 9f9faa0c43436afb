/- Part 3 of a proof. No conditions. -/
import Derived.Test.YthpfocnocgnhjaaGreatDoorLt2
import Derived.KernelRfl
import Derived.OpenShut
import Derived.ChangeArms
import Derived.Below
import Derived.ChangeSame
import Derived.Carry
set_option maxRecDepth 100000
set_option linter.unusedVariables false
set_option linter.unusedSimpArgs false
namespace Go.Dx
open Go.Sx
section
variable {w0:World} {ν ν':Nu} {nV nS N:Nat} {h h':List O} {lh lh':List ao} {α:Type} {LP:eu} {Q:α->Prop} {e:bD} {sl:List ak} {ctx:Bool} {S:FuncId->bH}
theorem bA {v:V} {K:V->T α} (hs:bu LP (gV ctx v K) Q):∃ u,bu LP (K u) Q:=by
 unfold gV at hs
 split at hs
 ·simp only[bu]at hs;exact⟨_,hs.2⟩
 ·exact⟨_,hs⟩
theorem rK:∀ {xs:List fi} {K:List V->T α},bu LP (ub ctx e xs K) Q->∃ us,bu LP (K us) Q
 |[],K,hs=>⟨[],hs⟩
 | x::xs,K,hs=>by
   simp only [ub]at hs
   obtain ⟨u,h1⟩:=bA hs
   obtain ⟨us,h2⟩:=rK h1
   exact ⟨_,h2⟩
theorem iL {x:Option fi} {K:Option V->T α} (hs:bu LP (tZ ctx e x K) Q):∃ u,bu LP (K u) Q:=by
 cases x with
 |none=>exact⟨none,hs⟩
 |some x=>simp only[tZ]at hs;obtain⟨u,h1⟩:=bA hs;exact⟨_,h1⟩
theorem eL {p:Prop} [Decidable p] {x:T α} (hs:bu LP (xK ctx p x) Q):bu LP x Q:=by
 simp only [xK,bu]at hs;exact hs.2
theorem dR {x:Option V} {y d:Nat} {K:Nat->T α} (hs:bu LP (mj ctx x y d K) Q):∃ n,bu LP (K n) Q:=by
 unfold mj at hs
 split at hs
 ·exact⟨_,hs⟩
 ·exact⟨_,eL hs⟩
 ·exact hs.elim
theorem xo:∀ {ps:List (Nat×Nat×fi)} {z:List V} {K:List V->T α},bu LP (qg ctx e ps z K) Q->∃ cs,bu LP (K cs) Q
 |[],z,K,hs=>⟨_,hs⟩
 | (off,n,x)::ps,z,K,hs=>by
   simp only [qg]at hs
   obtain ⟨v,h2⟩:=bA hs
   cases hf:(v.flat&&Nat.beq (bI v.cells) n) with
   |false=>rw[hf]at h2;exact h2.elim
   | true =>
     rw [hf]at h2
     simp only [cond_true]at h2
     split at h2
     ·exact xo h2
     ·exact h2.elim
theorem Hp {v:V} {x:T α} (hs:bu LP (XP ctx h v x) Q):bu LP x Q:=by
 unfold XP at hs
 split at hs
 ·split at hs
  ·exact eL hs
  ·exact hs.elim
 ·exact hs
theorem Pj {op:BinOp} {k:IntKind} {x y:Int} {K:V->T α} (hs:bu LP (Ss ctx op k x y K) Q):∃ v,bu LP (K v) Q:=by
 cases op<;>simp only[Ss]at hs<;>first|exact hs.elim|exact⟨_,hs⟩|exact⟨_,eL hs⟩
theorem LR {op:BinOp} {x y:V} {K:V->T α} (hs:bu LP (B4 ctx op x y K) Q):∃ v,bu LP (K v) Q:=by
 unfold B4 at hs
 split at hs
 ·split at hs
  ·exact Pj hs
  ·exact hs.elim
 ·split at hs
  ·exact⟨_,hs⟩
  ·exact⟨_,hs⟩
  ·exact⟨_,eL hs⟩
  ·exact hs.elim
 ·exact hs.elim
theorem Kt {cf:CF α} {op:kj} {K:V->List O->T α} (hc0:ctx=false) (hst:kD op=true) (hs:bu LP (Bq cf ctx none op e h K) Q):∃ v,bu LP (K v h) Q:=by
 cases op<;>simp only[kD]at hst<;>simp only[Bq]at hs<;>try (cases hst;done)
 case mov x=>obtain⟨u,h1⟩:=bA hs;exact⟨_,h1⟩
 case pick c a b =>
  obtain ⟨u,h1⟩:=bA hs
  split at h1
  ·obtain⟨u,h1⟩:=bA h1;exact⟨_,h1⟩
  ·obtain⟨u,h1⟩:=bA h1;exact⟨_,h1⟩
  ·obtain ⟨u,h1⟩:=bA h1
   obtain ⟨u,h1⟩:=bA h1
   split at h1
   ·exact⟨_,h1⟩
   ·simp only[bu]at h1
    rcases Bool.eq_false_or_eq_true (b:=_) with hb|hb
    ·exact⟨_,h1.1 hb⟩
    ·exact⟨_,h1.2 hb⟩
  ·simp only[bu]at h1
   exact ⟨_,h1.2⟩
  ·exact h1.elim
 case agg z ps=>obtain⟨cs,h1⟩:=xo hs;exact⟨_,h1⟩
 case ld a =>
  obtain ⟨u,h1⟩:=bA hs
  have h1:=Hp h1
  split at h1
  ·exact⟨_,h1⟩
  ·exact h1.elim
 case lds n a =>
  obtain ⟨u,h1⟩:=bA hs
  have h1:=Hp h1
  split at h1
  ·exact⟨_,h1⟩
  ·exact h1.elim
 case nz x =>
  obtain ⟨u,h1⟩:=bA hs
  split at h1<;>first|exact⟨_,h1⟩|exact h1.elim
 case bin op x y =>
  obtain ⟨u,h1⟩:=bA hs
  obtain ⟨v,h2⟩:=bA h1
  exact LR h2
 case eqa neg n x y =>
  obtain ⟨u,h1⟩:=bA hs
  obtain ⟨v,h2⟩:=bA h1
  split at h2
  ·rename_i xs ys
   split at h2
   ·rename_i b hb
    cases hn:Nat.beq (bI xs) n with
    |false=>rw[hn]at h2;exact h2.elim
    |true=>rw[hn]at h2;exact⟨_,h2⟩
   ·exact h2.elim
  ·exact h2.elim
 case eqb neg x y =>
  obtain ⟨u,h1⟩:=bA hs
  obtain ⟨v,h2⟩:=bA h1
  split at h2
  ·exact⟨_,h2⟩
  ·exact h2.elim
 case un op x =>
  obtain ⟨u,h1⟩:=bA hs
  split at h1<;>first|exact⟨_,h1⟩|exact h1.elim
 case conv k x =>
  obtain ⟨u,h1⟩:=bA hs
  split at h1<;>first|exact⟨_,h1⟩|exact h1.elim
 case mkf f xs ys =>
  split at hs
  ·obtain⟨us,g1⟩:=rK hs
   obtain ⟨vs,g2⟩:=rK g1
   exact ⟨_,g2⟩
  ·exact hs.elim
 case fa off x =>
  obtain ⟨u,h1⟩:=bA hs
  split at h1
  ·exact⟨_,h1⟩
  ·exact⟨_,h1⟩
  ·split at h1
   ·exact⟨_,h1⟩
   ·exact h1.elim
  ·exact h1.elim
 case fld off n x =>
  obtain ⟨u,h1⟩:=bA hs
  split at h1
  ·split at h1
   ·split at h1
    ·exact⟨_,h1⟩
    ·exact h1.elim
   ·split at h1
    ·exact⟨_,h1⟩
    ·exact h1.elim
  ·exact h1.elim
 case iaA n esz x ix =>
  obtain ⟨u,h1⟩:=bA hs
  obtain ⟨v,h2⟩:=bA h1
  split at h2
  ·exact⟨_,eL h2⟩
  ·exact⟨_,eL h2⟩
  ·split at h2
   ·exact⟨_,eL h2⟩
   ·exact h2.elim
  ·exact h2.elim
 case iaS esz x ix =>
  obtain ⟨u,h1⟩:=bA hs
  obtain ⟨v,h2⟩:=bA h1
  split at h2
  ·rename_i n f _ i
   cases hn:Nat.beq (bI (f i.toNat)) esz with
   |false=>rw[hn]at h2;exact h2.elim
   |true=>rw[hn]at h2;exact⟨_,eL h2⟩
  ·exact⟨_,eL h2⟩
  ·split at h2
   ·rename_i ez n' f ty hk
    cases hn:Nat.beq ez esz with
    |false=>rw[hn]at h2;exact h2.elim
    |true=>rw[hn]at h2;exact⟨_,eL h2⟩
   ·exact h2.elim
  ·split at h2
   ·rename_i ez n' f ty hk
    cases hn:Nat.beq ez esz with
    |false=>rw[hn]at h2;exact h2.elim
    |true=>rw[hn]at h2;exact⟨_,eL h2⟩
   ·exact h2.elim
  ·exact⟨_,eL h2⟩
  ·exact h2.elim
 case ixA n esz sz x ix =>
  obtain ⟨u,h1⟩:=bA hs
  obtain ⟨v,h2⟩:=bA h1
  split at h2
  ·split at h2
   ·split at h2
    ·exact⟨_,eL h2⟩
    ·exact h2.elim
   ·split at h2
    ·exact⟨_,eL h2⟩
    ·exact h2.elim
  ·exact h2.elim
 case ixS x ix =>
  obtain ⟨u,h1⟩:=bA hs
  obtain ⟨v,h2⟩:=bA h1
  split at h2
  ·exact⟨_,eL h2⟩
  ·exact h2.elim
 case len x =>
  obtain ⟨u,h1⟩:=bA hs
  split at h1<;>first|exact⟨_,h1 fun e=>by rw[hc0]at e;cases e⟩|exact⟨_,h1⟩|exact h1.elim
 case lenT x =>
  obtain ⟨u,h1⟩:=bA hs
  split at h1<;>first|exact⟨_,h1⟩|exact h1.elim
 case lenA n=>exact⟨_,hs⟩
 case mm b x xs =>
  obtain ⟨u,h1⟩:=bA hs
  obtain ⟨us,h2⟩:=rK h1
  split at h2
  ·exact⟨_,h2⟩
  ·exact h2.elim
 case ext x i =>
  obtain ⟨u,h1⟩:=bA hs
  split at h1
  ·split at h1
   ·exact⟨_,h1⟩
   ·exact h1.elim
  ·exact h1.elim
 case slS esz x lo hi mx =>
  obtain ⟨u,h1⟩:=bA hs
  obtain ⟨lo',h2⟩:=iL h1
  obtain ⟨hi',h3⟩:=iL h2
  obtain ⟨mx',h4⟩:=iL h3
  split at h4
  ·rename_i n f
   split at h4
   ·cases hz:Nat.beq (bI (f 0)) esz with
    |false=>rw[hz]at h4;exact h4.elim
    | true =>
      rw [hz]at h4
      simp only [cond_true]at h4
      obtain ⟨_,h5⟩:=dR h4
      obtain ⟨_,h6⟩:=dR h5
      exact ⟨_,h6⟩
   ·exact h4.elim
  ·split at h4
   ·obtain⟨_,h5⟩:=dR h4
    exact ⟨_,h5⟩
   ·split at h4
    ·rename_i ez n' f ty hk
     cases hn:Nat.beq ez esz with
     |false=>rw[hn]at h4;exact h4.elim
     | true =>
       rw [hn]at h4
       simp only [cond_true]at h4
       obtain ⟨_,h5⟩:=dR h4
       obtain ⟨_,h6⟩:=dR h5
       exact ⟨_,h6⟩
    ·exact h4.elim
   ·exact h4.elim
  ·obtain⟨_,h5⟩:=dR h4
   obtain ⟨_,h6⟩:=dR h5
   obtain ⟨_,h7⟩:=dR h6
   exact ⟨_,h7⟩
  ·split at h4
   ·obtain⟨_,h5⟩:=dR h4
    obtain ⟨_,h6⟩:=dR h5
    exact ⟨_,h6⟩
   ·exact h4.elim
  ·exact h4.elim
 case isn neg x =>
  obtain ⟨u,h1⟩:=bA hs
  split at h1
  ·exact⟨_,h1⟩
  ·exact⟨_,h1⟩
  ·exact⟨_,h1.2⟩
  ·exact⟨_,h1.2⟩
  ·exact h1.elim
 case slA n esz x lo hi mx =>
  obtain ⟨u,h1⟩:=bA hs
  obtain ⟨lo',h2⟩:=iL h1
  obtain ⟨hi',h3⟩:=iL h2
  obtain ⟨mx',h4⟩:=iL h3
  split at h4
  ·obtain⟨_,h5⟩:=dR h4
   obtain ⟨_,h6⟩:=dR h5
   obtain ⟨_,h7⟩:=dR h6
   exact ⟨_,h7⟩
  ·exact h4.elim
 case slT x lo hi =>
  obtain ⟨u,h1⟩:=bA hs
  obtain ⟨lo',h2⟩:=iL h1
  obtain ⟨hi',h3⟩:=iL h2
  split at h3
  ·obtain⟨_,h5⟩:=dR h3
   obtain ⟨_,h6⟩:=dR h5
   exact ⟨_,h6⟩
  ·exact h3.elim
def nH (N:Nat):List gS->Bool
 |[]=>true
 |o::l=>(match o.dst with|some d=>Nat.blt d N|none=>true)&&nH N l
theorem ai0 {N:Nat} {o:gS} {l:List gS} (hd:nH N (o::l)=true):(∀ i,o.dst=some i->i<N)/\nH N l=true:=by
 simp only [nH,aaw]at hd
 refine ⟨fun i hi=>?_,hd.2⟩
 rw [hi]at hd
 exact aaF hd.1
theorem cE {l:List ak} {d:Nat} {a:ak} (hd:l.getD d .any=a) (ha:a≠.any):l.set d a=l:=by
 apply agE
 intro i
 rw [aaZ]
 split
 ·rename_i e;subst e
  split
  ·rename_i hlt
   simp [List.getD,ach hlt]at hd
   simp [hd,ach hlt]
  ·rename_i hlt
   simp [List.getD,abm (Nat.le_of_not_lt hlt)]at hd
   exact (ha hd.symm).elim
 ·rfl
theorem zW {b:Bool} {v:V} {a:ak} (hb:b=true) (hv:vr w0 lh ν v a):vr w0 lh ν (.gd b v) a:=by
 simp only [vr];exact⟨fun _=>hv,fun e=>by rw[hb]at e;cases e⟩
theorem H2 {b:Bool} {v:V} {l:List ak} (hb:b=false):vr w0 lh ν (.gd b v) (.tup l):=by
 simp only [vr];exact⟨(fun e=>by rw[hb]at e;cases e),fun _=>⟨l,rfl⟩⟩
theorem An:vr w0 lh ν (.tup []) (.tup []):=by simp only[vr,bg];exact⟨[],rfl,rfl⟩
theorem ud {b want:Bool} (e:b=want):gB b want=true:=by subst e;cases b<;>rfl
theorem xS {b want:Bool} (e:b=!want):gB b want=false:=by subst e;cases want<;>rfl
theorem ke {cf:CF α} (hcf:su w0 S LP false cf):∀ (ops:List gS) (e:bD) (h:List O) (ν:Nu) (sl:List ak) (lh:List ao) (K:bD->List O->T α) (KA:List ak->List ao->Prop),nH N ops=true ->
 fL w0 ν N e sl->HR w0 ν nV nS h lh->bu LP (fR cf ops e h K) Q->(∀ e' h' ν' sl' lh',ν.sub ν'->fL w0 ν' N e' sl'->HR w0 ν' nV nS h' lh'->bu LP (K e' h') Q->KA sl' lh')->eE w0 S ops sl lh KA
 |[],e,h,ν,sl,lh,K,KA,hd,hsl,hh,hs,hK=>hK e h ν sl lh (Nu.sub_refl ν) hsl hh hs
 | o :: rest,e,h,ν,sl,lh,K,KA,hd,hsl,hh,hs,hK=>by
   obtain ⟨hd1,hd2⟩:=ai0 hd
   have go:∀ {e0:bD},fL w0 ν N e0 sl->bu LP (Bq cf true none o.op e0 h fun v h=>fR cf rest (dQ e0 o.dst v) h K) Q->cQ w0 S sl lh none (fun v lh'=>eE w0 S rest (eb sl o.dst v) lh' KA) o.op:=by
    intro e0 hsl0 hs
    refine A3 (md:=false) (wn:=[]) hsl0 hh rfl hcf (.inl ⟨rfl,rfl⟩) (fun e=>by cases e) hs fun v h' ν' a lh' _ _ g1 g2 g3 g4=>?_
    exact ke hcf rest _ h' ν' _ lh' K KA hd2 ((hsl0.mono g1).put o.dst hd1 g3) g2 g4 fun e' h' ν'' sl' lh' k1=>hK e' h' ν'' sl' lh' (Nu.sub_trans g1 k1)
   have skip:∀ {e0:bD},fL w0 ν N e0 sl->bu LP (fR cf rest (dQ e0 o.dst (.tup [])) h K) Q->eE w0 S rest (eb sl o.dst (.tup [])) lh KA:=by
    intro e0 hsl0 hs
    exact ke hcf rest _ h ν _ lh K KA hd2 (hsl0.put o.dst hd1 An) hh hs hK
   have goS:∀ {b:Bool},kD o.op=true->b=true->bu LP (Bq cf b none o.op e h fun v _=>fR cf rest (dQ e o.dst (.gd b v)) h K) Q->cQ w0 S sl lh none (fun v lh'=>eE w0 S rest (eb sl o.dst v) lh' KA) o.op:=by
    intro b hst hb hs
    refine A3 (md:=false) (wn:=[]) hsl hh hb hcf (.inl ⟨rfl,rfl⟩) (fun e=>by cases e) hs fun v h' ν' a lh' _ q g1 g2 g3 g4=>?_
    obtain ⟨rfl,rfl,rfl⟩:=q hst
    exact ke hcf rest _ _ _ _ _ K KA hd2 (hsl.put o.dst hd1 (zW hb g3)) g2 g4 hK
   have skipS:∀ {b:Bool},kD o.op=true->b=false->bu LP (Bq cf b none o.op e h fun v _=>fR cf rest (dQ e o.dst (.gd b v)) h K) Q->eE w0 S rest (eb sl o.dst (.tup [])) lh KA:=by
    intro b hst hb hs
    obtain ⟨v,g⟩:=Kt hb hst hs
    exact ke hcf rest _ h ν _ lh K KA hd2 (hsl.put o.dst hd1 (H2 hb)) hh g hK
   simp only [fR]at hs
   simp only [eE]
   split at hs
   ·rename_i hg;rw[hg];exact go hsl hs
   ·rename_i d want hg
    rw [hg]
    dsimp only
    have hat:=hsl.at' d
    split at hs
    ·rename_i b hb
     rw [hb]at hat
     simp only [vr]at hat
     rw [hat]
     dsimp only
     split at hs
     ·rename_i he _
      subst he
      exact ⟨fun _=>by rw[cE hat (by simp)];exact go hsl hs,fun e=>by cases b<;>cases e⟩
     ·rename_i he _
      exact ⟨fun e=>(he e).elim,fun e=>by rw[← e,cE hat (by simp)];exact skip hsl hs⟩
    ·rename_i l hb
     rw [hb]at hat
     simp only [vr]at hat
     obtain ⟨az,hat,_⟩:=hat
     rw [hat]
     dsimp only
     rw [cE hat (by simp)]
     exact skip hsl hs
    ·rename_i k n hb
     rw [hb]at hat
     simp only [vr]at hat
     rw [hat]
     exact skip hsl hs
    ·rename_i b hb
     rw [hb]at hat
     simp only [vr]at hat
     rw [hat]
     dsimp only
     split at hs
     ·rename_i hst
      exact ⟨fun e1=>by rw[← e1,cE hat (by simp)];exact goS hst (ud e1) hs,fun e1=>by rw[← e1,cE hat (by simp)];exact skipS hst (xS e1) hs⟩
     ·simp only [bu]at hs
      refine ⟨fun e1=>?_,fun e1=>?_⟩
      ·rw[← e1,cE hat (by simp)]
       exact go (hsl.know (by simp only[vr];rw[hat,e1])) (hs.1 (ud e1))
      ·rw[← e1,cE hat (by simp)]
       exact skip (hsl.know (by simp only[vr];rw[hat,e1])) (hs.2 (xS e1))
    ·rename_i c v hb
     rw [hb]at hat
     simp only [vr]at hat
     split at hs
     ·split at hs
      ·have hl:∃ l,sl.getD d .any=.tup l:=by
        cases c with
        |false=>exact hat.2 rfl
        |true=>have:=hat.1 rfl;simp only[vr]at this;obtain⟨l,e,_⟩:=this;exact⟨l,e⟩
       obtain ⟨l,hl⟩:=hl
       rw [hl]
       dsimp only
       rw [cE hl (by simp)]
       exact skip hsl hs
      ·exact hs.elim
     ·rename_i b hbv
      cases c with
      | false =>
        obtain ⟨l,hl⟩:=hat.2 rfl
        rw [hl]
        dsimp only
        rw [cE hl (by simp)]
        split at hs
        ·rename_i hst
         exact skipS hst rfl hs
        ·simp only[bu]at hs
         exact skip hsl (hs.2 rfl)
      | true =>
        have hat:=nF (hat.1 rfl) hbv
        rw [hat]
        dsimp only
        split at hs
        ·rename_i hst
         exact ⟨fun e1=>by rw[← e1,cE hat (by simp)];exact goS hst (by rw[ud e1];rfl) hs,fun e1=>by rw[← e1,cE hat (by simp)];exact skipS hst (by rw[xS e1];rfl) hs⟩
        ·simp only [bu]at hs
         refine ⟨fun e1=>?_,fun e1=>?_⟩
         ·rw[← e1,cE hat (by simp)]
          exact go (hsl.know (by simp only[vr];rw[hat,e1])) (hs.1 (by rw[ud e1];rfl))
         ·rw[← e1,cE hat (by simp)]
          exact skip hsl (hs.2 (by rw[xS e1];rfl))
    ·exact hs.elim
end
theorem iQ {k:Nat}:∀ {l:List Nat},xm k l=true↔k∈l
 |[]=>by simp[xm]
 | x :: l=>by
   simp only [xm,ahG]
   by_cases h:k=x
   ·subst h;simp
   ·have:Nat.beq k x=false:=by
     cases hb:Nat.beq k x with
     |false=>rfl
     |true=>exact(h (aax hb)).elim
    rw [this,cond_false,iQ];simp[h]
theorem wm:∀ {l W:List Nat},F9 l W=true↔∀ k,k∈l->k∈W
 |[],W=>by simp[F9]
 |x::l,W=>by simp only[F9,aaw,iQ,wm,ahG,arw]
theorem vb:∀ {l W:List Nat},LM l W=true↔∀ k,k∈l->k∉W
 |[],W=>by simp[LM]
 | x::l,W=>by
   simp only [LM,aaw,vb,ahG,arw]
   refine and_congr ?_ Iff.rfl
   cases hm:xm x W with
   |false=>simp;intro h;rw[iQ.2 h]at hm;cases hm
   |true=>simp;exact iQ.1 hm
theorem lN {Ws:List (List Nat)} {k:Nat}:∀ {un:List Nat},k∈m9 Ws un↔∃ u,u∈un/\k∈dp Ws u
 |[]=>by simp[m9]
 | u::un=>by
   simp only [m9,kO,aqK,lN,ahG]
   constructor
   ·rintro (h|⟨v,h1,h2⟩)
    ·exact⟨u,.inl rfl,h⟩
    ·exact⟨v,.inr h1,h2⟩
   ·rintro⟨v,rfl|h1,h2⟩
    ·exact .inl h2
    ·exact .inr ⟨v,h1,h2⟩
theorem rP (X:List Nat):∀ (h:List O) (b k:Nat),(iU X h b)[k]? = (h[k]?).map fun o=>if b+k∈X then O.hid else o
 |[],b,k=>by simp[iU]
 | o::h,b,0=>by
   simp only [iU,acM,abW,ajZ]
   cases hm:xm b X with
   |false=>rw[cond_false,aaT (fun h=>by rw[iQ.2 h]at hm;cases hm)]
   |true=>rw[cond_true,aby (iQ.1 hm)]
 | o::h,b,k+1=>by
   simp only [iU,acx]
   rw [rP X h (b+1) k,show b+1+k=b+(k+1) by omega]
theorem yF (X:List Nat) (h:List O) (k:Nat):(jh X h)[k]? = (h[k]?).map fun o=>if k∈X then O.hid else o:=by
 unfold jh
 split
 ·cases h[k]? <;> simp
 ·rw[rP];simp
theorem yD (X:List Nat) (h:List O):(jh X h).length=h.length:=by
 have gen:∀ (h:List O) (b:Nat),(iU X h b).length=h.length:=fun h=>by
  induction h with
  |nil=>intro b;rfl
  |cons o h ih=>intro b;simp[iU,ih]
 unfold jh;split
 ·rfl
 ·exact gen h 0
theorem tF (W:List Nat) (l:List O):∀ (h:List O) (b k:Nat),(kP W l h b)[k]? = (h[k]?).map fun o=>if b+k∈W then l.getD (b+k) o else o
 |[],b,k=>by simp[kP]
 | o :: h,b,0=>by
   simp only [kP,acM,abW,ajZ]
   cases hm:xm b W with
   |false=>rw[cond_false,aaT (fun h=>by rw[iQ.2 h]at hm;cases hm)]
   | true =>
     rw [cond_true,aby (iQ.1 hm),be]
     simp only [List.getD]
     cases l[b]? <;> rfl
 | o::h,b,k+1=>by
   simp only [kP,acx]
   rw [tF W l h (b+1) k,show b+1+k=b+(k+1) by omega]
theorem uW (W:List Nat) (h l:List O) (k:Nat):(Gq W h l)[k]? = (h[k]?).map fun o=>if k∈W then l.getD k o else o:=by
 unfold Gq;rw[tF];simp
theorem RE (W:List Nat) (h l:List O):(Gq W h l).length=h.length:=by
 have gen:∀ (h:List O) (b:Nat),(kP W l h b).length=h.length:=fun h=>by
  induction h with
  |nil=>intro b;rfl
  |cons o h ih=>intro b;simp[kP,ih]
 exact gen h 0
theorem w8:∀ (h:List O) (k:Nat),(undead h)[k]? = (h[k]?).map fun o=>match o with|.dead=>O.hid|o=>o
 |[],k=>by simp[undead]
 |o::h,0=>by cases o<;>rfl
 |o::h,k+1=>by simp only[undead,acx];exact w8 h k
theorem pV:∀ (h:List O),(undead h).length=h.length
 |[]=>rfl
 |o::h=>by simp[undead,pV h]
theorem o6:∀ (n k:Nat),(deads n)[k]? = if k<n then some O.dead else none
 |0,k=>by simp[deads]
 |n+1,0=>by simp[deads]
 |n+1,k+1=>by simp[deads,o6 n k]
theorem oO (X:List Nat) (lh:List ao) (k:Nat):(hide X lh)[k]? = (lh[k]?).map fun o=>if k∈X then ao.hid else o:=by
 unfold hide;rw[apd]
theorem ve (W:List Nat) (lh l:List ao) (k:Nat):(mix W lh l)[k]? = (lh[k]?).map fun o=>if k∈W then l.getD k o else o:=by
 unfold mix;rw[apd]
section
variable {w0:World} {ν ν' ν0:Nu} {nV nS N:Nat} {h h' h0:List O} {lh lh' lh0:List ao} {α:Type} {LP:eu} {Q:α->Prop} {e:bD} {sl:List ak} {ctx:Bool} {S:FuncId->bH}
theorem HR.undead {a b:Nat} (hh:HR w0 ν a b h lh) (nV nS:Nat):HR w0 ν nV nS (undead h) lh:=by
 have hl:∀ k (o:O),(Dx.undead h)[k]? = some o->o≠.hid->h[k]? = some o/\o≠.dead:=fun k o hk ho=>by
  rw [w8]at hk
  cases hg:h[k]? with
  |none=>rw[hg]at hk;cases hk
  | some o' =>
    rw [hg]at hk
    simp only [abW,aaB]at hk
    cases o'<;>simp at hk<;>subst hk<;>first|exact(ho rfl).elim|exact⟨rfl,by simp⟩
 have hlive:∀ k,ba (Dx.undead h) k->ba h k:=fun k hk=>by
  rcases ft hk with ⟨_,_,g⟩|⟨_,_,_,_,g⟩
  ·exact dM (hl k _ g (by simp)).1
  ·exact fY (hl k _ g (by simp)).1
 refine ⟨fun k o hk=>?_,fun k k' x x' h1 h2=>hh.inj k k' x x' (hlive k h1) (hlive k' h2),fun k hk=>hh.dom k (by rw[pV]at hk;exact hk),hh.rng,hh.zl,fun k x hk hx=>hh.zn k x (hlive k hk) hx⟩
 by_cases ho:o=.hid
 ·subst ho;trivial
 ·obtain⟨g1,g2⟩:=hl k o hk ho
  have:=hh.blk k o g1
  cases o with
  |dead=>exact(g2 rfl).elim
  |hid=>trivial
  |cells cs ty=>exact this
  |gl esz n f ty=>exact this
theorem HR.deads (hh:HR w0 ν nV nS h lh) (hV:nV=h.length) (hS:nS=lh.length) (m:Nat):HR w0 ν nV nS (h++deads m) (lh++List.replicate m .dead):=by
 subst hV hS
 have hl:∀ k,ba (h++Dx.deads m) k->ba h k:=fun k hk=>by
  unfold ba d9 at *
  rw [be]at *
  rw [acF]at hk
  split at hk
  ·rename_i q hq
   split at hq
   ·rw[hq]
   ·rw[o6]at hq;split at hq<;>cases hq
  ·rename_i q hq
   split at hq
   ·rw[hq]
   ·rw[o6]at hq;split at hq<;>cases hq
  ·cases hk
 refine ⟨fun k o hk=>?_,fun k k' x x' h1 h2=>hh.inj k k' x x' (hl k h1) (hl k' h2),fun k hk=>hh.dom k (by simp at hk;omega),fun k x hx=>by have:=hh.rng k x hx;simp;omega,fun j az ty hj=>by have q:=hh.zl j az ty hj;rw[aaQ (List.getElem?_eq_some_iff.1 q).1];exact q,fun k x hk hx=>hh.zn k x (hl k hk) hx⟩
 rw [acF]at hk
 split at hk
 ·rename_i hlt
  have:=hh.blk k o hk
  cases o with
  |dead=>obtain⟨g1,g2,g3⟩:=this;omega
  |hid=>trivial
  |cells cs ty=>exact dw (Nu.sub_refl ν) (by simp) (fun b az ty' q _=>by rw[aaQ (List.getElem?_eq_some_iff.1 q).1];exact q) this
  |gl esz n f ty=>exact dw (Nu.sub_refl ν) (by simp) (fun b az ty' q _=>by rw[aaQ (List.getElem?_eq_some_iff.1 q).1];exact q) this
 ·rename_i hge
  rw [o6]at hk
  split at hk
  ·rename_i hlt
   cases hk
   refine ⟨hh.dom k (by omega),by omega,?_⟩
   rw [abv (by omega),List.getElem?_replicate,aby (by omega)]
  ·cases hk
def rT (ν0:Nu) (nV nS k:Nat):Option Nat:=if k<nV then(match ν0 k with|some (some x)=>some x.1|_=>none) else some (nS+(k-nV))
structure WR (ν0:Nu) (nV nS:Nat) (h0:List O) (Ws WsS:List (List Nat)):Prop where
 rel:∀ i j,j∈wOf WsS i↔∃ k,k∈dp Ws i/\rT ν0 nV nS k=some j
 live:∀ i k,k∈dp Ws i->k<nV->ba h0 k
structure DI (w0:World) (ν0:Nu) (h0:List O) (nV nS:Nat) (Ws:List (List Nat)) (rk:Nat->Bool) (cur:Nat) (ν:Nu) (h:List O) (lh:List ao):Prop where
 hr:HR w0 ν nV nS h lh
 old:∀ k,k<nV->ν k=ν0 k
 zc:ν.z=ν0.z
 liv:∀ k,k<nV->ba h k->ba h0 k
 nw:∀ k x,nV<=k->ν k=some (some x)->x.1=nS+(k-nV)∨∃ i k0,rk i=true/\i<cur/\k∈dp Ws i/\k0∈dp Ws i/\rT ν0 nV nS k0=some x.1
def FC (Ws:List (List Nat)) (rk:Nat->Bool) (cur:Nat) (Y:List Nat):Prop:=∀ i,i<cur->rk i=true->(∀ k,k∈dp Ws i->k∉Y)∨∀ k,k∈dp Ws i->k∈Y
theorem uF (H0:HR w0 ν0 nV nS h0 lh0) (hS:nS=lh0.length) {k k' j:Nat} (hk:k<nV->ba h0 k) (hk':k'<nV->ba h0 k') (h1:rT ν0 nV nS k=some j) (h2:rT ν0 nV nS k'=some j):k=k':=by
 unfold rT at h1 h2
 split at h1
 ·rename_i l1
  split at h1
  ·rename_i x hx
   have e1:x.1=j:=by simpa using h1
   split at h2
   ·rename_i l2
    split at h2
    ·rename_i x' hx'
     have e2:x'.1=j:=by simpa using h2
     exact H0.inj k k' x x' (hk l1) (hk' l2) hx hx' (by rw[e1,e2])
    ·cases h2
   ·have e2:nS+(k'-nV)=j:=by simpa using h2
    have:=H0.rng k x hx
    omega
  ·cases h1
 ·rename_i l1
  have e1:nS+(k-nV)=j:=by simpa using h1
  split at h2
  ·split at h2
   ·rename_i x' hx'
    have e2:x'.1=j:=by simpa using h2
    have:=H0.rng k' x' hx'
    omega
   ·cases h2
  ·have e2:nS+(k'-nV)=j:=by simpa using h2
   omega
section
variable {Ws WsS:List (List Nat)} {rk:Nat->Bool} {cur:Nat}
theorem DI.nmu_of (hd:DI w0 ν0 h0 nV nS Ws rk cur ν h lh) {k:Nat} {x:Nat×Nat×Nat} (hx:ν k=some (some x)):rT ν0 nV nS k=some x.1∨∃ i k0,rk i=true/\i<cur/\k∈dp Ws i/\k0∈dp Ws i/\rT ν0 nV nS k0=some x.1:=by
 by_cases hk:k<nV
 ·left;unfold rT;rw[aby hk,← hd.old k hk,hx]
 ·rcases hd.nw k x (by omega) hx with h1|h1
  ·left;unfold rT;rw[aaT hk,h1]
  ·exact .inr h1
theorem DI.into (hd:DI w0 ν0 h0 nV nS Ws rk cur ν h lh) (H0:HR w0 ν0 nV nS h0 lh0) (hS:nS=lh0.length) (hw:WR ν0 nV nS h0 Ws WsS) {Y:List Nat} (hY:FC Ws rk cur Y) (hYw:∀ k,k∈Y->∃ u,k∈dp Ws u)
 {k k':Nat} {x:Nat×Nat×Nat} (hl:ba h k) (hx:ν k=some (some x)) (hk':k'∈Y) (hm:rT ν0 nV nS k'=some x.1):k∈Y:=by
 obtain ⟨u,hu⟩:=hYw k' hk'
 rcases hd.nmu_of hx with h1|⟨i,k0,g1,g2,g3,g4,g5⟩
 ·have:=uF H0 hS (fun hlt=>hd.liv k hlt hl) (fun hlt=>hw.live u k' hu hlt) h1 hm
  rw [this];exact hk'
 ·have:=uF H0 hS (fun hlt=>hw.live i k0 g4 hlt) (fun hlt=>hw.live u k' hu hlt) g5 hm
  subst this
  rcases hY i g2 g1 with q|q
  ·exact absurd hk' (q k0 g4)
  ·exact q k g3
theorem DI.outof (hd:DI w0 ν0 h0 nV nS Ws rk cur ν h lh) {Y:List Nat} (hY:FC Ws rk cur Y) {k:Nat} {x:Nat×Nat×Nat} (hx:ν k=some (some x)) (hk:k∈Y):∃ k',k'∈Y/\rT ν0 nV nS k'=some x.1:=by
 rcases hd.nmu_of hx with h1|⟨i,k0,g1,g2,g3,g4,g5⟩
 ·exact⟨k,hk,h1⟩
 ·rcases hY i g2 g1 with q|q
  ·exact absurd hk (q k g3)
  ·exact⟨k0,q k0 g4,g5⟩
theorem B2 (H0:HR w0 ν0 nV nS h0 lh0) (hS:nS=lh0.length) {k k':Nat} (hk:nV<=k) (hm:rT ν0 nV nS k'=some (nS+(k-nV))):k'=k:=by
 unfold rT at hm
 split at hm
 ·split at hm
  ·rename_i x hx
   have:=H0.rng k' x hx
   have e1:x.1=nS+(k-nV):=by simpa using hm
   omega
  ·cases hm
 ·have e1:nS+(k'-nV)=nS+(k-nV):=by simpa using hm
  omega
theorem acY (H0:HR w0 ν0 nV nS h0 lh0) (hS:nS=lh0.length) {k j:Nat} (hk:k<nV->ba h0 k) (h1:rT ν0 nV nS k=some j):isCells ν0.z[j]? = false:=by
 unfold rT at h1
 split at h1
 ·rename_i l1
  split at h1
  ·rename_i x hx
   have e1:x.1=j:=by simpa using h1
   rw [← e1];exact H0.zn k x (hk l1) hx
  ·cases h1
 ·have e1:nS+(k-nV)=j:=by simpa using h1
  refine aas H0.zl ?_
  rw [abm (by omega)];rfl
theorem DI.hide (hd:DI w0 ν0 h0 nV nS Ws rk cur ν h lh) (H0:HR w0 ν0 nV nS h0 lh0) (hS:nS=lh0.length) (hw:WR ν0 nV nS h0 Ws WsS) {X XS:List Nat} (hX:FC Ws rk cur X) (hXw:∀ k,k∈X->∃ u,k∈dp Ws u)
 (hXS:∀ j,j∈XS↔∃ k,k∈X/\rT ν0 nV nS k=some j):HR w0 ν nV nS (jh X h) (Sx.hide XS lh):=by
 have hl:∀ k (o:O),(jh X h)[k]? = some o->o≠.hid->h[k]? = some o/\k∉X:=fun k o hk ho=>by
  rw [yF]at hk
  cases hg:h[k]? with
  |none=>rw[hg]at hk;cases hk
  | some o' =>
    rw [hg]at hk
    simp only [abW,aaB]at hk
    split at hk
    ·exact(ho hk.symm).elim
    ·rename_i hn;subst hk;exact⟨rfl,hn⟩
 have hlive:∀ k,ba (jh X h) k->ba h k:=fun k hk=>by
  rcases ft hk with ⟨_,_,g⟩|⟨_,_,_,_,g⟩
  ·exact dM (hl k _ g (by simp)).1
  ·exact fY (hl k _ g (by simp)).1
 refine ⟨fun k o hk=>?_,fun k k' x x' h1 h2=>hd.hr.inj k k' x x' (hlive k h1) (hlive k' h2),fun k hk=>hd.hr.dom k (by rw[yD]at hk;exact hk),fun k x hx=>by have:=hd.hr.rng k x hx;unfold Sx.hide;simpa using this,fun j az ty hj=>?_,fun k x hk hx=>hd.hr.zn k x (hlive k hk) hx⟩
 case refine_2 =>
  rw [oO,hd.hr.zl j az ty hj]
  simp only [abW]
  rw [aaT]
  intro hm
  obtain ⟨k',e1,e2⟩:=(hXS _).1 hm
  obtain ⟨u,hu⟩:=hXw k' e1
  have:=acY H0 hS (fun hlt=>hw.live u k' hu hlt) e2
  rw [← hd.zc]at this
  exact lE this _ _ hj
 by_cases ho:o=.hid
 ·subst ho;trivial
 ·obtain ⟨g1,g2⟩:=hl k o hk ho
  have hb:=hd.hr.blk k o g1
  by_cases hdd:o=.dead
  ·subst hdd
   obtain ⟨q1,q2,q3⟩:=hb
   refine ⟨q1,q2,?_⟩
   rw [oO,q3]
   simp only [abW]
   rw [aaT]
   intro hm
   obtain ⟨k',e1,e2⟩:=(hXS _).1 hm
   rw [B2 H0 hS q2 e2]at e1
   exact g2 e1
  ·have hlk:ba h k:=by
    unfold ba d9;rw[be,g1]
    cases o<;>first|rfl|exact(hdd rfl).elim|exact(ho rfl).elim
   refine dw (Nu.sub_refl ν) hdd (fun b az ty q1 q2=>?_) hb
   obtain ⟨c,ez,q3⟩:=q2
   rw [oO,q1]
   simp only [abW]
   rw [aaT]
   intro hm
   obtain ⟨k',e1,e2⟩:=(hXS _).1 hm
   exact g2 (hd.into H0 hS hw hX hXw hlk q3 e1 e2)
theorem DI.mix (hd : DI w0 ν0 h0 nV nS Ws rk cur ν h lh) (H0:HR w0 ν0 nV nS h0 lh0) (hS:nS=lh0.length) (hw:WR ν0 nV nS h0 Ws WsS) {X XS:List Nat} (hX:FC Ws rk cur X)
 (hW:FC Ws rk cur (dp Ws cur)) (hdis:∀ k,k∈dp Ws cur->k∉X) (hhid:HR w0 ν nV nS (jh X h) (Sx.hide XS lh)) {pl plA:Option Nat} (hpl:∀ p,pl=some p->p∈dp Ws cur/\nV<=p/\plA=some (nS+(p-nV))/\rk cur=true) (hpl0:pl=none->plA=none)
 {h1:List O} {l1:List ao} (hsub:ν.sub ν') (hr:HR w0 ν' nV nS h1 l1) (hm:ya ν ν' (dp Ws cur) pl plA (jh X h) h1 (Sx.hide XS lh) l1) :
 jA (wOf WsS cur) l1 (Sx.hide XS lh)/\DI w0 ν0 h0 nV nS Ws rk (cur+1) ν' (Gq (dp Ws cur) h h1) (mix (wOf WsS cur) lh l1):=by
 have hlenl:l1.length=lh.length:=by rw[hm.len];simp[Sx.hide]
 have hlenh:h1.length=h.length:=by rw[hm.hlen,yD]
 have hplS:∀ j,plA=some j->j∈wOf WsS cur:=fun j hj=>by
  cases hp:pl with
  |none=>rw[hpl0 hp]at hj;cases hj
  | some p =>
    obtain ⟨q1,q2,q3,_⟩:=hpl p hp
    rw [q3]at hj;cases hj
    exact (hw.rel cur _).2 ⟨p,q1,by unfold rT;rw[aaT (by omega)]⟩
 have hWS:∀ k x,k∈dp Ws cur->ν k=some (some x)->x.1∈wOf WsS cur:=fun k x hk hx=>by
  obtain ⟨k',e1,e2⟩:=hd.outof hW hx hk
  exact (hw.rel cur _).2 ⟨k',e1,e2⟩
 have hold:∀ k,k<nV->ν' k=ν0 k:=fun k hk=>by
  cases hv:ν k with
  |some x=>rw[hsub.1 k x hv,← hd.old k hk,hv]
  | none =>
    rw [← hd.old k hk,hv]
    cases hv':ν' k with
    |none=>rfl
    | some x =>
      rcases hm.nw k x hv' with q|⟨q,_⟩
      ·rw[hv]at q;cases q
      ·have:=(hpl k q).2.1;omega
 have hnw : ∀ k x, nV <= k -> ν' k=some (some x)->x.1=nS+(k-nV)∨∃ i k0,rk i=true/\i<cur+1/\k∈dp Ws i/\k0∈dp Ws i/\rT ν0 nV nS k0=some x.1:=fun k x hk hx=>by
  rcases hm.nw k _ hx with q|⟨q1,q2⟩
  ·rcases hd.nw k x hk q with g|⟨i,k0,g1,g2,g3⟩
   ·exact .inl g
   ·exact .inr ⟨i,k0,g1,by omega,g3⟩
  ·obtain ⟨p1, p2, p3, p4⟩ := hpl k q1
   rcases q2 x rfl with g|⟨k0,z,g1,g2,g3⟩
   ·rw [p3] at g; exact .inl (by have:nS+(k-nV)=x.1:=by simpa using g
                                 omega)
   ·obtain⟨k',e1,e2⟩:=hd.outof hW g2 g1
    exact .inr ⟨cur,k',p4,by omega,p1,e1,by rw[← g3];exact e2⟩
 have hsame:∀ j,j∉wOf WsS cur->l1[j]? = (Sx.hide XS lh)[j]? := fun j hj=>hm.chg j (fun e=>hj (hplS j e)) (fun k x hk hx e=>hj (by rw[← e];exact hWS k x hk hx))
 refine ⟨⟨hm.len,hsame⟩,?_⟩
 -- which blocks are live
 have hlive:∀ k,ba (Gq (dp Ws cur) h h1) k->(k∉dp Ws cur/\ba h k)∨(k∈dp Ws cur/\ba h1 k):=fun k hk=>by
  by_cases hkw:k∈dp Ws cur
  ·right
   refine ⟨hkw,?_⟩
   unfold ba d9 at *
   rw [be]at *
   rw [uW]at hk
   cases hg:h[k]? with
   |none=>rw[hg]at hk;cases hk
   | some o =>
     rw [hg]at hk
     simp only [abW,aby hkw,List.getD]at hk
     have hlt:k<h1.length:=by rw[hlenh];exact(List.getElem?_eq_some_iff.1 hg).1
     rw [ach hlt]at hk ⊢
     exact hk
  ·left
   refine ⟨hkw,?_⟩
   unfold ba d9 at *
   rw [be]at *
   rw [uW]at hk
   cases hg:h[k]? with
   |none=>rw[hg]at hk;cases hk
   |some o=>rw[hg]at hk;simp only[abW,aaT hkw]at hk;exact hk
 have hget:∀ k o,(Gq (dp Ws cur) h h1)[k]? = some o->(k∉dp Ws cur/\h[k]? = some o)∨(k∈dp Ws cur/\h1[k]? = some o):=fun k o hk=>by
  rw [uW]at hk
  cases hg:h[k]? with
  |none=>rw[hg]at hk;cases hk
  | some o' =>
    rw [hg]at hk
    simp only [abW]at hk
    by_cases hkw:k∈dp Ws cur
    ·right
     refine ⟨hkw,?_⟩
     have hlt:k<h1.length:=by rw[hlenh];exact(List.getElem?_eq_some_iff.1 hg).1
     rw [aby hkw]at hk
     simp only [List.getD,ach hlt]at hk ⊢
     exact hk
    ·left;rw[aaT hkw]at hk;exact⟨hkw,hk⟩
 have hmixin:∀ b,b∈wOf WsS cur->(Sx.mix (wOf WsS cur) lh l1)[b]? = l1[b]? := fun b hb=>by
  rw [ve]
  cases hg:lh[b]? with
  | none =>
    have:=List.getElem?_eq_none_iff.1 hg
    rw [abm (by omega)];rfl
  | some o =>
    have hlt:b<l1.length:=by rw[hlenl];exact(List.getElem?_eq_some_iff.1 hg).1
    simp only [abW,aby hb,List.getD,ach hlt];rfl
 have hmixout:∀ b,b∉wOf WsS cur->(Sx.mix (wOf WsS cur) lh l1)[b]? = lh[b]? := fun b hb=>by
  rw [ve];cases hg:lh[b]? <;> simp[hb]
 -- a live block of ours outside of the set has a name outside of it
 have hout:∀ k x,k∉dp Ws cur->ba h k->ν k=some (some x)->x.1∉wOf WsS cur:=fun k x hk hl hx hmem=>by
  obtain ⟨k',e1,e2⟩:=(hw.rel cur _).1 hmem
  exact hk (hd.into H0 hS hw hW (fun k hk=>⟨cur,hk⟩) hl hx e1 e2)
 have hin:∀ k x,k∈dp Ws cur->ν' k=some (some x)->x.1∈wOf WsS cur:=fun k x hk hx=>by
  rcases hm.nw k _ hx with q|⟨q1,q2⟩
  ·exact hWS k x hk q
  ·rcases q2 x rfl with g|⟨k0,z,g1,g2,g3⟩
   ·exact hplS _ g
   ·rw[← g3];exact hWS k0 z g1 g2
 have hν:∀ k,k∉dp Ws cur->ν' k=ν k:=fun k hk=>by
  cases hv:ν k with
  |some x=>exact hsub.1 k x hv
  | none =>
    cases hv':ν' k with
    |none=>rfl
    | some x =>
      rcases hm.nw k x hv' with q|⟨q,_⟩
      ·rw[hv]at q;cases q
      ·exact absurd (hpl k q).1 hk
 refine ⟨⟨fun k o hk=>?_,fun k k' x x' g1 g2 hx hx' he=>?_,fun k hk=>?_,fun k x hx=>?_,fun j az ty hj=>?_,fun k x hl hx=>?_⟩,hold,hm.zz.trans hd.zc,fun k hk hl=>?_,hnw⟩
 ·rcases hget k o hk with ⟨q1,q2⟩|⟨q1,q2⟩
  ·have hb:=hd.hr.blk k o q2
   by_cases ho:o=.hid
   ·subst ho;trivial
   ·by_cases hdd:o=.dead
    ·subst hdd
     obtain ⟨e1,e2,e3⟩:=hb
     refine ⟨by rw[hν k q1];exact e1,e2,?_⟩
     rw [hmixout]
     ·exact e3
     ·intro hmem
      obtain ⟨k',f1,f2⟩:=(hw.rel cur _).1 hmem
      rw [B2 H0 hS e2 f2]at f1
      exact q1 f1
    ·have hlk:ba h k:=by
      unfold ba d9;rw[be,q2]
      cases o<;>first|rfl|exact(hdd rfl).elim|exact(ho rfl).elim
     refine dw hsub hdd (fun b az ty e1 e2=>?_) hb
     obtain ⟨c,ez,e3⟩:=e2
     rw [hmixout b (hout k _ q1 hlk e3)];exact e1
  ·have hb:=hr.blk k o q2
   by_cases ho:o=.hid
   ·subst ho;trivial
   ·by_cases hdd:o=.dead
    ·subst hdd
     obtain ⟨e1,e2,e3⟩:=hb
     refine ⟨e1,e2,?_⟩
     rw [hmixin]
     ·exact e3
     ·exact(hw.rel cur _).2 ⟨k,q1,by unfold rT;rw[aaT (by omega)]⟩
    ·refine dw (Nu.sub_refl ν') hdd (fun b az ty e1 e2=>?_) hb
     obtain ⟨c,ez,e3⟩:=e2
     rw [hmixin b (hin k _ q1 e3)];exact e1
 ·rcases hlive k g1 with ⟨a1,a2⟩|⟨a1,a2⟩<;>rcases hlive k' g2 with ⟨b1,b2⟩|⟨b1,b2⟩
  ·rw[hν k a1]at hx;rw[hν k' b1]at hx'
   exact hd.hr.inj k k' x x' a2 b2 hx hx' he
  ·rw[hν k a1]at hx
   exact absurd (by rw[he];exact hin k' x' b1 hx') (hout k x a1 a2 hx)
  ·rw[hν k' b1]at hx'
   exact absurd (by rw[← he];exact hin k x a1 hx) (hout k' x' b1 b2 hx')
  ·exact hr.inj k k' x x' a2 b2 hx hx' he
 ·exact hr.dom k (by rw[RE]at hk;omega)
 ·have:=hr.rng k x hx
  unfold Sx.mix;simp;omega
 ·rw [hm.zz]at hj
  rw [hmixout j fun hmem=>?_]
  ·exact hd.hr.zl j az ty hj
  ·obtain⟨k',e1,e2⟩:=(hw.rel cur _).1 hmem
   have:=acY H0 hS (fun hlt=>hw.live cur k' e1 hlt) e2
   rw [← hd.zc]at this
   exact lE this _ _ hj
 ·rcases hlive k hl with ⟨a1,a2⟩|⟨a1,a2⟩
  ·rw[hν k a1]at hx;rw[hm.zz];exact hd.hr.zn k x a2 hx
  ·exact hr.zn k x a2 hx
 ·rcases hlive k hl with ⟨_,a2⟩|⟨_,a2⟩
  ·exact hd.liv k hk a2
  ·rcases hm.liv k a2 with q|q
   ·refine hd.liv k hk ?_
    unfold ba d9 at *
    rw [be]at *
    rw [yF]at q
    cases hg:h[k]? with
    |none=>rw[hg]at q;cases q
    | some o =>
      rw [hg]at q
      simp only [abW]at q
      split at q
      ·rename_i hq
       split at hq
       ·cases hq
       ·cases hq;rfl
      ·rename_i hq
       split at hq
       ·cases hq
       ·cases hq;rfl
      ·cases q
   ·have:=(hpl k q).2.1;omega
end
end
section
variable {w0:World} {ν ν' ν0:Nu} {nV nS N:Nat} {h h' h0:List O} {lh lh' lh0:List ao} {α:Type} {LP:eu} {Q:α->Prop} {e:bD} {sl:List ak} {ctx:Bool} {S:FuncId->bH}
theorem Jc {k:Nat} (hl:ba h k):k<h.length:=by
 rcases ft hl with ⟨_,_,g⟩|⟨_,_,_,_,g⟩<;>exact(List.getElem?_eq_some_iff.1 g).1
theorem Dv (hV:nV=h.length) {v:V} {a:ak} {l:List Nat} (hv:vr w0 ν.z ν v a) (hn:jn h v=some l) :
 (∀ j,j∈wT a↔∃ k,k∈l/\rT ν nV nS k=some j)/\∀ k,k∈l->k<nV->ba h k:=by
 have one:∀ {k b:Nat} {x:Nat×Nat},ba h k->ν k=some (some (b,x))->∀ j,j∈[b]↔∃ k',k'∈[k]/\rT ν nV nS k'=some j:=fun {k b x} hl hk j=>by
  have hlt:k<nV:=by rw[hV];exact Jc hl
  simp only [List.mem_singleton,exists_eq_left]
  unfold rT
  rw [aby hlt,hk]
  simp [eq_comm]
 have lv:∀ {k:Nat},ba h k->∀ k',k'∈[k]->k'<nV->ba h k':=fun hl k' hk' _=>by
  rw [List.mem_singleton.1 hk'];exact hl
 cases v<;>simp only[jn]at hn<;>try cases hn
 case pl k off =>
  cases hl:d9 h k with
  |false=>rw[hl]at hn;cases hn
  | true =>
    rw [hl]at hn;cases hn
    simp only [vr]at hv
    obtain ⟨b,c,ez,g1,rfl⟩:=hv
    exact ⟨one hl g1,lv hl⟩
 case pe k i j =>
  cases hl:d9 h k with
  |false=>rw[hl]at hn;cases hn
  | true =>
    rw [hl]at hn;cases hn
    simp only [vr]at hv
    obtain ⟨b,c,ez,g1,rfl⟩:=hv
    exact ⟨one hl g1,lv hl⟩
 case ss k off n c =>
  cases hl:d9 h k with
  |false=>rw[hl]at hn;cases hn
  | true =>
    rw [hl]at hn;cases hn
    simp only [vr]at hv
    obtain ⟨b,c,ez,g1,rfl⟩:=hv
    exact ⟨one hl g1,lv hl⟩
 case gs k n =>
  cases hl:d9 h k with
  |false=>rw[hl]at hn;cases hn
  | true =>
    rw [hl]at hn;cases hn
    simp only [vr]at hv
    rcases hv with ⟨g1,g2,rfl⟩|⟨b,c,ez,g1,rfl,_⟩
    ·refine⟨fun j=>?_,lv hl⟩
     have hlt:k<nV:=by rw[hV];exact Jc hl
     simp only [wT,ajR,false_iff,not_exists,not_and]
     intro k' hk'
     rw [List.mem_singleton.1 hk']
     unfold rT
     rw [aby hlt,g1];simp
    ·exact⟨one hl g1,lv hl⟩
 case ns =>
  simp only [vr]at hv;subst hv
  exact ⟨fun j=>by simp[wT],fun k hk=>by cases hk⟩
theorem T9 (hh:HR w0 ν nV nS h lh) (hV:nV=h.length) (hsl:fL w0 ν N e sl) {s:Da} {l:List Nat} (hn:H6 h e nV s=some l) :
 (∀ j,j∈Wd w0 lh sl nS s↔∃ k,k∈l/\rT ν nV nS k=some j)/\∀ k,k∈l->k<nV->ba h k:=by
 cases s with
 | fresh r =>
   simp only [H6]at hn;cases hn
   refine ⟨fun j=>?_,fun k hk hlt=>?_⟩
   ·simp only[Wd,List.mem_singleton,exists_eq_left]
    unfold rT
    rw [aaT (by omega),show nS+(nV+r-nV)=nS+r by omega]
    simp [eq_comm]
   ·rw[List.mem_singleton.1 hk]at hlt;omega
 |slot s=>exact Dv hV (hsl.at' s) hn
 | load s off =>
   have hat:=hsl.at' s
   simp only [H6]at hn
   split at hn
   ·rename_i k o hk
    rw [hk]at hat
    simp only [vr]at hat
    obtain ⟨b,c,ez,g1,g2⟩:=hat
    split at hn
    ·rename_i v hv
     obtain ⟨p,x,e1,e2,e3⟩:=yaF hh (v:=.pl k (o+off)) (a:=.ptr (some (.l b (o+off)))) (by simp only[vr];exact⟨b,c,ez,g1,rfl⟩) hv (fun _ _ _ he=>by cases he)
     cases e1
     have:=Dv (nS:=nS) hV e3 hn
     simp only [Wd,g2,gR.add,e2]
     exact this
    ·cases hn
   ·cases hn
theorem ym (hh:HR w0 ν nV nS h lh) (hV:nV=h.length) (hsl:fL w0 ν N e sl):∀ {ss:List Da} {l:List Nat},sX h e nV ss=some l ->
 (∀ j,j∈tf w0 lh sl nS ss↔∃ k,k∈l/\rT ν nV nS k=some j)/\∀ k,k∈l->k<nV->ba h k
 |[],l,hn=>by simp only[sX]at hn;cases hn;exact⟨fun j=>by simp[tf],fun k hk=>by cases hk⟩
 | s :: ss,l,hn=>by
   simp only [sX]at hn
   split at hn
   ·rename_i a b ha hb
    cases hn
    obtain ⟨g1,g2⟩:=T9 hh hV hsl ha
    obtain ⟨g3,g4⟩:=ym hh hV hsl hb
    refine ⟨fun j=>?_,fun k hk=>?_⟩
    ·simp only [tf,aqK,kO,g1 j,g3 j]
     constructor
     ·rintro (⟨k,h1,h2⟩|⟨k,h1,h2⟩)
      ·exact⟨k,.inl h1,h2⟩
      ·exact⟨k,.inr h1,h2⟩
     ·rintro⟨k,h1|h1,h2⟩
      ·exact .inl ⟨k,h1,h2⟩
      ·exact .inr ⟨k,h1,h2⟩
    ·rw[kO,aqK]at hk
     rcases hk with hk|hk
     ·exact g2 k hk
     ·exact g4 k hk
   ·cases hn
theorem u9 {h:List O} {e:bD} {n0:Nat}:∀ {ds:List gQ} {Ws:List (List Nat)},ta h e n0 ds=some Ws->∀ i,match ds[i]? with|some d=>sX h e n0 d.ws=some (dp Ws i)|none=>dp Ws i=[]
 |[],Ws,hn,i=>by simp only[ta]at hn;cases hn;simp[dp,fM]
 | d::ds,Ws,hn,i=>by
   simp only [ta]at hn
   split at hn
   ·rename_i a b ha hb
    cases hn
    cases i with
    |zero=>simp[dp,fM,ha]
    |succ i=>simpa[dp,fM] using u9 hb i
   ·cases hn
theorem alE (hh:HR w0 ν nV nS h lh) (hV:nV=h.length) (hsl:fL w0 ν N e sl) {ds:List gQ} {Ws:List (List Nat)} (hn:ta h e nV ds=some Ws):WR ν nV nS h Ws (kC w0 lh sl nS ds):=by
 have key:∀ i,(∀ j,j∈wOf (kC w0 lh sl nS ds) i↔∃ k,k∈dp Ws i/\rT ν nV nS k=some j)/\∀ k,k∈dp Ws i->k<nV->ba h k:=fun i=>by
  have h1:=u9 hn i
  have h2:=oS w0 lh sl nS ds i
  unfold wOf
  rw [h2]
  cases hd:ds[i]? with
  |none=>rw[hd]at h1;dsimp only at h1 ⊢;rw[h1];exact⟨fun j=>by simp,fun k hk=>by cases hk⟩
  |some d=>rw[hd]at h1;exact ym hh hV hsl h1
 exact ⟨fun i=>(key i).1,fun i=>(key i).2⟩
theorem Iw {WsS:List (List Nat)} {un:List Nat} {j:Nat}:j∈GT WsS un↔∃ u,u∈un/\j∈wOf WsS u:=by
 unfold GT;simp[List.mem_flatMap]
def anr (w0:World) (S:FuncId->bH) (LP:eu) (cp:FuncId->List V->List O->(V->T α)->T α):Prop:=∀ (f:FuncId) (vs:List V) (h:List O) (K:V->T α) (Q:α->Prop) (ν:Nu) (nV nS:Nat) (args:List ak) (lh:List ao) (KA:ak->List ao->Prop),
 bg w0 ν.z ν vs args->HR w0 ν nV nS h lh->bu LP (cp f vs h K) Q->(∀ v a,vr w0 ν.z ν v a->bu LP (K v) Q->KA a lh)->S f w0 args lh KA
def vH (w0:World) (S:FuncId->bH) (LP:eu) (cp:CP α):Prop:=anr w0 S LP (cp false)/\su w0 (xL S) LP false (fun f vs h K=>cp true f vs h fun v=>K v h)
theorem vH.cf {cp:CP α} (hc:vH w0 S LP cp) (md:Bool):su w0 S LP md (fun f vs h K=>cp false f vs h fun v=>K v h):=fun f vs h K Q ν nV nS args lh KA h1 h2 h3 h4 =>
 hc.1 f vs h _ Q ν nV nS args lh KA h1 h2 h3 fun v a hv hs=>h4 v h ν a lh (fun _=>⟨rfl,rfl,rfl⟩) (Nu.sub_refl ν) h2 hv hs
theorem Ns {op:kj} {pl:Option Nat} {KA:ak->List ao->Prop} (hst:kD op=true) (hv:cQ w0 S sl lh none KA op):cQ w0 S sl lh pl KA op:=by
 cases op<;>first|exact hv|cases hst
def AM (N:Nat):List gQ->Bool
 |[]=>true
 |d::l=>(match d.o.dst with|some d=>Nat.blt d N|none=>true)&&AM N l
theorem YN {N:Nat} {d:gQ} {l:List gQ} (hd:AM N (d::l)=true):(∀ i,d.o.dst=some i->i<N)/\AM N l=true:=by
 simp only [AM,aaw]at hd
 refine ⟨fun i hi=>?_,hd.2⟩
 rw [hi]at hd
 exact aaF hd.1
theorem vo {Ws:List (List Nat)} {Y:List Nat} {all:List gQ} {j:Nat}:∀ {l:List gQ} {i:Nat},(∀ t,l[t]? = all[i+t]?)->wj Ws Y l i j=true->∀ i',i<=i'->i'<j->(match all[i']? with|some d=>d.rk.isSome|none=>false)=true ->
 (∀ k,k∈dp Ws i'->k∉Y)∨∀ k,k∈dp Ws i'->k∈Y
 | [],i,hl,hc,i',h1,h2,h3=>by
   have:=hl (i'-i)
   rw [show i+(i'-i)=i' by omega]at this
   rw [← this]at h3;simp at h3
 | d :: l,i,hl,hc,i',h1,h2,h3=>by
   simp only [wj]at hc
   have hb:Nat.blt i j=true:=adr (by omega:i+1<=j)
   rw [hb]at hc
   simp only [cond_true,aaw]at hc
   have h0:=hl 0
   simp only [acM,ajZ]at h0
   by_cases e1:i'=i
   ·subst e1
    rw [← h0]at h3
    dsimp only at h3
    cases hr:d.rk with
    |none=>rw[hr]at h3;cases h3
    | some r =>
      have hc1:=hc.1
      rw [hr]at hc1
      simp only [ajQ]at hc1
      rcases hc1 with q|q
      ·exact .inl (vb.1 q)
      ·exact .inr (wm.1 q)
   ·exact vo (fun t=>by have:=hl (t+1);rw[acx]at this;rw[this,show i+(t+1)=i+1+t by omega]) hc.2 i' (by omega) h2 h3
theorem Df {Ws:List (List Nat)} {all:List gQ}:∀ {l:List gQ} {j:Nat},(∀ t,l[t]? = all[j+t]?)->yo Ws all l j=true->∀ j' d,j<=j'->all[j']? = some d->wj Ws (dp Ws j') all 0 j'=true/\wj Ws (m9 Ws d.un) all 0 j'=true
 | [],j,hl,hc,j',d,h1,h2=>by
   have:=hl (j'-j)
   rw [show j+(j'-j)=j' by omega,h2]at this;simp at this
 | d::l,j,hl,hc,j',d',h1,h2=>by
   simp only [yo,aaw]at hc
   have h0:=hl 0
   simp only [acM,ajZ]at h0
   by_cases e1:j'=j
   ·subst e1
    rw [← h0]at h2;cases h2
    exact hc.1
   ·exact Df (fun t=>by have:=hl (t+1);rw[acx]at this;rw[this,show j+(t+1)=j+1+t by omega]) hc.2 j' d' (by omega) h2
theorem sL {Ws:List (List Nat)} {all:List gQ}:∀ {l:List gQ} {j:Nat},(∀ t,l[t]? = all[j+t]?)->tc Ws l j=true->∀ j' d,j<=j'->all[j']? = some d->∀ k,k∈dp Ws j'->k∉m9 Ws d.un
 | [],j,hl,hc,j',d,h1,h2=>by
   have:=hl (j'-j)
   rw [show j+(j'-j)=j' by omega,h2]at this;simp at this
 | d::l,j,hl,hc,j',d',h1,h2=>by
   simp only [tc,aaw]at hc
   have h0:=hl 0
   simp only [acM,ajZ]at h0
   by_cases e1:j'=j
   ·subst e1
    rw [← h0]at h2;cases h2
    exact vb.1 hc.1
   ·exact sL (fun t=>by have:=hl (t+1);rw[acx]at this;rw[this,show j+(t+1)=j+1+t by omega]) hc.2 j' d' (by omega) h2
def rkB (ds:List gQ) (i:Nat):Bool:=match ds[i]? with
 |some d=>d.rk.isSome
 |none=>false
theorem lO {cp:CP α} (hcp:vH w0 S LP cp) {ds:List gQ} {Ws WsS:List (List Nat)} (H0:HR w0 ν0 nV nS h0 lh0) (hS:nS=lh0.length) (hw:WR ν0 nV nS h0 Ws WsS) (hcons:yo Ws ds ds 0=true) (hall:tc Ws ds 0=true) :
 ∀ (rest:List gQ) (i:Nat) (e:bD) (h:List O) (ν:Nu) (sl:List ak) (lh:List ao) (K:bD->List O->T α) (KA:List ak->List ao->Prop),(∀ t,rest[t]? = ds[i+t]?)->AM N rest=true ->
 DI w0 ν0 h0 nV nS Ws (rkB ds) i ν h lh->fL w0 ν N e sl->bu LP (eP cp Ws nV rest i e h K) Q ->
 (∀ e' h' ν' sl' lh',ν.sub ν'->fL w0 ν' N e' sl'->HR w0 ν' nV nS h' lh'->bu LP (K e' h') Q->KA sl' lh')->jc w0 S WsS nS KA rest i sl lh
 |[],i,e,h,ν,sl,lh,K,KA,hr,hd,hdi,hsl,hs,hK=>hK e h ν sl lh (Nu.sub_refl ν) hsl hdi.hr hs
 | d :: rest,i,e,h,ν,sl,lh,K,KA,hr,hd,hdi,hsl,hs,hK=>by
   obtain ⟨hd1,hd2⟩:=YN hd
   have hdsi:ds[i]? = some d:=by have:=hr 0;simpa using this.symm
   have hr':∀ t,rest[t]? = ds[i+1+t]? := fun t=>by have:=hr (t+1);rw[acx]at this;rw[this,show i+(t+1)=i+1+t by omega]
   obtain ⟨hc1,hc2⟩:=Df (j:=0) (fun t=>by simp) hcons i d (acK _) hdsi
   have hdis:=sL (j:=0) (fun t=>by simp) hall i d (acK _) hdsi
   have hCW:FC Ws (rkB ds) i (dp Ws i):=fun i' h1 h2=>vo (i:=0) (fun t=>by simp) hc1 i' (acK _) h1 h2
   have hCX:FC Ws (rkB ds) i (m9 Ws d.un):=fun i' h1 h2=>vo (i:=0) (fun t=>by simp) hc2 i' (acK _) h1 h2
   have hXw:∀ k,k∈m9 Ws d.un->∃ u,k∈dp Ws u:=fun k hk=>by obtain⟨u,_,g⟩:=lN.1 hk;exact⟨u,g⟩
   have hXS:∀ j,j∈GT WsS d.un↔∃ k,k∈m9 Ws d.un/\rT ν0 nV nS k=some j:=fun j=>by
    rw [Iw]
    constructor
    ·rintro⟨u,h1,h2⟩
     obtain ⟨k,g1,g2⟩:=(hw.rel u j).1 h2
     exact ⟨k,lN.2 ⟨u,h1,g1⟩,g2⟩
    ·rintro⟨k,h1,h2⟩
     obtain ⟨u,g1,g2⟩:=lN.1 h1
     exact ⟨u,g1,(hw.rel u j).2 ⟨k,g2,h2⟩⟩
   have hhid:=hdi.hide H0 hS hw hCX hXw hXS
   have hsucc:DI w0 ν0 h0 nV nS Ws (rkB ds) (i+1) ν h lh:=⟨hdi.hr,hdi.old,hdi.zc,hdi.liv,fun k x h1 h2=>by
    rcases hdi.nw k x h1 h2 with g|⟨a,b,g1,g2,g3⟩
    ·exact .inl g
    ·exact .inr ⟨a,b,g1,by omega,g3⟩⟩
   have hmixid:mix (wOf WsS i) lh (hide (GT WsS d.un) lh)=lh:=by
    apply agE
    intro j
    rw [ve]
    cases hg:lh[j]? with
    |none=>rfl
    | some o =>
      simp only [abW]
      by_cases hj:j∈wOf WsS i
      ·rw[aby hj]
       simp only [List.getD,oO,hg,abW,aqj]
       rw [aaT]
       intro hx
       obtain ⟨k,g1,g2⟩:=(hw.rel i j).1 hj
       obtain ⟨k',g3,g4⟩:=(hXS j).1 hx
       obtain ⟨u,_,g5⟩:=lN.1 g3
       have:=uF H0 hS (fun hlt=>hw.live i k g1 hlt) (fun hlt=>hw.live u k' g5 hlt) g2 g4
       subst this
       exact hdis k g1 g3
      ·rw[aaT hj]
   -- an operation is run
   have run:∀ {e0:bD} {ctx:Bool} {W:V->V},ctx=true->(∀ v a,vr w0 ν.z ν v a->vr w0 ν.z ν (W v) a)->kD d.o.op=true->fL w0 ν N e0 sl ->
    bu LP (Bq (fun f vs h K=>cp false f vs h fun v=>K v h) ctx none d.o.op e0 (jh (m9 Ws d.un) h) fun v _=>eP cp Ws nV rest (i+1) (dQ e0 d.o.dst (W v)) h K) Q ->
    cQ w0 S sl (hide (GT WsS d.un) lh) (d.rk.map (nS+·)) (fun v l=>jA (wOf WsS i) l (hide (GT WsS d.un) lh)/\jc w0 S WsS nS KA rest (i+1) (eb sl d.o.dst v) (mix (wOf WsS i) lh l)) d.o.op:=by
    intro e0 ctx W hc hWv hst hsl0 hs
    refine Ns hst (A3 (md:=false) (wn:=[]) hsl0 hhid hc (hcp.cf false) (.inl ⟨rfl,rfl⟩) (fun e=>by cases e) hs fun v h' ν' a lh' _ q g1 g2 g3 g4=>?_)
    obtain ⟨rfl,rfl,rfl⟩:=q hst
    refine ⟨⟨rfl,fun _ _=>rfl⟩,?_⟩
    rw [hmixid]
    exact lO hcp H0 hS hw hcons hall rest (i+1) _ _ _ _ _ K KA hr' hd2 hsucc (hsl0.put d.o.dst hd1 (hWv _ _ g3)) g4 hK
   have runM:∀ {e0:bD},fL w0 ν N e0 sl->bu LP (evM cp Ws nV d i e0 h fun v h=>eP cp Ws nV rest (i+1) (dQ e0 d.o.dst v) h K) Q ->
    cQ w0 S sl (hide (GT WsS d.un) lh) (d.rk.map (nS+·)) (fun v l=>jA (wOf WsS i) l (hide (GT WsS d.un) lh)/\jc w0 S WsS nS KA rest (i+1) (eb sl d.o.dst v) (mix (wOf WsS i) lh l)) d.o.op:=by
    intro e0 hsl0 hs
    unfold evM at hs
    split at hs
    ·rename_i hst
     exact run (W:=id) rfl (fun _ _ h=>h) hst hsl0 hs
    ·rename_i hst
     split at hs
     ·exact hs.elim
     ·rename_i l hl
      cases hsb:F9 (plL (d.rk.map (nV+·)) l) (dp Ws i) with
      |false=>rw[hsb]at hs;exact hs.elim
      | true =>
        rw [hsb]at hs
        simp only [cond_true]at hs
        have hsb:=wm.1 hsb
        have hlW:∀ k,k∈l->k∈dp Ws i:=fun k hk=>hsb k (by unfold plL;split<;>simp[hk])
        have hpR:plR nV nS (d.rk.map (nV+·)) (d.rk.map (nS+·)):=by
         cases hr:d.rk with
         |none=>exact .inl ⟨rfl,rfl⟩
         |some r=>exact .inr ⟨nV+r,rfl,by simp⟩
        refine A3 (md:=true) (wn:=dp Ws i) hsl0 hhid rfl (hcp.cf true) hpR (fun _=>⟨l,hl,hlW⟩) hs fun v h' ν' a lh' hm _ g1 g2 g3 g4=>?_
        obtain ⟨q1,q2⟩:=hdi.mix H0 hS hw hCX hCW hdis hhid (pl:=d.rk.map (nV+·)) (plA:=d.rk.map (nS+·)) (fun p hp=>by
         cases hr:d.rk with
         |none=>rw[hr]at hp;cases hp
         | some r =>
           rw [hr]at hp
           simp only [abW,aaB]at hp
           subst hp
           refine ⟨hsb _ (by rw[hr];simp[plL]),by omega,by simp,?_⟩
           unfold rkB;rw[hdsi];dsimp only;rw[hr];rfl) (fun hp=>by
         cases hr:d.rk with
         |none=>rfl
         |some r=>rw[hr]at hp;cases hp) g1 g2 (hm rfl)
        exact ⟨q1,lO hcp H0 hS hw hcons hall rest (i+1) _ _ _ _ _ K KA hr' hd2 q2 ((hsl0.mono g1).put d.o.dst hd1 g3) g4 fun e' h' ν'' sl' lh' k1=>hK e' h' ν'' sl' lh' (Nu.sub_trans g1 k1)⟩
   have skip:∀ {e0:bD},fL w0 ν N e0 sl->bu LP (eP cp Ws nV rest (i+1) (dQ e0 d.o.dst (.tup [])) h K) Q->jc w0 S WsS nS KA rest (i+1) (eb sl d.o.dst (.tup [])) lh:=by
    intro e0 hsl0 hs
    exact lO hcp H0 hS hw hcons hall rest (i+1) _ _ _ _ _ K KA hr' hd2 hsucc (hsl0.put d.o.dst hd1 An) hs hK
   have skipS:∀ {b:Bool},kD d.o.op=true->b=false->bu LP (Bq (fun f vs h K=>cp false f vs h fun v=>K v h) b none d.o.op e (jh (m9 Ws d.un) h) fun v _=>eP cp Ws nV rest (i+1) (dQ e d.o.dst (.gd b v)) h K) Q->jc w0 S WsS nS KA rest (i+1) (eb sl d.o.dst (.tup [])) lh:=by
    intro b hst hb hs
    obtain ⟨v,g⟩:=Kt hb hst hs
    exact lO hcp H0 hS hw hcons hall rest (i+1) _ _ _ _ _ K KA hr' hd2 hsucc (hsl.put d.o.dst hd1 (H2 hb)) g hK
   simp only [eP]at hs
   simp only [jc,Ma,om]
   split at hs
   ·rename_i hg;rw[hg];exact runM hsl hs
   ·rename_i g want hg
    rw [hg]
    dsimp only
    have hat:=hsl.at' g
    split at hs
    ·rename_i b hb
     rw [hb]at hat
     simp only [vr]at hat
     rw [hat]
     dsimp only
     split at hs
     ·rename_i he _
      subst he
      exact ⟨fun _=>runM hsl hs,fun e=>by cases b<;>cases e⟩
     ·rename_i he _
      exact ⟨fun e=>(he e).elim,fun e=>skip hsl hs⟩
    ·rename_i l hb
     rw [hb]at hat
     simp only [vr]at hat
     obtain ⟨az,hat,_⟩:=hat
     rw [hat]
     exact skip hsl hs
    ·rename_i k n hb
     rw [hb]at hat
     simp only [vr]at hat
     rw [hat]
     exact skip hsl hs
    ·rename_i b hb
     rw [hb]at hat
     simp only [vr]at hat
     rw [hat]
     dsimp only
     split at hs
     ·rename_i hst
      exact ⟨fun e1=>run (ud e1) (fun _ _ hv=>zW (ud e1) hv) hst hsl hs,fun e1=>skipS hst (xS e1) hs⟩
     ·simp only[bu]at hs
      exact ⟨fun e1=>runM (hsl.know (by simp only[vr];rw[hat,e1])) (hs.1 (ud e1)),fun e1=>skip (hsl.know (by simp only[vr];rw[hat,e1])) (hs.2 (xS e1))⟩
    ·rename_i c v hb
     rw [hb]at hat
     simp only [vr]at hat
     split at hs
     ·split at hs
      ·have hl:∃ l,sl.getD g .any=.tup l:=by
        cases c with
        |false=>exact hat.2 rfl
        |true=>have:=hat.1 rfl;simp only[vr]at this;obtain⟨l,e,_⟩:=this;exact⟨l,e⟩
       obtain ⟨l,hl⟩:=hl
       rw [hl]
       exact skip hsl hs
      ·exact hs.elim
     ·rename_i b hbv
      cases c with
      | false =>
        obtain ⟨l,hl⟩:=hat.2 rfl
        rw [hl]
        dsimp only
        split at hs
        ·rename_i hst
         exact skipS hst rfl hs
        ·simp only[bu]at hs
         exact skip hsl (hs.2 rfl)
      | true =>
        have hat:=nF (hat.1 rfl) hbv
        rw [hat]
        dsimp only
        split at hs
        ·rename_i hst
         exact ⟨fun e1=>run (by rw[ud e1];rfl) (fun _ _ hv=>zW (by rw[ud e1];rfl) hv) hst hsl hs,fun e1=>skipS hst (by rw[xS e1];rfl) hs⟩
        ·simp only[bu]at hs
         exact ⟨fun e1=>runM (hsl.know (by simp only[vr];rw[hat,e1])) (hs.1 (by rw[ud e1];rfl)),fun e1=>skip hsl (hs.2 (by rw[xS e1];rfl))⟩
    ·exact hs.elim
theorem sT {cp:CP α} (hcp:vH w0 S LP cp) {ds:List gQ} {a b:Nat} {K:bD->List O->T α} {KA:List ak->List ao->Prop} (hd:AM N ds=true) (hsl:fL w0 ν N e sl) (hh:HR w0 ν a b h lh)
 (hs:bu LP (vj cp ds e h K) Q) (hK:∀ e' h' ν' sl' lh' nV nS,ν.sub ν'->fL w0 ν' N e' sl'->HR w0 ν' nV nS h' lh'->bu LP (K e' h') Q->KA sl' lh'):mr w0 S ds sl lh KA:=by
 unfold vj at hs
 split at hs
 ·exact hs.elim
 ·rename_i Ws hW
  cases hc:(tc Ws ds 0&&yo Ws ds ds 0) with
  |false=>rw[hc]at hs;exact hs.elim
  | true =>
    rw [hc]at hs
    simp only [cond_true]at hs
    simp only [aaw]at hc
    have hlen:bI h=(undead h).length:=by rw[bG,pV]
    rw [hlen]at hs hW
    have H0:=hh.undead (undead h).length lh.length
    have hw:=alE H0 rfl hsl hW
    have H1:=H0.deads rfl rfl (Rx ds)
    rw [kO]at hs
    refine ⟨?_,?_⟩
    ·-- the sets are apart there,too
     have gen:∀ (l:List gQ) (j:Nat),(∀ t,l[t]? = ds[j+t]?)->DF (kC w0 lh sl lh.length ds) l j:=by
      intro l
      induction l with
      |nil=>intro j _;trivial
      | cons d l ih =>
        intro j hl
        have hdj:ds[j]? = some d:=by have:=hl 0;simpa using this.symm
        have hdis:=sL (j:=0) (fun t=>by simp) hc.1 j d (acK _) hdj
        refine ⟨?_,ih (j+1) fun t=>by have:=hl (t+1);rw[acx]at this;rw[this,show j+(t+1)=j+1+t by omega]⟩
        have disj_of:∀ (A B:List Nat),(∀ k,k∈A->k∉B)->SQ A B:=by
         intro A B hAB
         induction A with
         |nil=>trivial
         | cons x A ihA =>
           refine ⟨?_,ihA fun k hk=>hAB k (adx _ hk)⟩
           have hx:=hAB x ahE
           clear ihA hAB
           induction B with
           |nil=>trivial
           |cons y B ihB=>exact⟨fun e=>hx (by rw[e];exact ahE),ihB fun hm=>hx (adx _ hm)⟩
        refine disj_of _ _ fun s hs1 hs2=>?_
        obtain ⟨k,g1,g2⟩:=(hw.rel j s).1 hs1
        obtain ⟨u,g3,g4⟩:=Iw.1 hs2
        obtain ⟨k',g5,g6⟩:=(hw.rel u s).1 g4
        have:=uF H0 rfl (fun hlt=>hw.live j k g1 hlt) (fun hlt=>hw.live u k' g5 hlt) g2 g6
        subst this
        exact hdis k g1 (lN.2 ⟨u,g3,g5⟩)
     exact gen ds 0 fun t=>by simp
    ·refine lO hcp H0 rfl hw hc.2 hc.1 ds 0 e _ ν sl _ K KA (fun t=>by simp) hd ⟨H1,fun _ _=>rfl,rfl,fun k hk hl=>?_,fun k x hk hx=>?_⟩ hsl hs fun e' h' ν' sl' lh'=>hK e' h' ν' sl' lh' _ _
     ·unfold ba d9 at *
      rw [be]at *
      rw [aaQ hk]at hl;exact hl
     ·rw[H0.dom k hk]at hx;cases hx
end
def gO (N:Nat):List m7->Bool
 |[]=>true
 |.op o::l=>nH N [o]&&gO N l
 |.yld _ d _::l=>(match d with|some d=>Nat.blt d N|none=>true)&&gO N l
 |.yldG _ _ _ d _::l=>(match d with|some d=>Nat.blt d N|none=>true)&&gO N l
def ry (N:Nat):gW->Bool
 |.reg ops=>gO N ops
 |.draw ds=>AM N ds
 |.drawY ds xs=>AM N ds&&gO N xs
 |.seq a b=>ry N a&&ry N b
 |.cond _ a b=>ry N a&&ry N b
 |.block _ b=>ry N b
 |.loop b=>ry N b
 |.scope b=>ry N b
 |_=>true
def A9:List gH->Bool
 |[]=>true
 |it::l=>ry it.ntmps it.body&&A9 l
def vp (N:Nat):List Nat->Bool
 |[]=>true
 |p::l=>Nat.blt p N&&vp N l
def tp (N:Nat):OT->Bool
 |.done=>true
 |.op o r=>nH N [o]&&tp N r
 |.alt a b=>tp N a&&tp N b
def fj (N:Nat):fS->Bool
 |.reg ops=>nH N ops
 |.draw ds=>AM N ds
 |.allo t=>tp N t
 |.alloq t=>tp N t
 |.seq a b=>fj N a&&fj N b
 |.cond _ a b=>fj N a&&fj N b
 |.block _ b=>fj N b
 |.loop b=>fj N b
 |.scope b=>fj N b
 |.range _ ps a b its=>vp N ps&&(fj N a&&(fj N b&&A9 its))
 |_=>true
def NuN (nb:Nat) (ν ν':Nu):Prop:=(∀ k x,k<nb->ν k=some x->ν' k=some x)/\uh ν.z ν'.z
theorem NuN.refl (nb:Nat) (ν:Nu):NuN nb ν ν:=⟨fun _ _ _ h=>h,lA _⟩
theorem NuN.trans {nb:Nat} {a b c:Nu} (h:NuN nb a b) (k:NuN nb b c):NuN nb a c:=⟨fun i x hi hx=>k.1 i x hi (h.1 i x hi hx),oP h.2 k.2⟩
theorem NuN.of {ν ν':Nu} (h:ν.sub ν') (nb:Nat):NuN nb ν ν':=⟨fun k x _ hx=>h.1 k x hx,h.2⟩
theorem NuN.sub {ν ν':Nu} {nb:Nat} (h:NuN nb ν ν') (hd:∀ k,nb<=k->ν k=none):ν.sub ν':=⟨fun k x hx=>(by
 rcases aqb k nb with hk|hk
 ·exact h.1 k x hk hx
 ·rw[hd k hk]at hx;exact absurd hx (by simp)),h.2⟩
def Mc (w0:World) (nb N0:Nat) (e0:bD) (sl0:List ak) (ν:Nu):Prop:=∃ ν0:Nu,(∀ k,nb<=k->ν0 k=none)/\fL w0 ν0 N0 e0 sl0/\ν0.sub ν
theorem Mc.step {w0:World} {nb N0:Nat} {e0:bD} {sl0:List ak} {ν ν':Nu} (h:Mc w0 nb N0 e0 sl0 ν) (hn:NuN nb ν ν'):Mc w0 nb N0 e0 sl0 ν':=by
 obtain ⟨ν0,h1,h2,h3⟩:=h
 exact ⟨ν0,h1,h2,NuN.sub ⟨fun k x hk hx=>hn.1 k x hk (h3.1 k x hx),oP h3.2 hn.2⟩ h1⟩
theorem Mc.get {w0:World} {nb N0:Nat} {e0:bD} {sl0:List ak} {ν:Nu} (h:Mc w0 nb N0 e0 sl0 ν):fL w0 ν N0 e0 sl0:=let ⟨_,_,h2,h3⟩:=h;h2.mono h3
def YA (w0:World) (S:FuncId->bH) (ps:List Nat) (asg body:fS) (sl0:List ak):YH:=fun xs lh K=>xs.length=ps.length/\bY w0 S lh.length asg (kA sl0 ps xs) lh (tV (fun sl lh'=>bY w0 S lh.length body sl lh' fun x _ lh=>K x lh) fun _ _ _=>False)
abbrev CQ:=Nat->FuncId->bH
def cV (w0:World) (S:CQ):eu:=fun fr b e h g Post=>match b with
 | .s body=>∀ (N nbS:Nat) (ν:Nu) (nV nS:Nat) (sl:List ak) (lh:List ao) (QA:Ex->List ak->List ao->Prop),fj N body=true->fL w0 ν N e sl->HR w0 ν nV nS h lh ->
   (∀ ex e' h' ν' sl' lh' nV' nS',NuN fr.2 ν ν'->fL w0 ν' N e' sl'->HR w0 ν' nV' nS' h' lh'->Post ex e' h' none->QA ex sl' lh')->bY w0 (S fr.1) nbS (.loop body) sl lh QA
 | .i body rd=>∀ (N N0:Nat) (ν:Nu) (nV nS:Nat) (sl sl0:List ak) (lh:List ao) (QA:IQ),ry N body=true->vp N0 rd.ps=true->fj N0 rd.asg=true->fj N0 rd.body=true->fL w0 ν N e sl->Mc w0 fr.2 N0 rd.e0 sl0 ν->HR w0 ν nV nS h lh ->
   (∀ ex e' h' g' ν' sl' lh' nV' nS',NuN fr.2 ν ν'->fL w0 ν' N e' sl'->HR w0 ν' nV' nS' h' lh'->Post ex e' h' g'->QA ex sl' lh' g')->kg w0 (S fr.1) rd.l (YA w0 (S fr.1) rd.ps rd.asg rd.body sl0) (.loop body) sl lh g QA
section
variable {w0:World} {S:CQ} {α:Type} {Q:α->Prop} {cf:CF α} {cp:CP α}
theorem sY {ν:Nu} {N:Nat}:∀ (ps:List Nat) (e:bD) (sl:List ak) (vs:List V) (az:List ak),vp N ps=true->fL w0 ν N e sl->bg w0 ν.z ν vs az->vs.length=ps.length->fL w0 ν N (qe e ps vs) (kA sl ps az)
 |[],e,sl,vs,az,_,h,_,_=>by cases vs<;>simpa[qe,kA] using h
 |p::ps,e,sl,[],az,_,_,_,hl=>by cases hl
 | p::ps,e,sl,v::vs,az,hp,h,hv,hl=>by
   simp only [bg]at hv
   obtain ⟨x,xs,rfl,h1,h2⟩:=hv
   simp only [vp,aaw]at hp
   simp only [qe,kA]
   exact sY ps _ _ vs xs hp.2 (h.set (by simpa[Nat.blt_eq] using hp.1) h1) h2 (by simpa using hl)
def Qu (w0:World) (LP:eu) (Q:α->Prop) (nb N0:Nat) (e0:bD) (sl0:List ak) (Y:YV α) (YS:YH):Prop :=
 ∀ (vs:List V) (h:List O) (ν:Nu) (nV nS:Nat) (args:List ak) (lh:List ao) (K:Ex->List O->T α) (KA:Ex->List ao->Prop),Mc w0 nb N0 e0 sl0 ν->HR w0 ν nV nS h lh->bg w0 ν.z ν vs args->bu LP (Y vs h K) Q ->
  (∀ x h' ν' nV' nS' lh',ν.sub ν'->HR w0 ν' nV' nS' h' lh'->bu LP (K x h') Q->KA x lh')->YS args lh KA
section it
variable {LP:eu} {nb N N0 lv:Nat} {rd:RD} {Y:YV α} {YS:YH} {sl0:List ak} {un:kk}
theorem XI {l:Nat} (hY:Qu w0 LP Q nb N0 rd.e0 sl0 Y YS) {t:Nat} {d:Option Nat} {xs:List fi} {e:bD} {h:List O} {g:Option Ex} {ν:Nu} {nV nS:Nat} {sl:List ak} {lh:List ao} {R:bD->List O->Option Ex->T α} {KA:List ak->List ao->Option Ex->Prop} (hdd:∀ i,d=some i->i<N)
 (h1:fL w0 ν N e sl) (hx:Mc w0 nb N0 rd.e0 sl0 ν) (h2:HR w0 ν nV nS h lh) (h3:bu LP (LG l Y t d xs e h g R) Q)
 (h4:∀ e' h' g' ν' sl' lh' nV' nS',ν.sub ν'->fL w0 ν' N e' sl'->HR w0 ν' nV' nS' h' lh'->bu LP (R e' h' g') Q->KA sl' lh' g'):g=none/\sl.getD t .any=iZ l/\YS (xs.map (arg sl)) lh (Z7 KA sl d):=by
 unfold LG at h3
 obtain ⟨u,hu,h3⟩:=En rfl (h1.at' t) h3
 split at h3
 ·rename_i l'
  simp only [bu]at h3
  obtain ⟨he,h3⟩:=h3
  simp only [abA,V.yl.injEq,aoW]at he
  subst he
  obtain ⟨us,k1,k2⟩:=kE h1 rfl h3
  have h0:=hu
  simp only [vr]at h0
  refine ⟨rfl,h0,?_⟩
  refine hY us h ν nV nS _ lh _ _ hx h2 k1 k2 fun x h' ν' nV' nS' lh' g1 g2 g3=>?_
  have hp:∀ b,fL w0 ν' N (dQ e d (.kb b)) (eb sl d (.bool b)):=fun b=>(h1.mono g1).put d hdd (by simp only[vr])
  cases x with
  |normal=>exact h4 _ _ _ _ _ _ _ _ g1 (hp true) g2 g3
  |exit i=>exact h4 _ _ _ _ _ _ _ _ g1 (hp false) g2 g3
  |ret=>exact h4 _ _ _ _ _ _ _ _ g1 (hp false) g2 g3
 ·exact h3.elim
theorem gn {S1:FuncId->bH} {l:Nat} (hcf:su w0 S1 LP false cf) (hY:Qu w0 LP Q nb N0 rd.e0 sl0 Y YS):∀ (ops:List m7) (e:bD) (h:List O) (g:Option Ex) (ν:Nu) (nV nS:Nat) (sl:List ak) (lh:List ao) (K:bD->List O->Option Ex->T α) (KA:List ak->List ao->Option Ex->Prop),gO N ops=true ->
 fL w0 ν N e sl->Mc w0 nb N0 rd.e0 sl0 ν->HR w0 ν nV nS h lh->bu LP (dh cf l Y ops e h g K) Q->(∀ e' h' g' ν' sl' lh' nV' nS',NuN nb ν ν'->fL w0 ν' N e' sl'->HR w0 ν' nV' nS' h' lh'->bu LP (K e' h' g') Q->KA sl' lh' g')->cg w0 S1 l YS ops sl lh g KA
 |[],e,h,g,ν,nV,nS,sl,lh,K,KA,_,h1,_,h2,h3,h4=>h4 _ _ _ _ _ _ _ _ (NuN.refl _ _) h1 h2 h3
 | .op o::rest,e,h,g,ν,nV,nS,sl,lh,K,KA,hd,h1,hx,h2,h3,h4=>by
   simp only [gO,aaw]at hd
   simp only [dh]at h3
   simp only [cg]
   exact ke hcf [o] e h ν sl lh _ _ hd.1 h1 h2 h3 fun e' h' ν' sl' lh' k0 k1 k2 k3=>gn hcf hY rest e' h' g ν' nV nS sl' lh' K KA hd.2 k1 (hx.step (NuN.of k0 _)) k2 k3 fun e2 h2 g2 ν2 sl2 lh2 nV2 nS2 q0=>h4 e2 h2 g2 ν2 sl2 lh2 nV2 nS2 ((NuN.of k0 _).trans q0)
 | .yld t d xs::rest,e,h,g,ν,nV,nS,sl,lh,K,KA,hd,h1,hx,h2,h3,h4=>by
   simp only [gO,aaw]at hd
   simp only [dh]at h3
   split at h3
   ·rename_i l' hy
    simp only [bu]at h3
    obtain ⟨he,h3⟩:=h3
    simp only [abA,V.yl.injEq,aoW]at he
    subst he
    obtain ⟨us,k1,k2⟩:=kE h1 rfl h3
    have h0:=h1.at' t
    rw [hy]at h0
    simp only [vr]at h0
    simp only [cg]
    refine ⟨trivial,h0,?_⟩
    have hdd:∀ i,d=some i->i<N:=fun i hi=>by subst hi;simpa[Nat.blt_eq] using hd.1
    refine hY us h ν nV nS _ lh _ _ hx h2 k1 k2 fun x h' ν' nV' nS' lh' g1 g2 g3=>?_
    have hp:∀ b,fL w0 ν' N (dQ e d (.kb b)) (eb sl d (.bool b)):=fun b=>(h1.mono g1).put d hdd (by simp only[vr])
    cases x with
    |normal=>exact gn hcf hY rest _ h' none ν' nV' nS' _ lh' K KA hd.2 (hp true) (hx.step (NuN.of g1 _)) g2 g3 fun e2 h2 g2 ν2 sl2 lh2 nV2 nS2 q0=>h4 e2 h2 g2 ν2 sl2 lh2 nV2 nS2 ((NuN.of g1 _).trans q0)
    |exit i=>exact gn hcf hY rest _ h' _ ν' nV' nS' _ lh' K KA hd.2 (hp false) (hx.step (NuN.of g1 _)) g2 g3 fun e2 h2 g2 ν2 sl2 lh2 nV2 nS2 q0=>h4 e2 h2 g2 ν2 sl2 lh2 nV2 nS2 ((NuN.of g1 _).trans q0)
    |ret=>exact gn hcf hY rest _ h' _ ν' nV' nS' _ lh' K KA hd.2 (hp false) (hx.step (NuN.of g1 _)) g2 g3 fun e2 h2 g2 ν2 sl2 lh2 nV2 nS2 q0=>h4 e2 h2 g2 ν2 sl2 lh2 nV2 nS2 ((NuN.of g1 _).trans q0)
   ·exact h3.elim
 | .yldG d want t dst xs::rest,e,h,g,ν,nV,nS,sl,lh,K,KA,hd,h1,hx,h2,h3,h4=>by
   simp only [gO,aaw]at hd
   have hdd:∀ i,dst=some i->i<N:=fun i hi=>by have:=hd.1;subst hi;simpa[Nat.blt_eq] using this
   have next:∀ (e':bD) (h':List O) (g':Option Ex) (ν':Nu) (sl':List ak) (lh':List ao) (nV' nS':Nat),ν.sub ν'->fL w0 ν' N e' sl'->HR w0 ν' nV' nS' h' lh'->bu LP (dh cf l Y rest e' h' g' K) Q->cg w0 S1 l YS rest sl' lh' g' KA :=
    fun e' h' g' ν' sl' lh' nV' nS' g1 k1 k2 k3=>gn hcf hY rest e' h' g' ν' nV' nS' sl' lh' K KA hd.2 k1 (hx.step (NuN.of g1 _)) k2 k3 fun e2 h2 g2 ν2 sl2 lh2 nV2 nS2 q0=>h4 e2 h2 g2 ν2 sl2 lh2 nV2 nS2 ((NuN.of g1 _).trans q0)
   have go:∀ {e0:bD},fL w0 ν N e0 sl->bu LP (LG l Y t dst xs e0 h g fun e h g=>dh cf l Y rest e h g K) Q->g=none/\sl.getD t .any=iZ l/\YS (xs.map (arg sl)) lh (Z7 (fun sl lh g=>cg w0 S1 l YS rest sl lh g KA) sl dst) :=
    fun hs0 hs=>XI hY hdd hs0 hx h2 hs next
   have skip:∀ {e0:bD},fL w0 ν N e0 sl->bu LP (dh cf l Y rest (dQ e0 dst (.tup [])) h g K) Q->cg w0 S1 l YS rest (eb sl dst (.tup [])) lh g KA :=
    fun hs0 hs=>next _ _ _ ν _ _ nV nS (Nu.sub_refl ν) (hs0.put dst hdd An) h2 hs
   simp only [dh]at h3
   simp only [cg]
   have hat:=h1.at' d
   split at h3
   ·rename_i b hb
    rw [hb]at hat
    simp only [vr]at hat
    rw [hat]
    dsimp only
    split at h3
    ·rename_i he _
     subst he
     exact ⟨fun _=>by rw[cE hat (by simp)];exact go h1 h3,fun e=>by cases b<;>cases e⟩
    ·rename_i he _
     exact ⟨fun e=>(he e).elim,fun e=>by rw[← e,cE hat (by simp)];exact skip h1 h3⟩
   ·rename_i l1 hb
    rw [hb]at hat
    simp only [vr]at hat
    obtain ⟨az,hat,_⟩:=hat
    rw [hat]
    dsimp only
    rw [cE hat (by simp)]
    exact skip h1 h3
   ·rename_i k n hb
    rw [hb]at hat
    simp only [vr]at hat
    rw [hat]
    exact skip h1 h3
   ·rename_i b hb
    rw [hb]at hat
    simp only [vr]at hat
    rw [hat]
    dsimp only
    simp only [bu]at h3
    refine ⟨fun e1=>?_,fun e1=>?_⟩
    ·rw[← e1,cE hat (by simp)]
     exact go (h1.know (by simp only[vr];rw[hat,e1])) (h3.1 (ud e1))
    ·rw[← e1,cE hat (by simp)]
     exact skip (h1.know (by simp only[vr];rw[hat,e1])) (h3.2 (xS e1))
   ·rename_i c v hb
    rw [hb]at hat
    simp only [vr]at hat
    split at h3
    ·exact h3.elim
    ·rename_i b hbv
     simp only [bu]at h3
     cases c with
     | false =>
       obtain ⟨l1,hl⟩:=hat.2 rfl
       rw [hl]
       dsimp only
       rw [cE hl (by simp)]
       exact skip h1 (h3.2 rfl)
     | true =>
       have hat:=nF (hat.1 rfl) hbv
       rw [hat]
       dsimp only
       refine ⟨fun e1=>?_,fun e1=>?_⟩
       ·rw[← e1,cE hat (by simp)]
        exact go (h1.know (by simp only[vr];rw[hat,e1])) (h3.1 (by rw[ud e1];rfl))
       ·rw[← e1,cE hat (by simp)]
        exact skip h1 (h3.2 (by rw[xS e1];rfl))
   ·exact h3.elim
structure IUn (w0:World) (LP:eu) (Q:α->Prop) (nb N N0:Nat) (e0:bD) (sl0:List ak) (ev:bD->List O->Option Ex->(Ex->bD->List O->Option Ex->T α)->T α) (K:Ex->bD->List O->Option Ex->T α) (ν0:Nu) where
 n:Nat
 e:bD
 h:List O
 g:Option Ex
 ν:Nu
 nV:Nat
 nS:Nat
 sl:List ak
 lh:List ao
 hs:fL w0 ν N e sl
 hx:Mc w0 nb N0 e0 sl0 ν
 hh:HR w0 ν nV nS h lh
 hn:NuN nb ν0 ν
 st:bu LP (YR ev n e h g K) Q
theorem GU (hcf:su w0 (S lv) (cV w0 S) false cf) (hcp:vH w0 (S lv) (cV w0 S) cp) (hp0:vp N0 rd.ps=true) (hp1:fj N0 rd.asg=true) (hp2:fj N0 rd.body=true) (hYS:YS=YA w0 (S lv) rd.ps rd.asg rd.body sl0) (hY:Qu w0 (cV w0 S) Q nb N0 rd.e0 sl0 Y YS):∀ (c:gW) (bi:Nat) (e:bD) (h:List O) (g:Option Ex) (ν:Nu) (nV nS:Nat) (sl:List ak) (lh:List ao) (K:Ex->bD->List O->Option Ex->T α) (KA:IQ),
 ry N c=true->fL w0 ν N e sl->Mc w0 nb N0 rd.e0 sl0 ν->HR w0 ν nV nS h lh->bu (cV w0 S) (mA cf cp un (lv,nb) rd Y bi c e h g K) Q ->
 (∀ x e' h' g' ν' sl' lh' nV' nS',NuN nb ν ν'->fL w0 ν' N e' sl'->HR w0 ν' nV' nS' h' lh'->bu (cV w0 S) (K x e' h' g') Q->KA x sl' lh' g')->kg w0 (S lv) rd.l YS c sl lh g KA:=by
 intro c
 induction c with
 |skip=>intro bi e h g ν nV nS sl lh K KA _ h1 _ h2 h3 h4;exact h4 .normal _ _ _ _ _ _ _ _ (NuN.refl _ _) h1 h2 h3
 | reg ops =>
   intro bi e h g ν nV nS sl lh K KA hd h1 hx h2 h3 h4
   exact gn hcf hY ops e h g ν nV nS sl lh _ _ hd h1 hx h2 h3 fun e' h' g' ν' sl' lh' nV' nS' k0 k1 k2 k3=>h4 .normal _ _ _ _ _ _ _ _ k0 k1 k2 k3
 | draw ds =>
   intro bi e h g ν nV nS sl lh K KA hd h1 hx h2 h3 h4
   exact sT hcp hd h1 h2 h3 fun e' h' ν' sl' lh' _ _ k0 g1 g2 g3=>h4 .normal _ _ _ _ _ _ _ _ (NuN.of k0 _) g1 g2 g3
 | drawY ds xs =>
   intro bi e h g ν nV nS sl lh K KA hd h1 hx h2 h3 h4
   simp only [ry,aaw]at hd
   exact sT hcp hd.1 h1 h2 h3 fun e1 h1' ν1 sl1 lh1 _ _ k0 g1 g2 g3=>gn hcf hY xs e1 h1' g ν1 _ _ sl1 lh1 _ _ hd.2 g1 (hx.step (NuN.of k0 _)) g2 g3 fun e' h' g' ν' sl' lh' nV' nS' j0 j1 j2 j3=>h4 .normal _ _ _ _ _ _ _ _ ((NuN.of k0 _).trans j0) j1 j2 j3
 | seq a b iha ihb =>
   intro bi e h g ν nV nS sl lh K KA hd h1 hx h2 h3 h4
   simp only [ry,aaw]at hd
   refine iha bi e h g ν nV nS sl lh _ _ hd.1 h1 hx h2 h3 fun x e' h' g' ν' sl' lh' nV' nS' g0 g1 g2 g3=>?_
   cases x with
   |normal=>exact ihb bi e' h' g' ν' nV' nS' sl' lh' K KA hd.2 g1 (hx.step g0) g2 g3 fun x e2 h2 g2 ν2 sl2 lh2 nV2 nS2 q0=>h4 x e2 h2 g2 ν2 sl2 lh2 nV2 nS2 (g0.trans q0)
   |exit i=>exact h4 _ _ _ _ _ _ _ _ _ g0 g1 g2 g3
   |ret=>exact h4 _ _ _ _ _ _ _ _ _ g0 g1 g2 g3
 | cond c a b iha ihb =>
   intro bi e h g ν nV nS sl lh K KA hd h1 hx h2 h3 h4
   simp only [ry,aaw]at hd
   simp only [mA]at h3
   have ha:=h1.arg c
   simp only [kg]
   split at h3
   ·rename_i hc
    rw [hc]at ha;simp only[vr]at ha;rw[ha]
    exact ⟨fun _=>iha bi e h g ν nV nS sl lh K KA hd.1 h1 hx h2 h3 h4,(fun he=>by cases he)⟩
   ·rename_i hc
    rw [hc]at ha;simp only[vr]at ha;rw[ha]
    exact ⟨(fun he=>by cases he),fun _=>ihb bi e h g ν nV nS sl lh K KA hd.2 h1 hx h2 h3 h4⟩
   ·rename_i t hc
    rw [hc]at ha;simp only[vr]at ha;rw[ha]
    split at h3
    ·rename_i s
     simp only [bu]at h3
     simp only [arg]at ha
     exact ⟨fun et=>iha bi _ h g ν nV nS sl lh K KA hd.1 (h1.know (by simp only[vr];rw[ha,et])) hx h2 (h3.1 et) h4,fun et=>ihb bi _ h g ν nV nS sl lh K KA hd.2 (h1.know (by simp only[vr];rw[ha,et])) hx h2 (h3.2 et) h4⟩
    ·simp only[bu]at h3
     exact ⟨fun et=>iha bi _ h g ν nV nS sl lh K KA hd.1 h1 hx h2 (h3.1 et) h4,fun et=>ihb bi _ h g ν nV nS sl lh K KA hd.2 h1 hx h2 (h3.2 et) h4⟩
   ·exact h3.elim
 | block id b ih =>
   intro bi e h g ν nV nS sl lh K KA hd h1 hx h2 h3 h4
   refine ih id e h g ν nV nS sl lh _ _ hd h1 hx h2 h3 fun x e' h' g' ν' sl' lh' nV' nS' g0 g1 g2 g3=>?_
   cases x with
   |normal=>exact h4 _ _ _ _ _ _ _ _ _ g0 g1 g2 g3
   |ret=>exact h4 _ _ _ _ _ _ _ _ _ g0 g1 g2 g3
   | exit i =>
     simp only [wh]
     by_cases hi:i=id
     ·subst hi;rw[aby rfl];simp only[apl,cond]at g3;exact h4 _ _ _ _ _ _ _ _ _ g0 g1 g2 g3
     ·rw[aaT hi]
      have:Nat.beq i id=false:=by cases hb:Nat.beq i id with|false=>rfl|true=>exact(hi (aax hb)).elim
      simp only [this,cond]at g3;exact h4 _ _ _ _ _ _ _ _ _ g0 g1 g2 g3
 | loop b ih =>
   intro bi e h g ν nV nS sl lh K KA hd h1 hx h2 h3 h4
   simp only [mA]at h3
   split at h3
   ·subst hYS
    exact h3 N N0 ν nV nS sl sl0 lh KA hd hp0 hp1 hp2 h1 hx h2 h4
   ·rename_i n hn
    simp only [kg]
    refine ⟨IUn w0 (cV w0 S) Q nb N N0 rd.e0 sl0 (mA cf cp un (lv,nb) rd Y bi b) K ν,IUn.sl,IUn.lh,IUn.g,IUn.n,⟨n+1,e,h,g,ν,nV,nS,sl,lh,h1,hx,h2,NuN.refl _ _,h3⟩,rfl,rfl,rfl,fun s=>?_⟩
    have hst:=s.st
    have hsn:=s.hn
    match hm:s.n,hst with
    |0,hst=>exact hst.elim
    | k+1,hst =>
      simp only [YR]at hst
      refine ih bi s.e s.h s.g s.ν s.nV s.nS s.sl s.lh _ _ hd s.hs s.hx s.hh hst fun x e' h' g' ν' sl' lh' nV' nS' g0 g1 g2 g3=>?_
      cases x with
      |normal=>exact⟨⟨k,e',h',g',ν',nV',nS',sl',lh',g1,s.hx.step g0,g2,hsn.trans g0,g3⟩,rfl,rfl,rfl,Nat.lt_succ_self k⟩
      |exit i=>exact h4 _ _ _ _ _ _ _ _ _ (hsn.trans g0) g1 g2 g3
      |ret=>exact h4 _ _ _ _ _ _ _ _ _ (hsn.trans g0) g1 g2 g3
 |exit i=>intro bi e h g ν nV nS sl lh K KA _ h1 _ h2 h3 h4;exact h4 _ _ _ _ _ _ _ _ _ (NuN.refl _ _) h1 h2 h3
 |ret=>intro bi e h g ν nV nS sl lh K KA _ h1 _ h2 h3 h4;exact h4 _ _ _ _ _ _ _ _ _ (NuN.refl _ _) h1 h2 h3
 |scope b ih=>intro bi e h g ν nV nS sl lh K KA hd h1 hx h2 h3 h4;exact ih bi e h g ν nV nS sl lh K KA hd h1 hx h2 h3 h4
end it
structure SUn (w0:World) (LP:eu) (Q:α->Prop) (nb N:Nat) (ev:bD->List O->(Ex->bD->List O->T α)->T α) (K:Ex->bD->List O->T α) (ν0:Nu) where
 n:Nat
 e:bD
 h:List O
 ν:Nu
 nV:Nat
 nS:Nat
 sl:List ak
 lh:List ao
 hs:fL w0 ν N e sl
 hh:HR w0 ν nV nS h lh
 hn:NuN nb ν0 ν
 st:bu LP (evL ev n e h K) Q
theorem j5:∀ l:List ak,lH l l
 |[]=>by simp[lH]
 |a::l=>by unfold lH;exact⟨.inr rfl,j5 l⟩
theorem xb:∀ {its:List gH} {it:gH},A9 its=true->it∈its->ry it.ntmps it.body=true
 |[],_,_,h=>by cases h
 | x::l,it,h,hm=>by
   simp only [A9,aaw]at h
   rcases List.mem_cons.1 hm with rfl|hm
   ·exact h.1
   ·exact xb h.2 hm
theorem AC {lh:List ao} {ν:Nu}:∀ {us:List V} {az rest:List ak} {j i:Nat},bg w0 lh ν us az->(∀ a,a∈rest->True)->vr w0 lh ν (iW (LN us j) (j+i)) ((az++rest).getD i .any)
 |[],az,rest,j,i,h,_=>by simp only[LN,iW,vr]
 | u :: us,az,rest,j,i,h,hr=>by
   simp only [bg]at h;obtain⟨x,xs,rfl,h1,h2⟩:=h
   simp only [LN];rw[lD]
   cases i with
   |zero=>rw[aby (by omega)];simpa using h1
   | succ i =>
     rw [aaT (by omega)]
     have:=AC (j:=j+1) (i:=i) (rest:=rest) h2 hr
     rw [show j+1+i=j+(i+1) by omega]at this
     simpa using this
theorem q6 {S1:FuncId->bH} {LP:eu} {N:Nat} (hcf:su w0 S1 LP false cf):∀ (t:OT) (e:bD) (h:List O) (ν:Nu) (nV nS:Nat) (sl:List ak) (lh:List ao) (K:bD->List O->T α) (KA:List ak->List ao->Prop),tp N t=true ->
 fL w0 ν N e sl->HR w0 ν nV nS h lh->bu LP (D5 cf t e h K) Q->(∀ e' h' ν' sl' lh',ν.sub ν'->fL w0 ν' N e' sl'->HR w0 ν' nV nS h' lh'->bu LP (K e' h') Q->KA sl' lh')->o8 w0 S1 t sl lh KA
 |.done,e,h,ν,nV,nS,sl,lh,K,KA,_,h1,h2,h3,h4=>h4 _ _ _ _ _ (Nu.sub_refl ν) h1 h2 h3
 | .op o r,e,h,ν,nV,nS,sl,lh,K,KA,hd,h1,h2,h3,h4=>by
   simp only [tp,aaw]at hd
   simp only [D5]at h3
   simp only [o8]
   exact ke hcf [o] e h ν sl lh _ _ hd.1 h1 h2 h3 fun e' h' ν' sl' lh' k0 k1 k2 k3=>q6 hcf r e' h' ν' nV nS sl' lh' K KA hd.2 k1 k2 k3 fun e2 h2 ν2 sl2 lh2 q0=>h4 e2 h2 ν2 sl2 lh2 (Nu.sub_trans k0 q0)
 | .alt a b,e,h,ν,nV,nS,sl,lh,K,KA,hd,h1,h2,h3,h4=>by
   simp only [tp,aaw]at hd
   simp only [D5,bu]at h3
   exact ⟨q6 hcf a e h ν nV nS sl lh K KA hd.1 h1 h2 h3.1 h4,q6 hcf b e h ν nV nS sl lh K KA hd.2 h1 h2 h3.2 h4⟩
theorem BC {lv:Nat} (hcf:su w0 (S lv) (cV w0 S) false cf) (hcp:vH w0 (S lv) (cV w0 S) cp) {un:kk} {N:Nat}:∀ (c:fS) (nb nbS bi:Nat) (e:bD) (h:List O) (ν:Nu) (nV nS:Nat) (sl:List ak) (lh:List ao) (K:Ex->bD->List O->T α) (KA:Ex->List ak->List ao->Prop),
 fj N c=true->fL w0 ν N e sl->HR w0 ν nV nS h lh->bu (cV w0 S) (ti cf cp un (lv,nb) bi c e h K) Q ->
 (∀ x e' h' ν' sl' lh' nV' nS',NuN nb ν ν'->fL w0 ν' N e' sl'->HR w0 ν' nV' nS' h' lh'->bu (cV w0 S) (K x e' h') Q->KA x sl' lh')->bY w0 (S lv) nbS c sl lh KA:=by
 intro c
 induction c with
 |skip=>intro nb nbS bi e h ν nV nS sl lh K KA _ h1 h2 h3 h4;exact h4 .normal _ _ _ _ _ _ _ (NuN.refl _ _) h1 h2 h3
 | reg ops =>
   intro nb nbS bi e h ν nV nS sl lh K KA hd h1 h2 h3 h4
   exact ke hcf ops e h ν sl lh _ _ hd h1 h2 h3 fun e' h' ν' sl' lh' g0 g1 g2 g3=>h4 .normal _ _ _ _ _ _ _ (NuN.of g0 _) g1 g2 g3
 | allo t =>
   intro nb nbS bi e h ν nV nS sl lh K KA hd h1 h2 h3 h4
   exact q6 hcf t e h ν nV nS sl lh _ _ hd h1 h2 h3 fun e' h' ν' sl' lh' g0 g1 g2 g3=>h4 .normal _ _ _ _ _ _ _ (NuN.of g0 _) g1 g2 g3
 | alloq t =>
   intro nb nbS bi e h ν nV nS sl lh K KA hd h1 h2 h3 h4
   exact q6 hcp.2 t e h ν nV nS sl lh _ _ hd h1 h2 h3 fun e' h' ν' sl' lh' g0 g1 g2 g3=>h4 .normal _ _ _ _ _ _ _ (NuN.of g0 _) g1 g2 g3
 | draw ds =>
   intro nb nbS bi e h ν nV nS sl lh K KA hd h1 h2 h3 h4
   exact sT hcp hd h1 h2 h3 fun e' h' ν' sl' lh' _ _ g0 g1 g2 g3=>h4 .normal _ _ _ _ _ _ _ (NuN.of g0 _) g1 g2 g3
 | seq a b iha ihb =>
   intro nb nbS bi e h ν nV nS sl lh K KA hd h1 h2 h3 h4
   simp only [fj,aaw]at hd
   refine iha nb nbS bi e h ν nV nS sl lh _ _ hd.1 h1 h2 h3 fun x e' h' ν' sl' lh' nV' nS' g0 g1 g2 g3=>?_
   cases x with
   |normal=>exact ihb nb nbS bi e' h' ν' nV' nS' sl' lh' K KA hd.2 g1 g2 g3 fun x e2 h2 ν2 sl2 lh2 nV2 nS2 q0=>h4 x e2 h2 ν2 sl2 lh2 nV2 nS2 (g0.trans q0)
   |exit i=>exact h4 _ _ _ _ _ _ _ _ g0 g1 g2 g3
   |ret=>exact h4 _ _ _ _ _ _ _ _ g0 g1 g2 g3
 | cond c a b iha ihb =>
   intro nb nbS bi e h ν nV nS sl lh K KA hd h1 h2 h3 h4
   simp only [fj,aaw]at hd
   simp only [ti]at h3
   have ha:=h1.arg c
   simp only [bY]
   split at h3
   ·rename_i hc
    rw [hc]at ha;simp only[vr]at ha;rw[ha]
    exact ⟨fun _=>iha nb nbS bi e h ν nV nS sl lh K KA hd.1 h1 h2 h3 h4,(fun he=>by cases he)⟩
   ·rename_i hc
    rw [hc]at ha;simp only[vr]at ha;rw[ha]
    exact ⟨(fun he=>by cases he),fun _=>ihb nb nbS bi e h ν nV nS sl lh K KA hd.2 h1 h2 h3 h4⟩
   ·rename_i t hc
    rw [hc]at ha;simp only[vr]at ha;rw[ha]
    split at h3
    ·rename_i s
     simp only [bu]at h3
     simp only [arg]at ha
     exact ⟨fun et=>iha nb nbS bi _ h ν nV nS sl lh K KA hd.1 (h1.know (by simp only[vr];rw[ha,et])) h2 (h3.1 et) h4,fun et=>ihb nb nbS bi _ h ν nV nS sl lh K KA hd.2 (h1.know (by simp only[vr];rw[ha,et])) h2 (h3.2 et) h4⟩
    ·simp only[bu]at h3
     exact ⟨fun et=>iha nb nbS bi _ h ν nV nS sl lh K KA hd.1 h1 h2 (h3.1 et) h4,fun et=>ihb nb nbS bi _ h ν nV nS sl lh K KA hd.2 h1 h2 (h3.2 et) h4⟩
   ·exact h3.elim
 | block id b ih =>
   intro nb nbS bi e h ν nV nS sl lh K KA hd h1 h2 h3 h4
   refine ih nb nbS id e h ν nV nS sl lh _ _ hd h1 h2 h3 fun x e' h' ν' sl' lh' nV' nS' g0 g1 g2 g3=>?_
   cases x with
   |normal=>exact h4 _ _ _ _ _ _ _ _ g0 g1 g2 g3
   |ret=>exact h4 _ _ _ _ _ _ _ _ g0 g1 g2 g3
   | exit i =>
     simp only [vF]
     by_cases hi:i=id
     ·subst hi;rw[aby rfl];simp only[apl,cond]at g3;exact h4 _ _ _ _ _ _ _ _ g0 g1 g2 g3
     ·rw[aaT hi]
      have:Nat.beq i id=false:=by cases hb:Nat.beq i id with|false=>rfl|true=>exact(hi (aax hb)).elim
      simp only [this,cond]at g3;exact h4 _ _ _ _ _ _ _ _ g0 g1 g2 g3
 | loop b ih =>
   intro nb nbS bi e h ν nV nS sl lh K KA hd h1 h2 h3 h4
   simp only [ti]at h3
   split at h3
   ·exact h3 N nbS ν nV nS sl lh KA hd h1 h2 h4
   ·rename_i n hn
    simp only [bY]
    refine ⟨SUn w0 (cV w0 S) Q nb N (ti cf cp un (lv,nb) bi b) K ν,SUn.sl,SUn.lh,SUn.n,⟨n+1,e,h,ν,nV,nS,sl,lh,h1,h2,NuN.refl _ _,h3⟩,.inl ⟨rfl,j5 _⟩,fun s=>?_⟩
    have hst:=s.st
    have hsn:=s.hn
    match hm:s.n,hst with
    |0,hst=>exact hst.elim
    | k+1,hst =>
      simp only [evL]at hst
      refine ih nb nbS bi s.e s.h s.ν s.nV s.nS s.sl s.lh _ _ hd s.hs s.hh hst fun x e' h' ν' sl' lh' nV' nS' g0 g1 g2 g3=>?_
      cases x with
      |normal=>exact⟨⟨k,e',h',ν',nV',nS',sl',lh',g1,g2,hsn.trans g0,g3⟩,.inl ⟨rfl,j5 _⟩,Nat.lt_succ_self k⟩
      |exit i=>exact h4 _ _ _ _ _ _ _ _ (hsn.trans g0) g1 g2 g3
      |ret=>exact h4 _ _ _ _ _ _ _ _ (hsn.trans g0) g1 g2 g3
 |exit i=>intro nb nbS bi e h ν nV nS sl lh K KA _ h1 h2 h3 h4;exact h4 _ _ _ _ _ _ _ _ (NuN.refl _ _) h1 h2 h3
 |ret=>intro nb nbS bi e h ν nV nS sl lh K KA _ h1 h2 h3 h4;exact h4 _ _ _ _ _ _ _ _ (NuN.refl _ _) h1 h2 h3
 |scope b ih=>intro nb nbS bi e h ν nV nS sl lh K KA hd h1 h2 h3 h4;exact ih nb nbS bi e h ν nV nS sl lh K KA hd h1 h2 h3 h4
 | range gop ps asg body its iha ihb =>
   intro nb nbS bi e h ν nV nS sl lh K KA hd h1 h2 h3 h4
   simp only [fj,aaw]at hd
   simp only [ti]at h3
   have ha:=h1.arg gop
   simp only [bY]
   split at h3
   ·rename_i f ys hg
    rw [hg]at ha
    simp only [vr,bg]at ha
    obtain ⟨us,vs,hav,rfl,hys⟩:=ha
    rw [hav]
    dsimp only
    split at h3
    ·rename_i it hit
     try rw[hit]
     try dsimp only
     cases hb:Nat.ble (bI ys+1) it.ntmps with
     |false=>rw[hb]at h3;exact h3.elim
     | true =>
       rw [hb]at h3
       simp only [cond,bu]at h3
       have hle:=aaF hb
       rw [bG]at hle
       have hl:=bC hys
       intro l
       have hdom:∀ k,bI h<=k->ν k=none:=fun k hk=>h2.dom k (by rw[← bG];exact hk)
       have hctx:Mc w0 (bI h) N e sl ν:=⟨ν,hdom,h1,Nu.sub_refl ν⟩
       have hY:Qu w0 (cV w0 S) Q (bI h) N e sl (fun vs h K=>cond (Nat.beq (bI vs) (bI ps)) (ti cf cp un (lv,bI h) bi asg (qe e ps vs) h fun x e1 h1=>match x with
        |.normal=>ti cf cp un (lv,bI h) bi body e1 h1 fun x _ h2=>K x h2
        |_=>.fail 94) (.fail 95)) (YA w0 (S lv) ps asg body sl):=by
        intro vs h ν nV nS args lh K KA hx hh hv hs hK
        dsimp only at hs
        cases hb:Nat.beq (bI vs) (bI ps) with
        |false=>rw[hb]at hs;exact hs.elim
        | true =>
          rw [hb]at hs
          simp only [cond]at hs
          have hlen:=aax hb
          rw [bG,bG]at hlen
          have hdom:∀ k,bI h<=k->ν k=none:=fun k hk=>hh.dom k (by rw[← bG];exact hk)
          refine ⟨by rw[bC hv];exact hlen,?_⟩
          refine iha (bI h) _ bi _ h ν nV nS _ lh _ _ hd.2.1 (sY ps e sl vs args hd.1 hx.get hv hlen) hh hs fun x e' h' ν' sl' lh' nV' nS' g0 g1 g2 g3=>?_
          cases x with
          |normal=>exact ihb (bI h) _ bi _ h' ν' nV' nS' _ lh' _ _ hd.2.2.1 g1 g2 g3 fun x e2 h2 ν2 sl2 lh2 nV2 nS2 q0 q1 q2 q3=>hK x h2 ν2 nV2 nS2 lh2 ((g0.trans q0).sub hdom) q2 q3
          |exit i=>exact g3.elim
          |ret=>exact g3.elim
       refine GU (rd:=⟨ps,asg,body,e,l⟩) (Y:=_) (sl0:=sl) (nb:=bI h) hcf hcp hd.1 hd.2.1 hd.2.2.1 rfl hY it.body 0 _ h none ν nV nS _ lh _ _ (xb hd.2.2.2 (oC hit).1) ⟨by simp;omega,fun i=>?_⟩ hctx h2 (h3 l) fun x e' h' g' ν' sl' lh' nV' nS' g0 g1 g2 g3=>?_
       ·rw [lD]
        cases i with
        |zero=>simp[vr]
        | succ i =>
          rw [aaT (by omega)]
          have:=AC (j:=1) (i:=i) (rest:=List.replicate (it.ntmps-(vs.length+1)) .any) hys (fun _ _=>trivial)
          rw [show 1+i=i+1 by omega]at this
          simpa using this
       ·have hsub:=g0.sub hdom
        cases x with
        |exit i=>exact g3.elim
        | normal =>
          cases g' with
          |none=>exact h4 .normal e h' ν' sl lh' nV' nS' (NuN.of hsub _) (h1.mono hsub) g2 g3
          |some x=>exact h4 x e h' ν' sl lh' nV' nS' (NuN.of hsub _) (h1.mono hsub) g2 g3
        | ret =>
          cases g' with
          |none=>exact h4 .normal e h' ν' sl lh' nV' nS' (NuN.of hsub _) (h1.mono hsub) g2 g3
          |some x=>exact h4 x e h' ν' sl lh' nV' nS' (NuN.of hsub _) (h1.mono hsub) g2 g3
    ·exact h3.elim
   ·exact h3.elim
theorem od {LP:eu} {ν:Nu} {nV nS N:Nat} {e:bD} {h:List O} {sl:List ak} {lh:List ao} (h1:fL w0 ν N e sl) (h2:HR w0 ν nV nS h lh):∀ (rs:List Bs) (K:List V->T α) (KA:List ak->Prop),bu LP (yal e h rs K) Q ->
 (∀ us az,bg w0 ν.z ν us az->bu LP (K us) Q->KA az)->iN w0 sl lh rs KA
 |[],K,KA,hs,hK=>hK [] [] (by simp only[bg]) hs
 | .tmp t::l,K,KA,hs,hK=>by
   simp only [yal]at hs
   obtain ⟨u,g1,g2⟩:=En rfl (h1.at' t) hs
   exact od h1 h2 l _ _ g2 fun us az g3 g4=>hK (u::us) _ (by simp only[bg];exact⟨_,_,rfl,g1,g3⟩) g4
 | .cell t n::l,K,KA,hs,hK=>by
   cases n with
   | none =>
     simp only [yal]at hs
     obtain ⟨g0,hs⟩:=uY rfl hs
     split at hs
     ·rename_i v hv
      obtain ⟨p,x,e1,e2,e3⟩:=yaF h2 (h1.at' t) hv g0
      simp only [iN,e1]
      exact ⟨x,e2,od h1 h2 l _ _ hs fun us az g3 g4=>hK (v::us) _ (by simp only[bg];exact⟨_,_,rfl,e3,g3⟩) g4⟩
     ·exact hs.elim
   | some n =>
     simp only [yal]at hs
     obtain ⟨g0,hs⟩:=uY rfl hs
     split at hs
     ·rename_i cs hv
      obtain ⟨p,x,e1,e2,e3⟩:=JX h2 (h1.at' t) hv g0
      simp only [iN,e1]
      exact ⟨x,e2,od h1 h2 l _ _ hs fun us az g3 g4=>hK (.agg cs::us) _ (by simp only[bg];exact⟨_,_,rfl,by simp only[vr];exact⟨_,rfl,e3⟩,g3⟩) g4⟩
     ·exact hs.elim
theorem GX {lh:List ao} {ν:Nu}:∀ {us:List V} {az:List ak},bg w0 lh ν us az->vr w0 lh ν (sP us) (qy az)
 |[],az,h=>by simp only[bg]at h;subst h;simp only[sP,qy,vr];exact⟨_,rfl,by simp only[bg]⟩
 |[u],az,h=>by simp only[bg]at h;obtain⟨x,xs,rfl,h1,rfl⟩:=h;exact h1
 | u::v::us,az,h=>by
   have h':=h
   simp only [bg]at h;obtain⟨x,xs,rfl,h1,y,ys,rfl,h2⟩:=h
   simp only [sP,qy,vr];exact⟨_,rfl,h'⟩
theorem HR.none (w0:World):HR w0 Nu.nil 0 0 [] []:=⟨(fun k o h=>by simp at h),(fun k k' x x' _ _ h=>by cases h),(fun _ _=>rfl),(fun k x h=>by cases h),J2 _,(fun k x _ h=>by cases h)⟩
theorem qP {lv:Nat} (hcf:su w0 (S lv) (cV w0 S) false cf) (hcp:vH w0 (S lv) (cV w0 S) cp) {un:kk} {sf:aK} {args:List V} {az:List ak} {h:List O} {lh:List ao} {ν:Nu} {nV nS:Nat} {K:V->List O->T α} {KA:ak->List ao->Prop} (hd:fj sf.ntmps sf.body=true)
 (ha:bg w0 ν.z ν args az) (hh:HR w0 ν nV nS h lh) (hs:bu (cV w0 S) (m6 cf cp un lv sf args h K) Q)
 (hK:∀ v h' ν' a lh',ν.sub ν'->(∀ nV nS,HR w0 ν' nV nS h' lh')->vr w0 ν'.z ν' v a->bu (cV w0 S) (K v h') Q->KA a lh'):IX w0 (S lv) sf az lh KA:=by
 unfold m6 at hs
 cases hb:Nat.ble (bI args) sf.ntmps with
 |false=>rw[hb]at hs;exact hs.elim
 | true =>
   rw [hb]at hs
   simp only [cond]at hs
   have hle:=aaF hb
   rw [bG]at hle
   have hl:=bC ha
   have hdom:∀ k,bI h<=k->ν k=none:=fun k hk=>hh.dom k (by rw[← bG];exact hk)
   unfold IX
   refine BC hcf hcp sf.body (bI h) _ 0 _ h ν nV nS _ lh _ _ hd ⟨by simp;omega,fun i=>?_⟩ hh hs fun x e' h' ν' sl' lh' nV' nS' g0 g1 g2 g3=>?_
   ·have:=AC (j:=0) (i:=i) (rest:=List.replicate (sf.ntmps-az.length) .any) ha (fun _ _=>trivial)
    rwa [aeb]at this
   ·cases x with
    |exit i=>exact g3.elim
    |normal=>exact od g1 g2 _ _ _ g3 fun us vs k1 k2=>hK _ _ ν' _ _ (g0.sub hdom) (fun a b=>g2.undead a b) (GX k1) k2
    |ret=>exact od g1 g2 _ _ _ g3 fun us vs k1 k2=>hK _ _ ν' _ _ (g0.sub hdom) (fun a b=>g2.undead a b) (GX k1) k2
def j7 (w0:World) (nb:Nat) (e:bD) (h:List O) (e1:bD) (h1:List O):Prop :=
 ∀ (N:Nat) (ν:Nu) (nV nS:Nat) (sl:List ak) (lh:List ao),fL w0 ν N e sl->HR w0 ν nV nS h lh->∃ ν1 nV1 nS1,NuN nb ν ν1/\fL w0 ν1 N e1 sl/\HR w0 ν1 nV1 nS1 h1 lh
structure LSt (w0:World) (nb N:Nat) (I:Type) (inv:I->bD×List O) (ν0:Nu) where
 i:I
 ν:Nu
 nV:Nat
 nS:Nat
 sl:List ak
 lh:List ao
 hs:fL w0 ν N (inv i).1 sl
 hh:HR w0 ν nV nS (inv i).2 lh
 hn:NuN nb ν0 ν
theorem YM {fr:Nat×Nat} {cf:CF (Ex×bD×List O)} {cp:CP (Ex×bD×List O)} (hcf:su w0 (S fr.1) (cV w0 S) false cf) (hcp:vH w0 (S fr.1) (cV w0 S) cp) {un:kk} {bi:Nat} {body:fS} {e:bD} {h:List O} {Post:Ex->bD->List O->Option Ex->Prop}
 (I:Type) (inv:I->bD×List O) (μ:I->Nat) (h0:∃ i,j7 w0 fr.2 e h (inv i).1 (inv i).2)
 (round:∀ i,bu (cV w0 S) (ti cf cp un fr bi body (inv i).1 (inv i).2 fun x e h=>.ret (x,e,h)) fun r=>match r.1 with
   |.normal=>∃ i',j7 w0 fr.2 r.2.1 r.2.2 (inv i').1 (inv i').2/\μ i'<μ i
   |x=>Post x r.2.1 r.2.2 none):cV w0 S fr (.s body) e h none Post:=by
 intro N nbS ν nV nS sl lh QA hd h1 h2 hQ
 obtain ⟨i0,hi0⟩:=h0
 obtain ⟨ν1,nV1,nS1,g0,g1,g2⟩:=hi0 N ν nV nS sl lh h1 h2
 simp only [bY]
 refine ⟨LSt w0 fr.2 N I inv ν,fun s=>s.sl,fun s=>s.lh,fun s=>μ s.i,⟨i0,ν1,nV1,nS1,sl,lh,g1,g2,g0⟩,.inl ⟨rfl,j5 _⟩,fun s=>?_⟩
 refine BC hcf hcp body fr.2 nbS bi _ _ s.ν s.nV s.nS s.sl s.lh _ _ hd s.hs s.hh (round s.i) fun x e' h' ν' sl' lh' nV' nS' k0 k1 k2 k3=>?_
 simp only [bu]at k3
 cases x with
 | normal =>
   obtain ⟨i',k4,k5⟩:=k3
   obtain ⟨ν2,nV2,nS2,k8,k6,k7⟩:=k4 N ν' nV' nS' sl' lh' k1 k2
   exact ⟨⟨i',ν2,nV2,nS2,sl',lh',k6,k7,(s.hn.trans k0).trans k8⟩,.inl ⟨rfl,j5 _⟩,k5⟩
 |exit i=>exact hQ _ _ _ _ _ _ _ _ (s.hn.trans k0) k1 k2 k3
 |ret=>exact hQ _ _ _ _ _ _ _ _ (s.hn.trans k0) k1 k2 k3
structure asp (w0:World) (nb N:Nat) (I:Type) (inv:I->bD×List O×Option Ex) (ν0:Nu) where
 i:I
 ν:Nu
 nV:Nat
 nS:Nat
 sl:List ak
 lh:List ao
 hs:fL w0 ν N (inv i).1 sl
 hh:HR w0 ν nV nS (inv i).2.1 lh
 hn:NuN nb ν0 ν
def rdY (cf:CF α) (cp:CP α) (un:kk) (lv bi:Nat) (rd:RD):YV α:=fun vs h K=>cond (Nat.beq (bI vs) (bI rd.ps)) (ti cf cp un (lv,bI h) bi rd.asg (qe rd.e0 rd.ps vs) h fun x e1 h1=>match x with
 |.normal=>ti cf cp un (lv,bI h) bi rd.body e1 h1 fun x _ h2=>K x h2
 |_=>.fail 94) (.fail 95)
theorem ahJ {lv bi:Nat} {un:kk} {rd:RD} {nb N:Nat} {sl:List ak} (hcf:su w0 (S lv) (cV w0 S) false cf) (hcp:vH w0 (S lv) (cV w0 S) cp) (h0:vp N rd.ps=true) (h1:fj N rd.asg=true) (h2:fj N rd.body=true) :
 Qu w0 (cV w0 S) Q nb N rd.e0 sl (rdY cf cp un lv bi rd) (YA w0 (S lv) rd.ps rd.asg rd.body sl):=by
 intro vs h ν nV nS args lh K KA hx hh hv hs hK
 unfold rdY at hs
 cases hb:Nat.beq (bI vs) (bI rd.ps) with
 |false=>rw[hb]at hs;exact hs.elim
 | true =>
   rw [hb]at hs
   simp only [cond]at hs
   have hlen:=aax hb
   rw [bG,bG]at hlen
   have hdom:∀ k,bI h<=k->ν k=none:=fun k hk=>hh.dom k (by rw[← bG];exact hk)
   refine ⟨by rw[bC hv];exact hlen,?_⟩
   refine BC hcf hcp rd.asg (bI h) _ bi _ h ν nV nS _ lh _ _ h1 (sY rd.ps rd.e0 sl vs args h0 hx.get hv hlen) hh hs fun x e' h' ν' sl' lh' nV' nS' g0 g1 g2 g3=>?_
   cases x with
   |normal=>exact BC hcf hcp rd.body (bI h) _ bi _ h' ν' nV' nS' _ lh' _ _ h2 g1 g2 g3 fun x e2 h2 ν2 sl2 lh2 nV2 nS2 q0 q1 q2 q3=>hK x h2 ν2 nV2 nS2 lh2 ((g0.trans q0).sub hdom) q2 q3
   |exit i=>exact g3.elim
   |ret=>exact g3.elim
theorem Ni {fr:Nat×Nat} {cf:CF (Ex×bD×List O×Option Ex)} {cp:CP (Ex×bD×List O×Option Ex)} (hcf:su w0 (S fr.1) (cV w0 S) false cf) (hcp:vH w0 (S fr.1) (cV w0 S) cp) {un:kk} {bi bi':Nat} {body:gW} {rd:RD} {e:bD} {h:List O} {g:Option Ex} {Post:Ex->bD->List O->Option Ex->Prop}
 (I:Type) (inv:I->bD×List O×Option Ex) (μ:I->Nat) (h0:∃ i,g=(inv i).2.2/\j7 w0 fr.2 e h (inv i).1 (inv i).2.1)
 (round:∀ i,bu (cV w0 S) (mA cf cp un fr rd (rdY cf cp un fr.1 bi' rd) bi body (inv i).1 (inv i).2.1 (inv i).2.2 fun x e h g=>.ret (x,e,h,g)) fun r=>match r.1 with
   |.normal=>∃ i',r.2.2.2=(inv i').2.2/\j7 w0 fr.2 r.2.1 r.2.2.1 (inv i').1 (inv i').2.1/\μ i'<μ i
   |x=>Post x r.2.1 r.2.2.1 r.2.2.2):cV w0 S fr (.i body rd) e h g Post:=by
 intro N N0 ν nV nS sl sl0 lh QA hd hp0 hp1 hp2 h1 hx h2 hQ
 obtain ⟨i0,rfl,hi0⟩:=h0
 obtain ⟨ν1,nV1,nS1,g0,g1,g2⟩:=hi0 N ν nV nS sl lh h1 h2
 simp only [kg]
 refine ⟨asp w0 fr.2 N I inv ν,fun s=>s.sl,fun s=>s.lh,fun s=>(inv s.i).2.2,fun s=>μ s.i,⟨i0,ν1,nV1,nS1,sl,lh,g1,g2,g0⟩,rfl,rfl,rfl,fun s=>?_⟩
 refine GU (Y:=rdY cf cp un fr.1 bi' rd) (sl0:=sl0) hcf hcp hp0 hp1 hp2 rfl (ahJ hcf hcp hp0 hp1 hp2) body bi _ _ _ s.ν s.nV s.nS s.sl s.lh _ _ hd s.hs (hx.step s.hn) s.hh (round s.i) fun x e' h' g' ν' sl' lh' nV' nS' k0 k1 k2 k3=>?_
 simp only [bu]at k3
 cases x with
 | normal =>
   obtain ⟨i',k9,k4,k5⟩:=k3
   obtain ⟨ν2,nV2,nS2,k8,k6,k7⟩:=k4 N ν' nV' nS' sl' lh' k1 k2
   exact ⟨⟨i',ν2,nV2,nS2,sl',lh',k6,k7,(s.hn.trans k0).trans k8⟩,rfl,rfl,k9,k5⟩
 |exit i=>exact hQ _ _ _ _ _ _ _ _ _ (s.hn.trans k0) k1 k2 k3
 |ret=>exact hQ _ _ _ _ _ _ _ _ _ (s.hn.trans k0) k1 k2 k3
end
section
variable {B:cY} {m:aF} {lh:List ao} {w:World}
mutual
theorem dD (h:a7 B m lh w):∀ (d:V) (x:ak) (u:Value),d.fc=true->vr B.w0 lh Nu.nil d x->vrel m x u->vr w [] Nu.nil d (bz u)
 |.int ..,x,u,_,hd,hv=>by simp only[vr]at hd;subst hd;simp only[vrel]at hv;subst hv;simp only[bz,vr]
 |.bool _,x,u,_,hd,hv=>by simp only[vr]at hd;subst hd;simp only[vrel]at hv;subst hv;simp only[bz,vr]
 |.kb _,x,u,_,hd,hv=>by simp only[vr]at hd;subst hd;simp only[vrel]at hv;subst hv;simp only[bz,vr]
 |.str _,x,u,_,hd,hv=>by simp only[vr]at hd;subst hd;simp only[vrel]at hv;subst hv;simp only[bz,vr]
 |.agg _,_,_,hc,_,_=>by cases hc
 |.tup _,_,_,hc,_,_=>by cases hc
 |.fn ..,_,_,hc,_,_=>by cases hc
 |.gd ..,_,_,hc,_,_=>by cases hc
 |.yl _,_,_,hc,_,_=>by cases hc
 | .sl n f,x,u,_,hd,hv=>by
   simp only [vr]at hd ⊢
   obtain ⟨p,c,esz,rfl,h2,h3,h4,h5⟩:=hd
   simp only [vrel]at hv
   obtain ⟨q,rfl,hq⟩:=hv
   refine ⟨q.map .g,c,esz,by cases q<;>rfl,h2,h3,by cases q<;>trivial,fun i hi=>?_⟩
   obtain ⟨p',az,rfl,g2,g3,g4⟩:=h5 i hi
   obtain ⟨a,us,hqa,k1,k2⟩:=xC (q:=q.map fun a=>a.add (i*esz)) h (by
    cases p' with
    |g a=>simp only[dC]at hq;subst hq;simp[dC,gR.add]
    |l k off=>simp only[dC]at hq;obtain⟨b,e1,rfl⟩:=hq;simp only[dC,gR.add];exact⟨b,e1,by simp[Addr.add]⟩) g2
   cases q with
   |none=>cases hqa
   | some a0 =>
     simp at hqa
     subst hqa
     exact ⟨.g a0,_,rfl,k1,oA h (f i) az us g4 g3 k2,g4⟩
 | .sq n m f,x,u,_,hd,hv=>by
   simp only [vr]at hd ⊢
   obtain ⟨p,c,esz,rfl,h2,h3,h4,h5⟩:=hd
   simp only [vrel]at hv
   obtain ⟨q,rfl,hq⟩:=hv
   refine ⟨q.map .g,c,esz,by cases q<;>rfl,h2,h3,by cases q<;>trivial,fun i hi=>?_⟩
   obtain ⟨p',az,rfl,g2,g3,g4⟩:=h5 i hi
   obtain ⟨a,us,hqa,k1,k2⟩:=xC (q:=q.map fun a=>a.add (i*esz)) h (by
    cases p' with
    |g a=>simp only[dC]at hq;subst hq;simp[dC,gR.add]
    |l k off=>simp only[dC]at hq;obtain⟨b,e1,rfl⟩:=hq;simp only[dC,gR.add];exact⟨b,e1,by simp[Addr.add]⟩) g2
   cases q with
   |none=>cases hqa
   | some a0 =>
     simp at hqa
     subst hqa
     exact ⟨.g a0,_,rfl,k1,oA h (f i) az us g4 g3 k2,g4⟩
 | .pd cs,x,u,_,hd,hv=>by
   simp only [vr]at hd ⊢
   obtain ⟨p,az,rfl,_,h3,h4,h5⟩:=hd
   simp only [vrel]at hv
   obtain ⟨q,rfl,hq⟩:=hv
   obtain ⟨a,us,rfl,k1,k2⟩:=xC h hq h3
   exact ⟨.g a,_,rfl,trivial,k1,oA h cs az us h5 h4 k2,h5⟩
 |.pl k off,x,u,_,hd,hv=>by simp only[vr]at hd;obtain⟨b,c,e,h1,h2⟩:=hd;cases h1
 |.pe k i j,x,u,_,hd,hv=>by simp only[vr]at hd;obtain⟨b,c,e,h1,h2⟩:=hd;cases h1
 |.ss k off n c,x,u,_,hd,hv=>by simp only[vr]at hd;obtain⟨b,c,e,h1,h2⟩:=hd;cases h1
 |.gs k n,x,u,_,hd,hv=>by simp only[vr]at hd;rcases hd with ⟨h1,_⟩|⟨b,c,e,h1,_⟩<;>cases h1
 |.go k off n,x,u,_,hd,hv=>by simp only[vr]at hd;rcases hd with ⟨h1,_⟩|⟨b,c,e,o,h1,_⟩<;>cases h1
 |.ns,x,u,_,hd,hv=>by simp only[vr]at hd;subst hd;simp only[vrel,dC]at hv;obtain⟨q,rfl,rfl⟩:=hv;simp only[bz,vr]
 |.np,x,u,_,hd,hv=>by simp only[vr]at hd;subst hd;simp only[vrel,dC]at hv;obtain⟨q,rfl,rfl⟩:=hv;simp only[bz,vr]
 |.any,x,u,_,hd,hv=>by simp only[vr]
theorem oA (h:a7 B m lh w):∀ (ds:List V) (xs:List ak) (us:List Value),ds.all V.fc=true->bg B.w0 lh Nu.nil ds xs->ar m xs us->bg w [] Nu.nil ds (us.map bz)
 |[],xs,us,_,hd,hv=>by simp only[bg]at hd;subst hd;simp only[ar]at hv;subst hv;simp only[bg,apm]
 | d::ds,xs,us,hc,hd,hv=>by
   simp only [adT,aaw]at hc
   simp only [bg]at hd
   obtain ⟨x,xs',rfl,h2,h3⟩:=hd
   simp only [ar]at hv
   obtain ⟨u,us',rfl,h4,h5⟩:=hv
   simp only [ahC,bg]
   exact ⟨_,_,rfl,dD h d x u hc.1 h2 h4,oA h ds xs' us' hc.2 h3 h5⟩
end
mutual
theorem JY (h:a7 B m lh w):∀ (d:V) (x:ak) (u:Value),vr B.w0 lh Nu.nil d x->vrel m x u->∃ x',vrel (fun _=>none) x' u/\vr w [] Nu.nil d x'
 | .agg cs,x,u,hd,hv=>by
   simp only [vr]at hd
   obtain ⟨az,rfl,h1⟩:=hd
   simp only [vrel]at hv
   obtain ⟨us,rfl,h2⟩:=hv
   obtain ⟨xs',g1,g2⟩:=jT h cs az us.toList h1 h2
   exact ⟨.agg xs',by simp only[vrel];exact⟨us,rfl,g1⟩,by simp only[vr];exact⟨_,rfl,g2⟩⟩
 | .tup cs,x,u,hd,hv=>by
   simp only [vr]at hd
   obtain ⟨az,rfl,h1⟩:=hd
   simp only [vrel]at hv
   obtain ⟨us,rfl,h2⟩:=hv
   obtain ⟨xs',g1,g2⟩:=jT h cs az us.toList h1 h2
   exact ⟨.tup xs',by simp only[vrel];exact⟨us,rfl,g1⟩,by simp only[vr];exact⟨_,rfl,g2⟩⟩
 | .fn f xs ys,x,u,hd,hv=>by
   simp only [vr]at hd
   obtain ⟨us,vs,rfl,h1,h2⟩:=hd
   simp only [vrel]at hv
   obtain ⟨us',vs',rfl,h3,h4⟩:=hv
   obtain ⟨az,g1,g2⟩:=jT h xs us us'.toList h1 h3
   obtain ⟨bs,g3,g4⟩:=jT h ys vs vs'.toList h2 h4
   exact ⟨.fn (.func f) az bs,by simp only[vrel];exact⟨us',vs',rfl,g1,g3⟩,by simp only[vr];exact⟨az,bs,rfl,g2,g4⟩⟩
 | .gd b v,x,u,hd,hv=>by
   simp only [vr]at hd
   cases b with
   |true=>obtain⟨x',g1,g2⟩:=JY h v x u (hd.1 rfl) hv;exact⟨x',g1,by simp only[vr];exact⟨fun _=>g2,fun e=>by cases e⟩⟩
   | false =>
     obtain ⟨l,rfl⟩:=hd.2 rfl
     simp only [vrel]at hv
     obtain ⟨vs,rfl,_⟩:=hv
     exact ⟨.tup (vs.toList.map bz),by simp only[vrel];exact⟨vs,rfl,bT _ _⟩,by simp only[vr];exact⟨(fun e=>by cases e),fun _=>⟨_,rfl⟩⟩⟩
 |.int k n,x,u,hd,hv=>⟨bz u,bZ _ u,dD h (.int k n) x u rfl hd hv⟩
 |.bool b,x,u,hd,hv=>⟨bz u,bZ _ u,dD h (.bool b) x u rfl hd hv⟩
 |.kb b,x,u,hd,hv=>⟨bz u,bZ _ u,dD h (.kb b) x u rfl hd hv⟩
 |.str b,x,u,hd,hv=>⟨bz u,bZ _ u,dD h (.str b) x u rfl hd hv⟩
 |.sl n f,x,u,hd,hv=>⟨bz u,bZ _ u,dD h (.sl n f) x u rfl hd hv⟩
 |.sq n m f,x,u,hd,hv=>⟨bz u,bZ _ u,dD h (.sq n m f) x u rfl hd hv⟩
 |.pd b,x,u,hd,hv=>⟨bz u,bZ _ u,dD h (.pd b) x u rfl hd hv⟩
 |.pl k off,x,u,hd,hv=>⟨bz u,bZ _ u,dD h (.pl k off) x u rfl hd hv⟩
 |.pe k i j,x,u,hd,hv=>⟨bz u,bZ _ u,dD h (.pe k i j) x u rfl hd hv⟩
 |.ss k off n c,x,u,hd,hv=>⟨bz u,bZ _ u,dD h (.ss k off n c) x u rfl hd hv⟩
 |.gs k n,x,u,hd,hv=>⟨bz u,bZ _ u,dD h (.gs k n) x u rfl hd hv⟩
 |.ns,x,u,hd,hv=>⟨bz u,bZ _ u,dD h .ns x u rfl hd hv⟩
 |.np,x,u,hd,hv=>⟨bz u,bZ _ u,dD h .np x u rfl hd hv⟩
 |.any,x,u,hd,hv=>⟨bz u,bZ _ u,dD h .any x u rfl hd hv⟩
 |.go k off n,x,u,hd,hv=>⟨bz u,bZ _ u,dD h (.go k off n) x u rfl hd hv⟩
 |.yl l,x,u,hd,hv=>⟨iZ l,by simp only[vr]at hd;subst hd;simp only[iZ,vrel]at hv ⊢;exact hv,by simp only[vr]⟩
theorem jT (h:a7 B m lh w):∀ (ds:List V) (xs:List ak) (us:List Value),bg B.w0 lh Nu.nil ds xs->ar m xs us->∃ xs',ar (fun _=>none) xs' us/\bg w [] Nu.nil ds xs'
 | [],xs,us,hd,hv=>by
   simp only [bg]at hd;subst hd
   simp only [ar]at hv;subst hv
   exact ⟨[],by simp only[ar],by simp only[bg]⟩
 | d::ds,xs,us,hd,hv=>by
   simp only [bg]at hd
   obtain ⟨x,xs',rfl,h2,h3⟩:=hd
   simp only [ar]at hv
   obtain ⟨u,us',rfl,h4,h5⟩:=hv
   obtain ⟨a,g1,g2⟩:=JY h d x u h2 h4
   obtain ⟨az,g3,g4⟩:=jT h ds xs' us' h3 h5
   exact ⟨a::az,by simp only[ar];exact⟨_,_,rfl,g1,g3⟩,by simp only[bg];exact⟨_,_,rfl,g2,g4⟩⟩
end
end
section
variable {w0:World} {ν:Nu} {nV nS:Nat} {h:List O} {lh:List ao}
theorem Tv (v:V):(rJ v).fc=true:=by
 unfold rJ
 cases hv:v.fc with
 |true=>simpa using hv
 |false=>rfl
theorem Rj {v:V} {a:ak} (hv:vr w0 lh Nu.nil v a):vr w0 lh Nu.nil (rJ v) a:=by
 unfold rJ
 cases v.fc with
 |true=>exact hv
 |false=>simp only[cond,vr]
theorem sn (g:V->V) (l:List V):(l.map fun v=>rJ (g v)).all V.fc=true:=by
 rw [anT];intro x hx
 rw [List.mem_map]at hx
 obtain ⟨v,_,rfl⟩:=hx
 exact Tv _
theorem um {lh':List ao} {ν':Nu} {g:V->V} (hg:∀ v a,vr w0 lh ν v a->vr w0 lh' ν' (g v) a):∀ {vs:List V} {az:List ak},bg w0 lh ν vs az->bg w0 lh' ν' (vs.map g) az
 |[],az,hv=>by simp only[bg]at hv ⊢;subst hv;simp only[apm,bg]
 |v::vs,az,hv=>by simp only[bg]at hv;obtain⟨x,xs,rfl,h1,h2⟩:=hv;simp only[ahC,bg];exact⟨_,_,rfl,hg v x h1,um hg h2⟩
theorem nK (hh:HR w0 ν nV nS h lh):∀ (fu:Nat) (v:V) (a:ak),vr w0 ν.z ν v a->vr w0 lh Nu.nil (kI h fu v) a
 |0,v,a,_=>by simp only[kI,vr]
 | fu + 1, v,a,hv=>by
   have ih:∀ {vs:List V} {az:List ak},bg w0 ν.z ν vs az->bg w0 lh Nu.nil (vs.map (kI h fu)) az:=fun hvs=>um (fun v a=>nK hh fu v a) hvs
   have ihc:∀ {vs:List V} {az:List ak},bg w0 ν.z ν vs az->bg w0 lh Nu.nil (vs.map fun v=>rJ (kI h fu v)) az:=fun hvs=>um (fun v a hv=>Rj (nK hh fu v a hv)) hvs
   unfold kI
   split
   ·simp only[vr]at hv ⊢;exact hv
   ·simp only[vr]at hv ⊢;exact hv
   ·simp only[vr]at hv ⊢;exact hv
   ·simp only[vr]at hv ⊢;exact hv
   ·rename_i n f
    exact kK hh.zl _ _ (by simp only[vr]at hv ⊢;exact hv)
   ·rename_i n m f
    exact kK hh.zl _ _ (by simp only[vr]at hv ⊢;exact hv)
   ·rename_i cs
    exact kK hh.zl _ _ (by simp only[vr]at hv ⊢;exact hv)
   ·simp only[vr]at hv ⊢;subst hv;exact⟨none,0,0,rfl,aaS _,by omega,trivial,fun i hi=>by omega⟩
   ·simp only[vr]at hv ⊢;obtain⟨az,h1,h2⟩:=hv;exact⟨az,h1,ih h2⟩
   ·simp only[vr]at hv ⊢;obtain⟨us,vs,h1,h2,h3⟩:=hv;exact⟨us,vs,h1,ih h2,ih h3⟩
   ·rename_i k off
    rw [be]
    split
    ·rename_i cs ty hk
     rw [bG]
     cases hb:Nat.ble off cs.length with
     |false=>simp only[cond,vr]
     | true =>
       have hle:=aaF hb
       simp only [cond]
       obtain ⟨b,c0,e0,az,h1,h2,h3⟩:=hh.blk k _ hk
       simp only [vr]at hv ⊢
       obtain ⟨b',c',e',g1,rfl⟩:=hv
       rw [h1]at g1
       obtain ⟨rfl,rfl,rfl⟩:b=b'/\c0=c'/\e0=e':=by simpa using g1
       have hl:=bC h3
       refine ⟨.l b off,az.drop off,rfl,by simp[okP,h2,isCells],?_,ihc (fN _ h3),sn _ _⟩
       simp only [lds,h2,List.length_map,aph]
       rw [aby (by omega),ajO (by simp;omega)]
    ·simp only[vr]
   ·rename_i k n
    rw [be]
    split
    ·rename_i e n' f ty hk
     cases hb:Nat.ble n n' with
     |false=>simp only[cond,vr]
     | true =>
       have hle:=aaF hb
       simp only [cond]
       have hb:=hh.blk k _ hk
       simp only [vr]at hv ⊢
       rcases hb with ⟨h1,h2⟩|⟨b,c,az,h1,h2,h3,h4,h5⟩
       ·rcases hv with ⟨_,g2,rfl⟩|⟨b,c,e,g1,_⟩
        ·subst g2;exact⟨none,0,0,rfl,aaS _,by omega,trivial,fun i hi=>by omega⟩
        ·rw[h1]at g1;cases g1
       ·rcases hv with ⟨g1,_⟩|⟨b',c',e',g1,rfl,g3⟩
        ·rw[h1]at g1;cases g1
        ·rw [h1]at g1
         obtain ⟨rfl,rfl,rfl⟩:b=b'/\c=c'/\e=e':=by simpa using g1
         refine ⟨some (.l b 0),c,e,rfl,g3,by omega,⟨az,ty,h2,acK _⟩,fun i hi=>?_⟩
         have hi':i*e+e<=az.length:=by
          rw [h3,← adm];exact abt e (by omega)
         refine ⟨_,_,rfl,?_,ihc (h5 i (by omega)).2,sn _ _⟩
         simp only [gR.add,lds,h2,aeb]
         rw [aby (by omega)]
    ·simp only[vr]
   ·rename_i k off n c
    rw [be]
    split
    ·rename_i cs ty hk
     rw [bG]
     cases hb:(Nat.ble n 9223372036854775807&&(Nat.ble n c&&Nat.ble (off+n*((cs.length-off) / c)) cs.length)) with
     |false=>simp only[cond,vr]
     | true =>
       simp only [aaw]at hb
       have b1:=aaF hb.1
       have b2:=aaF hb.2.1
       have b3:=aaF hb.2.2
       simp only [cond]
       obtain ⟨b,c0,e0,az,h1,h2,h3⟩:=hh.blk k _ hk
       simp only [vr]at hv ⊢
       obtain ⟨b',c',e',g1,rfl⟩:=hv
       rw [h1]at g1
       obtain ⟨rfl,rfl,rfl⟩:b=b'/\c0=c'/\e0=e':=by simpa using g1
       have hl:=bC h3
       refine ⟨some (.l b off),c,(cs.length-off) / c,rfl,⟨b2,b2⟩,b1,⟨az,ty,h2,by omega⟩,fun i hi=>?_⟩
       have hi':off+i*((cs.length-off) / c)+(cs.length-off) / c<=cs.length:=by
        have:(i+1)*((cs.length-off) / c)<=n*((cs.length-off) / c):=abt _ (by omega)
        rw [adm]at this
        omega
       refine ⟨_,_,rfl,?_,gN _ (fN _ (ihc h3)),HX _ _ (sn _ _)⟩
       simp only [gR.add,lds,h2]
       rw [aby (by omega)]
    ·simp only[vr]
   ·simp only[vr]
theorem SK (hz:uh ν.z lh) {v:V} {a:ak} (hv:vr w0 ν.z ν v a):vr w0 lh Nu.nil (Dm v) a:=by
 unfold Dm
 split
 ·simp only[vr]at hv ⊢;exact hv
 ·simp only[vr]at hv ⊢;exact hv
 ·simp only[vr]at hv ⊢;exact hv
 ·simp only[vr]at hv ⊢;exact hv
 ·exact kK hz _ _ (by simp only[vr]at hv ⊢;exact hv)
 ·exact kK hz _ _ (by simp only[vr]at hv ⊢;exact hv)
 ·simp only[vr]
theorem yaZ (v:V):(Dm v).fc=true:=by cases v<;>rfl
theorem yaM (l:List V):(l.map Dm).all V.fc=true:=by
 rw [anT];intro x hx
 rw [List.mem_map]at hx
 obtain ⟨v,_,rfl⟩:=hx
 exact yaZ _
def UV (l:List (Nat×Nat)):Prop:=∀ p,p∈l->p.1<=p.2
theorem J3 {a b:List (Nat×Nat)} (h:UV (xl a b)):UV a/\UV b:=by
 rw [kO]at h
 exact ⟨fun p hp=>h p (apc _ hp),fun p hp=>h p (List.mem_append_right _ hp)⟩
theorem w5 {α:Type} {LP:eu} {Q:α->Prop}:∀ {l:List (Nat×Nat)} {x:T α},bu LP (obs l x) Q->UV l/\bu LP x Q
 |[],x,h=>⟨(fun p hp=>by cases hp),h⟩
 | p::l,x,h=>by
   simp only [obs,bu]at h
   obtain ⟨h1,h2⟩:=w5 h.2
   refine ⟨fun q hq=>?_,h2⟩
   rcases List.mem_cons.1 hq with rfl|hq
   ·exact aaF h.1
   ·exact h1 q hq
theorem yav (hh:HR w0 ν nV nS h lh) {k n:Nat} {a:ak} (hm:UV (IT h k n)) (hv:vr w0 ν.z ν (.gs k n) a):vr w0 lh Nu.nil (Ie h k n) a:=by
 unfold IT at hm
 unfold Ie
 rw [be]at hm ⊢
 split
 ·rename_i e n' f ty hk
  rw [hk]at hm
  have hle:n<=n':=hm (n,n') ahE
  have hb:=hh.blk k _ hk
  cases Nat.beq e 6 with
  |true=>exact nK hh 11 _ a hv
  |false =>
  show vr w0 lh Nu.nil (.sl n (y4 f)) a
  simp only [vr]at hv ⊢
  rcases hb with ⟨h1,h2⟩|⟨b,c,az,h1,h2,h3,h4,h5⟩
  ·rcases hv with ⟨_,g2,rfl⟩|⟨b,c,e,g1,_⟩
   ·subst g2;exact⟨none,0,0,rfl,aaS _,by omega,trivial,fun i hi=>by omega⟩
   ·rw[h1]at g1;cases g1
  ·rcases hv with ⟨g1,_⟩|⟨b',c',e',g1,rfl,g3⟩
   ·rw[h1]at g1;cases g1
   ·rw [h1]at g1
    obtain ⟨rfl,rfl,rfl⟩:b=b'/\c=c'/\e=e':=by simpa using g1
    refine ⟨some (.l b 0),c,e,rfl,g3,by omega,⟨az,ty,h2,acK _⟩,fun i hi=>?_⟩
    have hi':i*e+e<=az.length:=by
     rw [h3,← adm];exact abt e (by omega)
    refine ⟨_,_,rfl,?_,um (fun v a hv=>SK hh.zl hv) (h5 i (by omega)).2,yaM _⟩
    simp only [gR.add,lds,h2,aeb]
    rw [aby (by omega)]
 ·simp only[vr]
theorem Tg (hh:HR w0 ν nV nS h lh) {v:V} {a:ak} (hb:UV (abP h v)) (hv:vr w0 ν.z ν v a):vr w0 lh Nu.nil (Io h v) a:=by
 unfold Io
 split
 ·exact yav hh hb hv
 ·exact nK hh 11 _ a hv
theorem yc (hh:HR w0 ν nV nS h lh):∀ {vs:List V} {az:List ak},UV (Fx h vs)->bg w0 ν.z ν vs az->bg w0 lh Nu.nil (vs.map (Io h)) az
 |[],az,_,hv=>by simp only[bg,apm]at hv ⊢;exact hv
 | v::vs,az,hb,hv=>by
   have hb:=J3 hb
   simp only [bg]at hv
   obtain ⟨x,xs,rfl,h1,h2⟩:=hv
   simp only [ahC,bg];exact⟨_,_,rfl,Tg hh hb.1 h1,yc hh hb.2 h2⟩
theorem Pu (hh:HR w0 ν nV nS h lh) {v:V} {a:ak} (hb:UV (adw h v)) (hv:vr w0 ν.z ν v a):vr w0 lh Nu.nil (rF h v) a:=by
 unfold rF
 split
 ·exact yav hh hb hv
 ·simp only[vr]at hv ⊢
  obtain ⟨az,h1,h2⟩:=hv
  exact ⟨az,h1,yc hh hb h2⟩
 ·exact nK hh 12 _ a hv
theorem rf (hh:HR w0 ν nV nS h lh):∀ {vs:List V} {az:List ak},UV (qd h vs)->bg w0 ν.z ν vs az->bg w0 lh Nu.nil (vs.map (rF h)) az
 |[],az,_,hv=>by simp only[bg,apm]at hv ⊢;exact hv
 | v::vs,az,hb,hv=>by
   have hb:=J3 hb
   simp only [bg]at hv
   obtain ⟨x,xs,rfl,h1,h2⟩:=hv
   simp only [ahC,bg];exact⟨_,_,rfl,Pu hh hb.1 h1,rf hh hb.2 h2⟩
end
end Go.Dx
namespace Go.Sx
section
variable {P:Program} {S:FuncId->bH} {w0:World}
theorem gi (hS:∀ f,(S f).Ok P f):∀ (ops:List gS) (sl:List ak) (lh:List ao) {K K':List ak->List ao->Prop},(∀ s l,K s l->K' s l)->eE w0 S ops sl lh K->eE w0 S ops sl lh K'
 |[],_,_,_,_,hk,h=>hk _ _ h
 | o::rest,sl,lh,K,K',hk,h=>by
   have ih:=fun sl lh=>gi hS rest sl lh hk
   simp only [eE]at h ⊢
   split at h
   ·exact dl hS (fun _ _=>ih _ _) h
   ·split at h
    ·exact⟨fun e=>dl hS (fun _ _=>ih _ _) (h.1 e),fun e=>ih _ _ (h.2 e)⟩
    ·exact ih _ _ h
    ·exact ih _ _ h
    ·exact h.elim
theorem jw (hS:∀ f,(S f).Ok P f) {Q:Prop}:∀ (ops:List gS) (sl:List ak) (lh:List ao),eE w0 S ops sl lh (fun _ _=>Q)->Q
 |[],_,_,h=>h
 | o :: rest,sl,lh,h=>by
   have ih:=fun sl lh=>jw hS (Q:=Q) rest sl lh
   simp only [eE]at h
   split at h
   ·exact mO hS (dl hS (fun _ _=>ih _ _) h)
   ·rename_i d want _
    split at h
    ·rename_i b _
     by_cases e:b=want
     ·exact mO hS (dl hS (fun _ _=>ih _ _) (h.1 e))
     ·exact ih _ _ (h.2 (by cases b<;>cases want<;>simp_all))
    ·exact ih _ _ h
    ·exact ih _ _ h
    ·exact h.elim
theorem tg (hS:∀ f,(S f).Ok P f) {Ws:List (List Nat)} {n0:Nat} {K K':List ak->List ao->Prop} (hk:∀ s l,K s l->K' s l):∀ (ds:List gQ) (i:Nat) (sl:List ak) (lh:List ao),jc w0 S Ws n0 K ds i sl lh->jc w0 S Ws n0 K' ds i sl lh
 |[],_,_,_,h=>hk _ _ h
 |d::rest,i,sl,lh,h=>vA hS (fun s l=>tg hS hk rest (i+1) s l) h
theorem pB (hS:∀ f,(S f).Ok P f) {Ws:List (List Nat)} {n0:Nat} {Q:Prop}:∀ (ds:List gQ) (i:Nat) (sl:List ak) (lh:List ao),jc w0 S Ws n0 (fun _ _=>Q) ds i sl lh->Q
 |[],_,_,_,h=>h
 |d::rest,i,sl,lh,h=>nn hS (lT hS (fun _=>pB hS rest (i+1) _ _) h)
theorem gz (hS:∀ f,(S f).Ok P f) {ds:List gQ} {sl:List ak} {lh:List ao} {K K':List ak->List ao->Prop} (hk:∀ s l,K s l->K' s l) (h:mr w0 S ds sl lh K):mr w0 S ds sl lh K':=⟨h.1,tg hS hk ds 0 _ _ h.2⟩
theorem lc (hS:∀ f,(S f).Ok P f) {ds:List gQ} {sl:List ak} {lh:List ao} {Q:Prop} (h:mr w0 S ds sl lh (fun _ _=>Q)):Q:=pB hS ds 0 _ _ h.2
section it
variable {l:Nat} {Y:YH}
theorem yac (hS:∀ f,(S f).Ok P f) (hY:∀ xs lh K K',(∀ x l,K x l->K' x l)->Y xs lh K->Y xs lh K'):∀ (ops:List m7) (sl:List ak) (lh:List ao) (g:Option Ex) {K K':List ak->List ao->Option Ex->Prop},(∀ s l g,K s l g->K' s l g)->cg w0 S l Y ops sl lh g K->cg w0 S l Y ops sl lh g K'
 |[],_,_,_,_,_,hk,h=>hk _ _ _ h
 | .op o::rest,sl,lh,g,_,_,hk,h=>by
   simp only [cg]at h ⊢
   exact gi hS _ _ _ (fun _ _=>yac hS hY rest _ _ g hk) h
 | .yld t d xs::rest,sl,lh,g,_,_,hk,h=>by
   simp only [cg]at h ⊢
   refine ⟨h.1,h.2.1,hY _ _ _ _ (fun x l hx=>?_) h.2.2⟩
   cases x<;>exact yac hS hY rest _ _ _ hk hx
 | .yldG d want t dst xs::rest,sl,lh,g,_,_,hk,h=>by
   simp only [cg]at h ⊢
   cases hx:sl.getD d .any with
   | bool b =>
     simp only [hx]at h ⊢
     refine ⟨fun e=>?_,fun e=>yac hS hY rest _ _ g hk (h.2 e)⟩
     obtain ⟨h1,h2,h3⟩:=h.1 e
     refine ⟨h1,h2,hY _ _ _ _ (fun x l hx=>?_) h3⟩
     cases x<;>exact yac hS hY rest _ _ _ hk hx
   |tup vs=>simp only[hx]at h ⊢;exact yac hS hY rest _ _ g hk h
   |int k n=>simp only[hx]at h ⊢;exact yac hS hY rest _ _ g hk h
   |_=>simp only[hx]at h
theorem dk (hS:∀ f,(S f).Ok P f) (hY:∀ xs lh K K',(∀ x l,K x l->K' x l)->Y xs lh K->Y xs lh K') (hY':∀ xs lh (Q:Prop),Y xs lh (fun _ _=>Q)->Q) {Q:Prop}:∀ (ops:List m7) (sl:List ak) (lh:List ao) (g:Option Ex),cg w0 S l Y ops sl lh g (fun _ _ _=>Q)->Q
 |[],_,_,_,h=>h
 | .op o::rest,sl,lh,g,h=>by
   simp only [cg]at h
   exact jw hS _ _ _ (gi hS _ _ _ (fun _ _=>dk hS hY hY' rest _ _ g) h)
 | .yld t d xs::rest,sl,lh,g,h=>by
   simp only [cg]at h
   refine hY' _ _ _ (hY _ _ _ _ (fun x l hx=>?_) h.2.2)
   cases x<;>exact dk hS hY hY' rest _ _ _ hx
 | .yldG d want t dst xs::rest,sl,lh,g,h=>by
   simp only [cg]at h
   cases hx:sl.getD d .any with
   | bool b =>
     simp only [hx]at h
     by_cases e:b=want
     ·obtain⟨h1,h2,h3⟩:=h.1 e
      refine hY' _ _ _ (hY _ _ _ _ (fun x l hx=>?_) h3)
      cases x<;>exact dk hS hY hY' rest _ _ _ hx
     ·exact dk hS hY hY' rest _ _ _ (h.2 (by cases b<;>cases want<;>simp_all))
   |tup vs=>simp only[hx]at h;exact dk hS hY hY' rest _ _ _ h
   |int k n=>simp only[hx]at h;exact dk hS hY hY' rest _ _ _ h
   |_=>simp only[hx]at h
theorem LK (hS:∀ f,(S f).Ok P f) (hY:∀ xs lh K K',(∀ x l,K x l->K' x l)->Y xs lh K->Y xs lh K'):∀ (c:gW) (sl:List ak) (lh:List ao) (g:Option Ex) {Q Q':IQ},(∀ x s l g,Q x s l g->Q' x s l g)->kg w0 S l Y c sl lh g Q->kg w0 S l Y c sl lh g Q':=by
 intro c
 induction c with
 |reg ops=>intro sl lh g Q Q' hq h;exact yac hS hY ops sl lh g (fun _ _ _=>hq _ _ _ _) h
 |draw ds=>intro sl lh g Q Q' hq h;exact gz hS (fun _ _=>hq _ _ _ _) h
 |drawY ds xs=>intro sl lh g Q Q' hq h;exact gz hS (fun _ _ h=>yac hS hY xs _ _ g (fun _ _ _=>hq _ _ _ _) h) h
 | seq a b iha ihb =>
   intro sl lh g Q Q' hq h
   refine iha sl lh g (fun x s l g hx=>?_) h
   cases x with
   |normal=>exact ihb _ _ _ hq hx
   |exit i=>exact hq _ _ _ _ hx
   |ret=>exact hq _ _ _ _ hx
 | cond c a b iha ihb =>
   intro sl lh g Q Q' hq h
   simp only [kg]at h ⊢
   split at h
   ·exact⟨fun e=>iha _ _ _ hq (h.1 e),fun e=>ihb _ _ _ hq (h.2 e)⟩
   ·exact h.elim
 | block id b ih =>
   intro sl lh g Q Q' hq h
   refine ih sl lh g (fun x s l g hx=>?_) h
   cases x with
   |normal=>exact hq _ _ _ _ hx
   |ret=>exact hq _ _ _ _ hx
   |exit i=>simp only[wh]at hx ⊢;split at hx<;>rename_i e<;>simp only[e,amW,ajL]<;>exact hq _ _ _ _ hx
 | loop b ih =>
   intro sl lh g Q Q' hq h
   simp only [kg]at h ⊢
   obtain ⟨ι,shs,shl,shg,μ,i0,h1,h2,h3,hr⟩:=h
   refine ⟨ι,shs,shl,shg,μ,i0,h1,h2,h3,fun i=>ih _ _ _ (fun x s l g hx=>?_) (hr i)⟩
   cases x with
   |normal=>exact hx
   |exit i=>exact hq _ _ _ _ hx
   |ret=>exact hq _ _ _ _ hx
 |scope b ih=>intro sl lh g Q Q' hq h;exact ih sl lh g hq h
 |skip=>intro sl lh g Q Q' hq h;exact hq _ _ _ _ h
 |exit i=>intro sl lh g Q Q' hq h;exact hq _ _ _ _ h
 |ret=>intro sl lh g Q Q' hq h;exact hq _ _ _ _ h
theorem Dz (hS:∀ f,(S f).Ok P f) (hY:∀ xs lh K K',(∀ x l,K x l->K' x l)->Y xs lh K->Y xs lh K') (hY':∀ xs lh (Q:Prop),Y xs lh (fun _ _=>Q)->Q) {R:Prop}:∀ (c:gW) (sl:List ak) (lh:List ao) (g:Option Ex) {Q:IQ},(∀ x s l g,Q x s l g->R)->kg w0 S l Y c sl lh g Q->R:=by
 intro c
 induction c with
 |reg ops=>intro sl lh g Q hq h;exact dk hS hY hY' ops sl lh g (yac hS hY ops sl lh g (fun _ _ _=>hq _ _ _ _) h)
 |draw ds=>intro sl lh g Q hq h;exact lc hS (gz hS (K':=fun _ _=>R) (fun _ _=>hq _ _ _ _) h)
 |drawY ds xs=>intro sl lh g Q hq h;exact lc hS (gz hS (K':=fun _ _=>R) (fun _ _ h=>dk hS hY hY' xs _ _ g (yac hS hY xs _ _ g (fun _ _ _=>hq _ _ _ _) h)) h)
 | seq a b iha ihb =>
   intro sl lh g Q hq h
   refine iha sl lh g (fun x s l g hx=>?_) h
   cases x with
   |normal=>exact ihb _ _ _ hq hx
   |exit i=>exact hq _ _ _ _ hx
   |ret=>exact hq _ _ _ _ hx
 | cond c a b iha ihb =>
   intro sl lh g Q hq h
   simp only [kg]at h
   split at h
   ·rename_i t _
    cases t with
    |true=>exact iha _ _ _ hq (h.1 rfl)
    |false=>exact ihb _ _ _ hq (h.2 rfl)
   ·exact h.elim
 | block id b ih =>
   intro sl lh g Q hq h
   refine ih sl lh g (fun x s l g hx=>?_) h
   cases x with
   |normal=>exact hq _ _ _ _ hx
   |ret=>exact hq _ _ _ _ hx
   |exit i=>simp only[wh]at hx;split at hx<;>exact hq _ _ _ _ hx
 | loop b ih =>
   intro sl lh g Q hq h
   simp only [kg]at h
   obtain ⟨ι,shs,shl,shg,μ,i0,h1,h2,h3,hr⟩:=h
   have key:∀ k i,μ i=k->R:=fun k=>by
    induction k using Nat.strongRecOn with
    | _ k ihk =>
      intro i hi
      refine ih _ _ _ (fun x s l g hx=>?_) (hr i)
      cases x with
      |normal=>obtain⟨i',_,_,_,hlt⟩:=hx;exact ihk _ (by rw[← hi];exact hlt) i' rfl
      |exit i=>exact hq _ _ _ _ hx
      |ret=>exact hq _ _ _ _ hx
   exact key _ i0 rfl
 |scope b ih=>intro sl lh g Q hq h;exact ih sl lh g hq h
 |skip=>intro sl lh g Q hq h;exact hq _ _ _ _ h
 |exit i=>intro sl lh g Q hq h;exact hq _ _ _ _ h
 |ret=>intro sl lh g Q hq h;exact hq _ _ _ _ h
end it
theorem gZ (hS:∀ f,(S f).Ok P f):∀ (t:OT) (sl:List ak) (lh:List ao) {K K':List ak->List ao->Prop},(∀ s l,K s l->K' s l)->o8 w0 S t sl lh K->o8 w0 S t sl lh K'
 |.done,sl,lh,K,K',hk,h=>hk _ _ h
 |.op o r,sl,lh,K,K',hk,h=>gi hS [o] sl lh (fun s l h=>gZ hS r s l hk h) h
 |.alt a b,sl,lh,K,K',hk,h=>⟨gZ hS a sl lh hk h.1,gZ hS b sl lh hk h.2⟩
theorem kq (hS:∀ f,(S f).Ok P f):∀ (t:OT) (sl:List ak) (lh:List ao) {R:Prop},o8 w0 S t sl lh (fun _ _=>R)->R
 |.done,sl,lh,R,h=>h
 |.op o r,sl,lh,R,h=>jw hS [o] sl lh (gi hS [o] sl lh (K':=fun _ _=>R) (fun s l h=>kq hS r s l h) h)
 |.alt a b,sl,lh,R,h=>kq hS a sl lh h.1
theorem yk (hS:∀ f,(S f).Ok P f):∀ (c:fS),(∀ (nb:Nat) (sl:List ak) (lh:List ao) {Q Q':Ex->List ak->List ao->Prop},(∀ x s l,Q x s l->Q' x s l)->bY w0 S nb c sl lh Q->bY w0 S nb c sl lh Q') /\
 ∀ (nb:Nat) (sl:List ak) (lh:List ao) {Q:Ex->List ak->List ao->Prop} {R:Prop},(∀ x s l,Q x s l->R)->bY w0 S nb c sl lh Q->R:=by
 intro c
 induction c with
 |reg ops=>exact⟨fun nb sl lh Q Q' hq h=>gi hS ops sl lh (fun _ _=>hq _ _ _) h,fun nb sl lh Q R hq h=>jw hS ops sl lh (gi hS ops sl lh (fun _ _=>hq _ _ _) h)⟩
 |allo t=>exact⟨fun nb sl lh Q Q' hq h=>gZ hS t sl lh (fun _ _=>hq _ _ _) h,fun nb sl lh Q R hq h=>kq hS t sl lh (gZ hS t sl lh (K':=fun _ _=>R) (fun _ _=>hq _ _ _) h)⟩
 |alloq t=>exact⟨fun nb sl lh Q Q' hq h=>gZ (qo hS) t sl lh (fun _ _=>hq _ _ _) h,fun nb sl lh Q R hq h=>kq (qo hS) t sl lh (gZ (qo hS) t sl lh (K':=fun _ _=>R) (fun _ _=>hq _ _ _) h)⟩
 |draw ds=>exact⟨fun nb sl lh Q Q' hq h=>gz hS (fun _ _=>hq _ _ _) h,fun nb sl lh Q R hq h=>lc hS (gz hS (K':=fun _ _=>R) (fun _ _=>hq _ _ _) h)⟩
 | seq a b iha ihb =>
   refine ⟨fun nb sl lh Q Q' hq h=>iha.1 nb sl lh (fun x s l hx=>?_) h,fun nb sl lh Q R hq h=>iha.2 nb sl lh (fun x s l hx=>?_) h⟩
   ·cases x with
    |normal=>exact ihb.1 nb _ _ hq hx
    |exit i=>exact hq _ _ _ hx
    |ret=>exact hq _ _ _ hx
   ·cases x with
    |normal=>exact ihb.2 nb _ _ hq hx
    |exit i=>exact hq _ _ _ hx
    |ret=>exact hq _ _ _ hx
 | cond c a b iha ihb =>
   refine ⟨fun nb sl lh Q Q' hq h=>?_,fun nb sl lh Q R hq h=>?_⟩
   ·simp only[bY]at h ⊢
    split at h
    ·exact⟨fun e=>iha.1 nb _ _ hq (h.1 e),fun e=>ihb.1 nb _ _ hq (h.2 e)⟩
    ·exact h.elim
   ·simp only [bY]at h
    split at h
    ·rename_i t _
     cases t with
     |true=>exact iha.2 nb _ _ hq (h.1 rfl)
     |false=>exact ihb.2 nb _ _ hq (h.2 rfl)
    ·exact h.elim
 | block id b ih =>
   refine ⟨fun nb sl lh Q Q' hq h=>ih.1 nb sl lh (fun x s l hx=>?_) h,fun nb sl lh Q R hq h=>ih.2 nb sl lh (fun x s l hx=>?_) h⟩
   ·cases x with
    |normal=>exact hq _ _ _ hx
    |ret=>exact hq _ _ _ hx
    |exit i=>simp only[vF]at hx ⊢;split at hx<;>rename_i e<;>simp only[e,amW,ajL]<;>exact hq _ _ _ hx
   ·cases x with
    |normal=>exact hq _ _ _ hx
    |ret=>exact hq _ _ _ hx
    |exit i=>simp only[vF]at hx;split at hx<;>exact hq _ _ _ hx
 | loop b ih =>
   refine ⟨fun nb sl lh Q Q' hq h=>?_,fun nb sl lh Q R hq h=>?_⟩
   ·simp only[bY]at h ⊢
    obtain ⟨ι,shs,shl,μ,i0,h1,hr⟩:=h
    refine ⟨ι,shs,shl,μ,i0,h1,fun i=>ih.1 nb _ _ (fun x s l hx=>?_) (hr i)⟩
    cases x with
    |normal=>exact hx
    |exit i=>exact hq _ _ _ hx
    |ret=>exact hq _ _ _ hx
   ·simp only [bY]at h
    obtain ⟨ι,shs,shl,μ,i0,h1,hr⟩:=h
    have key:∀ k i,μ i=k->R:=fun k=>by
     induction k using Nat.strongRecOn with
     | _ k ihk =>
       intro i hi
       refine ih.2 nb _ _ (fun x s l hx=>?_) (hr i)
       cases x with
       |normal=>obtain⟨i',_,hlt⟩:=hx;exact ihk _ (by rw[← hi];exact hlt) i' rfl
       |exit i=>exact hq _ _ _ hx
       |ret=>exact hq _ _ _ hx
    exact key _ i0 rfl
 |scope b ih=>exact⟨fun nb sl lh Q Q' hq h=>ih.1 nb sl lh hq h,fun nb sl lh Q R hq h=>ih.2 nb sl lh hq h⟩
 |skip=>exact⟨fun nb sl lh Q Q' hq h=>hq _ _ _ h,fun nb sl lh Q R hq h=>hq _ _ _ h⟩
 |exit i=>exact⟨fun nb sl lh Q Q' hq h=>hq _ _ _ h,fun nb sl lh Q R hq h=>hq _ _ _ h⟩
 |ret=>exact⟨fun nb sl lh Q Q' hq h=>hq _ _ _ h,fun nb sl lh Q R hq h=>hq _ _ _ h⟩
 | range g ps asg body its iha ihb =>
   have hY:∀ (sl xs:List ak) (lh:List ao) (K K':Ex->List ao->Prop),(∀ x l,K x l->K' x l)->(xs.length=ps.length/\bY w0 S lh.length asg (kA sl ps xs) lh (tV (fun sl lh'=>bY w0 S lh.length body sl lh' fun x _ lh=>K x lh) fun _ _ _=>False))->(xs.length=ps.length/\bY w0 S lh.length asg (kA sl ps xs) lh (tV (fun sl lh'=>bY w0 S lh.length body sl lh' fun x _ lh=>K' x lh) fun _ _ _=>False)):=fun sl xs lh K K' hk h=>by
    refine ⟨h.1,iha.1 _ _ _ (fun x s l hx=>?_) h.2⟩
    cases x with
    |normal=>exact ihb.1 _ _ _ (fun _ _ _=>hk _ _) hx
    |exit i=>exact hx
    |ret=>exact hx
   have hY':∀ (sl xs:List ak) (lh:List ao) (Q:Prop),(xs.length=ps.length/\bY w0 S lh.length asg (kA sl ps xs) lh (tV (fun sl lh'=>bY w0 S lh.length body sl lh' fun _ _ _=>Q) fun _ _ _=>False))->Q:=fun sl xs lh Q h=>by
    refine iha.2 _ _ _ (fun x s l hx=>?_) h.2
    cases x with
    |normal=>exact ihb.2 _ _ _ (fun _ _ _ h=>h) hx
    |exit i=>exact hx.elim
    |ret=>exact hx.elim
   refine ⟨fun nb sl lh Q Q' hq h=>?_,fun nb sl lh Q R hq h=>?_⟩
   ·simp only [bY]at h ⊢
    split at h
    ·split at h
     ·exact fun l=>LK hS (fun xs lh K K'=>hY sl xs lh K K') _ _ _ _ (fun x s l g hx=>by cases x<;>cases g<;>first|exact hx|exact hq _ _ _ hx) (h l)
     ·exact h.elim
    ·exact h.elim
   ·simp only [bY]at h
    split at h
    ·split at h
     ·exact Dz hS (fun xs lh K K'=>hY sl xs lh K K') (fun xs lh Q=>hY' sl xs lh Q) _ _ _ _ (fun x s l g hx=>by cases x<;>cases g<;>first|exact hx.elim|exact hq _ _ _ hx) (h 0)
     ·exact h.elim
    ·exact h.elim
theorem mn:∀ (rs:List Bs) (sl:List ak) (lh:List ao) {K K':List ak->Prop},(∀ vs,K vs->K' vs)->iN w0 sl lh rs K->iN w0 sl lh rs K'
 |[],_,_,_,_,hk,h=>hk _ h
 |.tmp t::l,sl,lh,_,_,hk,h=>mn l sl lh (fun _=>hk _) h
 | .cell t n::l,sl,lh,_,_,hk,h=>by
   simp only [iN]at h ⊢
   split at h
   ·split at h
    ·obtain⟨v,h1,h2⟩:=h;exact⟨v,h1,mn l sl lh (fun _=>hk _) h2⟩
    ·obtain⟨v,h1,h2⟩:=h;exact⟨v,h1,mn l sl lh (fun _=>hk _) h2⟩
   ·exact h.elim
theorem ju {R:Prop}:∀ (rs:List Bs) (sl:List ak) (lh:List ao),iN w0 sl lh rs (fun _=>R)->R
 |[],_,_,h=>h
 |.tmp t::l,sl,lh,h=>ju l sl lh h
 | .cell t n::l,sl,lh,h=>by
   simp only [iN]at h
   split at h
   ·split at h
    ·obtain⟨v,h1,h2⟩:=h;exact ju l sl lh h2
    ·obtain⟨v,h1,h2⟩:=h;exact ju l sl lh h2
   ·exact h.elim
def yaS (S:FuncId->bH) (sf:aK):bH:=fun w0 args lh K=>IX w0 S sf args lh K
theorem ZZ {eqs : List TypeId} {its : List gH} {f : FuncId} {fn : Func} {sf : aK} (hS : ∀ g, (S g).Ok P g) (hE : ∀ t ∈ eqs, cU P t) (hI : kG P eqs its) (hf : P.funcs[f]? = some fn) (hn : (fn.name == "runtime.NumGoroutine") = false) (hc : dW P eqs its fn = some sf) : (yaS S sf).Ok P f := by
 have mono:∀ w0 args lh K K',(∀ r l,K r l->K' r l)->yaS S sf w0 args lh K->yaS S sf w0 args lh K':=fun w0 args lh K K' hk h =>
  (yk hS sf.body).1 _ _ _ (fun x s l hx=>by cases x<;>first|exact hx|exact mn _ _ _ (fun _=>hk _ _) hx) h
 refine ⟨oR hS hE hI hf hn hc fun w0 args lh K _ _ h=>?_,mono,fun w0 args lh Q h=>(yk hS sf.body).2 _ _ _ (fun x s l hx=>by cases x<;>first|exact hx.elim|exact ju _ _ _ hx) h⟩
 exact mono w0 args lh K _ (fun r l hk=>⟨r,l,.inl ⟨rfl,by unfold lH;exact⟨.inr rfl,by simp[lH]⟩⟩,hk⟩) h
end
end Go.Sx
namespace Go.Dx
open Go.Sx
mutual
def cz:V->ak
 |.int k n=>.int k n
 |.bool b=>.bool b
 |.kb b=>.bool b
 |.str s=>.str s
 |.agg cs=>.agg (cu cs)
 |.tup cs=>.tup (cu cs)
 |.sl n f=>.fn (.func 0) [] ((List.range n).map fun i=>.agg (cu (f i)))
 |_=>.any
def cu:List V->List ak
 |[]=>[]
 |v::vs=>cz v::cu vs
end
section
variable {w0:World} {lh:List ao} {ν:Nu}
theorem me:∀ {v:V},bm (cz v)=true->∀ a,vr w0 lh ν v a↔a=cz v
 |.int ..,_,a=>by simp only[vr,cz]
 |.bool _,_,a=>by simp only[vr,cz]
 |.kb _,_,a=>by simp only[vr,cz]
 |.str _,_,a=>by simp only[vr,cz]
 |.agg _,h,_=>by simp[cz,bm]at h
 |.tup _,h,_=>by simp[cz,bm]at h
 |.fn ..,h,_=>by simp[cz,bm]at h
 |.sl ..,h,_=>by simp[cz,bm]at h
 |.pd ..,h,_=>by simp[cz,bm]at h
 |.pl ..,h,_=>by simp[cz,bm]at h
 |.pe ..,h,_=>by simp[cz,bm]at h
 |.ss ..,h,_=>by simp[cz,bm]at h
 |.gs ..,h,_=>by simp[cz,bm]at h
 |.ns,h,_=>by simp[cz,bm]at h
 |.np,h,_=>by simp[cz,bm]at h
 |.any,h,_=>by simp[cz,bm]at h
 |.gd ..,h,_=>by simp[cz,bm]at h
 |.yl _,h,_=>by simp[cz,bm]at h
 |.go ..,h,_=>by simp[cz,bm]at h
 |.sq ..,h,_=>by simp[cz,bm]at h
theorem eG:∀ {vs:List V},(cu vs).all bm=true->∀ az,bg w0 lh ν vs az↔az=cu vs
 |[],_,az=>by simp only[bg,cu]
 | v::vs,h,az=>by
   simp only [cu,adT,aaw]at h
   simp only [bg,cu]
   constructor
   ·rintro⟨x,xs,rfl,h1,h2⟩;rw[(me h.1 x).1 h1,(eG h.2 xs).1 h2]
   ·rintro rfl;exact⟨_,_,rfl,(me h.1 _).2 rfl,(eG h.2 _).2 rfl⟩
theorem qb {v:V} (h:(match cz v with|.agg ds=>ds.all bm|a=>bm a)=true) (a:ak):vr w0 lh ν v a↔a=cz v:=by
 cases v with
 | agg cs =>
   simp only [cz]at h
   simp only [vr,cz]
   constructor
   ·rintro⟨az,rfl,h1⟩;rw[(eG h az).1 h1]
   ·rintro rfl;exact⟨_,rfl,(eG h _).2 rfl⟩
 |_=>first|exact me (by simpa[cz] using h) a|(simp[cz,bm]at h)
theorem mJ:∀ {vs:List V},((cu vs).all fun|.agg ds=>ds.all bm|a=>bm a)=true->∀ az,bg w0 lh ν vs az↔az=cu vs
 |[],_,az=>by simp only[bg,cu]
 | v::vs,h,az=>by
   simp only [cu,adT,aaw]at h
   simp only [bg,cu]
   constructor
   ·rintro⟨x,xs,rfl,h1,h2⟩;rw[(qb h.1 x).1 h1,(mJ h.2 xs).1 h2]
   ·rintro rfl;exact⟨_,_,rfl,(qb h.1 _).2 rfl,(mJ h.2 _).2 rfl⟩
theorem zm {v:V} (h:plain (cz v)=true) (a:ak):vr w0 lh ν v a↔a=cz v:=by
 cases v with
 | tup cs =>
   simp only [cz,plain]at h
   simp only [vr,cz]
   constructor
   ·rintro⟨az,rfl,h1⟩;rw[(mJ h az).1 h1]
   ·rintro rfl;exact⟨_,rfl,(mJ h _).2 rfl⟩
 |agg cs=>exact qb (by simpa[cz,plain] using h) a
 |_=>first|exact me (by simpa[cz,plain] using h) a|(simp[cz,plain,bm]at h)
end
theorem wb:∀ vs:List V,(cu vs).length=vs.length
 |[]=>by simp[cu]
 |v::vs=>by simp[cu,wb vs]
theorem GF {n m:Nat} {f g:aL} (h:cz (.sl n f)=cz (.sl m g)):n=m/\∀ i,i<n->cu (f i)=cu (g i):=by
 simp only [cz,ak.fn.injEq,agn]at h
 have hl:=congrArg List.length h
 simp only [List.length_map,List.length_range]at hl
 subst hl
 refine ⟨rfl,fun i hi=>?_⟩
 have:=congrArg (fun l=>l[i]?) h
 simpa [hi] using this
def pL:V->Option (Nat×(Nat->List V))
 |.sl n f=>some (n,f)
 |.tup (.sl n f::_)=>some (n,f)
 |_=>none
def E8:V->List V
 |.tup (_::vs)=>vs
 |_=>[]
def as6 (v:V):V->V
 |.tup (_::vs)=>.tup (v::vs)
 |_=>v
def pN (a:ak):V->ak
 |.tup (_::vs)=>.tup (a::cu vs)
 |_=>a
theorem tl {r:V} {n:Nat} {f:aL} (h:pL r=some (n,f)):r=.sl n f∨∃ vs,r=.tup (.sl n f::vs):=by
 unfold pL at h
 split at h
 ·cases h;exact .inl rfl
 ·cases h;exact .inr ⟨_,rfl⟩
 ·cases h
def Yo (e:Nat) (r:V):Prop:=∃ n f,pL r=some (n,f)/\n<=9223372036854775807/\(∀ i,i<n->lX e (f i)=true/\(cu (f i)).all bm=true)/\(cu (E8 r)).all bm=true
def KY (e:Nat) (ty:TypeId) (nb:Nat) (lh:List ao) (n:Nat) (f:aL) (x:ak):Prop :=
 (n=0/\x=.slice none 0 0)∨∃ b c az,nb<=b/\lh[b]? = some (.cells az ty)/\x=.slice (some (.l b 0)) n c/\az.length=c*e/\n<=c/\∀ i,i<n->(az.drop (i*e)).take e=cu (f i)
theorem zo {m m':aF} {x x':ak} {r:V} {n:Nat} {f:aL} {v:Value} (hr:pL r=some (n,f)) (hs:(cu (E8 r)).all bm=true) (hx:∀ u,vrel m x u->vrel m' x' u) (h:vrel m (pN x r) v):vrel m' (pN x' r) v:=by
 rcases tl hr with rfl|⟨vs,rfl⟩
 ·exact hx v h
 ·simp only[pN,vrel]at h ⊢
  obtain ⟨us,rfl,h2⟩:=h
  refine ⟨us,rfl,?_⟩
  simp only [ar]at h2 ⊢
  obtain ⟨u,us',e,h3,h4⟩:=h2
  exact ⟨u,us',e,hx u h3,iS hs h4⟩
theorem zZ {e:Nat} {f:aL}:∀ {n:Nat},(∀ i,i<n->(cu (f i)).length=e)->((List.range n).flatMap fun i=>cu (f i)).length=n*e/\∀ i,i<n->(((List.range n).flatMap fun i=>cu (f i)).drop (i*e)).take e=cu (f i)
 |0,_=>⟨by simp,fun i hi=>by omega⟩
 | n+1,h=>by
   obtain ⟨h1,h2⟩:=zZ (n:=n) fun i hi=>h i (by omega)
   rw [List.range_succ,List.flatMap_append]
   simp only [List.flatMap_cons,List.flatMap_nil,apz]
   have hn:=h n (by omega)
   refine ⟨by rw[aft,h1,hn,adm],fun i hi=>?_⟩
   by_cases e1:i=n
   ·subst e1
    rw [anA (by omega),List.drop_of_length_le (by omega),List.nil_append,ajO (by omega)]
   ·have hle:i*e+e<=n*e:=by rw[← adm];exact abt e (by omega)
    rw [anA (by omega),ajK (by rw[aph];omega)]
    exact h2 i (by omega)
theorem AQ {α:Type} {l l':List α} {N a e:Nat} (h:l.take N=l'.take N) (ha:a+e<=N):(l.drop a).take e=(l'.drop a).take e:=by
 have key:∀ l:List α,(l.drop a).take e=((l.take N).drop a).take e:=fun l=>by
  rw [apM,alF,aoa (by omega)]
 rw [key l,key l',h]
theorem rC {az:List ak} {e:Nat}:∀ {n:Nat},(∀ i,i<n->((az.drop (i*e)).take e).all bm=true)->(az.take (n*e)).all bm=true
 |0,_=>by simp
 | n+1,h=>by
   rw [adm,List.take_add,List.all_append,rC fun i hi=>h i (by omega),h n (by omega)];rfl
theorem wk {m:aF}:∀ vs:List Value,ar m (List.replicate vs.length .any) vs
 |[]=>by simp[ar]
 |v::vs=>by simp only[adM,ajX,ar];exact⟨v,vs,rfl,trivial,wk vs⟩
theorem LF {B:cY} {m:aF} {lh:List ao} {w:World} (h:a7 B m lh w) {b:Nat} {az:List ak} {vs:Array Value} {ty:TypeId} (hb:w.heap[b]? = some (.cells vs ty (0,0)))
 (hs:ar (fun k=>if k=lh.length then some b else m k) az vs.toList) (h0:B.w0.heap.size<=b) (h1:B.wf.heap.size<=b) (hn:∀ k b',m k=some b'->b'≠b):a7 B (fun k=>if k=lh.length then some b else m k) (lh++[.cells az ty]) w/\m.le (fun k=>if k=lh.length then some b else m k):=by
 have hle:m.le (fun k=>if k=lh.length then some b else m k):=fun k x hk=>by
  have:k≠lh.length:=fun e=>by rw[e,h.dom _ (aaS _)]at hk;cases hk
  simp only [aaT this];exact hk
 have hget:∀ k cs ty',(lh++[ao.cells az ty])[k]? = some (.cells cs ty')->(k=lh.length/\cs=az/\ty'=ty)∨(k<lh.length/\lh[k]? = some (.cells cs ty')):=fun k cs ty' hk=>by
  rw [acF]at hk
  split at hk
  ·rename_i hlt;exact .inr ⟨hlt,hk⟩
  ·rename_i hge
   have:k-lh.length=0:=by
    apply Classical.byContradiction;intro hne
    rw [abm (by simp;omega)]at hk;cases hk
   rw [this]at hk
   simp only [acM,aaB,ao.cells.injEq]at hk
   exact .inl ⟨by omega,hk.1.symm,hk.2.symm⟩
 refine ⟨⟨h.os,h.tape,h.output,h.size,h.old,h.fsize,h.kept,fun k cs ty' hk=>?_,fun k k' b' cs cs' ty1 ty2 hk hk' hm hm'=>?_,fun k hk=>?_,fun k hk=>?_,fun k b' hk=>?_⟩,hle⟩
 ·rcases hget k cs ty' hk with ⟨rfl,rfl,rfl⟩|⟨hlt,hk⟩
  ·exact⟨b,vs,by simp,hs,hb,h0,.inl h1⟩
  ·obtain⟨b',vs',g1,g2,g3,g4,g5⟩:=h.loc k cs ty' hk
   exact ⟨b',vs',hle _ _ g1,cA hle _ _ g2,g3,g4,g5⟩
 ·rcases hget k cs ty1 hk with ⟨e1,_,_⟩|⟨l1,g1⟩<;>rcases hget k' cs' ty2 hk' with ⟨e2,_,_⟩|⟨l2,g2⟩
  ·omega
  ·simp only[e1,amW]at hm;simp only[aaT (apN l2)]at hm';cases hm;exact(hn _ _ hm' rfl).elim
  ·simp only[e2,amW]at hm';simp only[aaT (apN l1)]at hm;cases hm';exact(hn _ _ hm rfl).elim
  ·simp only[aaT (apN l1)]at hm;simp only[aaT (apN l2)]at hm';exact h.inj k k' b' cs cs' ty1 ty2 g1 g2 hm hm'
 ·simp only[aft,adM,ajG]at hk
  simp only [aaT (show k≠lh.length by omega)];exact h.dom k (by omega)
 ·rw [acF]at hk
  split at hk
  ·rename_i hlt;simp only[aaT (apN hlt)];exact h.dead k hk
  ·rename_i hge
   have:k-lh.length=0:=by
    apply Classical.byContradiction;intro hne
    rw [abm (by simp;omega)]at hk;cases hk
   rw [this]at hk;simp at hk
 ·by_cases e1:k=lh.length
  ·simp only[e1,amW,aaB]at hk;subst hk;exact(Array.getElem?_eq_some_iff.1 hb).1
  ·simp only[aaT e1]at hk;exact h.rng k b' hk
abbrev av:=List V->Option ((List V×List V)×Prop×V)
def okN (r:V):Prop:=∀ (w0:World) (lh:List ao),∃ x new,vr w0 (List.replicate lh.length .dead++new) Nu.nil r x
inductive Ent where
 |con (C:av)
 |conN (C:av) (h:∀ ds d p r,C ds=some (d,p,r)->d.1=d.2->p->okN r)
 |conZ (C:av) (h:∀ ds d p r,C ds=some (d,p,r)->d.1=d.2->p->∀ w0 lh args,bg w0 lh Nu.nil ds args->∃ x new,vr w0 (lh++new) Nu.nil r x)
 |inl (sf:aK) (un:kk)
abbrev aZ:=List (FuncId×Ent)
def jq:aZ->FuncId->Option Ent
 |[],_=>none
 |(k,c)::l,f=>cond (Nat.beq f k) (some c) (jq l f)
def vP (C:av):bH:=fun w0 args lh K=>∃ ds d p r,bg w0 lh Nu.nil ds args/\C ds=some (d,p,r)/\(d.1=d.2/\p)/\plain (cz r)=true/\K (cz r) lh
def vL (e:Nat) (ty:TypeId) (C:av):bH:=fun w0 args lh K=>∃ ds d p r n f,bg w0 lh Nu.nil ds args/\C ds=some (d,p,r)/\(d.1=d.2/\p)/\pL r=some (n,f)/\Yo e r/\∀ x new,KY e ty lh.length (lh++new) n f x->K (pN x r) (lh++new)
def vN (C:av):bH:=fun w0 args lh K=>∃ ds d p r,bg w0 lh Nu.nil ds args/\C ds=some (d,p,r)/\(d.1=d.2/\p)/\okN r/\∀ x new,vr w0 (List.replicate lh.length .dead++new) Nu.nil r x->K x (lh++new)
def vZ (C:av):bH:=fun w0 args lh K=>∃ ds d p r X,bg w0 (hide X lh) Nu.nil ds args/\(∀ k,k∉X->isCells lh[k]? = true∨lh.length<=k)/\C ds=some (d,p,r)/\(d.1=d.2/\p)/\(∃ x new,vr w0 (hide X lh++new) Nu.nil r x)/\∀ x new,vr w0 (hide X lh++new) Nu.nil r x->K x (lh++new)
def SV (ct:aZ):CQ
 | 0,f=>match jq ct f with
   |some (.con C)=>vP C
   |some (.conN C _)=>vN C
   |some (.conZ C _)=>vZ C
   |_=>aeu
 | n+1,f=>match jq ct f with
   |some (.con C)=>vP C
   |some (.conN C _)=>vN C
   |some (.conZ C _)=>vZ C
   |some (.inl sf _)=>yaS (SV ct n) sf
   |none=>aeu
section
variable {α:Type}
def Ci (C:av) (vs:List V) (h:List O) (K:V->T α):T α:=match C (vs.map (rF h)) with
 |none=>.fail 81
 |some (d,p,r)=>.obq d.1 d.2 (.obp p (.ob (plain (cz r)) (obs (qd h vs) (K r))))
def vW (C:av) (vs:List V) (h:List O) (K:V->T α):T α:=match C (vs.map (rF h)) with
 |none=>.fail 86
 |some (d,p,r)=>.obq d.1 d.2 (.obp p (obs (qd h vs) (K r)))
mutual
def mU:V->Bool
 |.int ..|.bool _|.kb _|.str _|.sl ..|.sq ..|.pd _|.ns|.np|.any=>true
 |.agg cs|.tup cs=>wB cs
 |_=>false
def wB:List V->Bool
 |[]=>true
 |v::vs=>mU v&&wB vs
end
def wE (C:av) (vs:List V) (h:List O) (K:V->T α):T α:=match C vs with
 |none=>.fail 87
 |some (d,p,r)=>.obq d.1 d.2 (.obp p (.ob (wB vs) (K r)))
def mo (ct:aZ):CP α:=fun q f vs h K=>match jq ct f with
 |some (.con C)=>Ci C vs h K
 |some (.conN C _)=>cond q (vW C vs h K) (.fail 80)
 |some (.conZ C _)=>cond q (wE C vs h K) (.fail 80)
 |_=>.fail 80
def mQ (ct:aZ):Nat->CF α
 | 0,f,vs,h,K=>match jq ct f with
   |some (.con C)=>Ci C vs h fun v=>K v h
   |some (.conN C _)=>vW C vs h fun v=>K v h
   |some (.conZ C _)=>wE C vs h fun v=>K v h
   |_=>.fail 82
 | n+1,f,vs,h,K=>match jq ct f with
   |some (.con C)=>Ci C vs h fun v=>K v h
   |some (.conN C _)=>vW C vs h fun v=>K v h
   |some (.conZ C _)=>wE C vs h fun v=>K v h
   |some (.inl sf un)=>m6 (mQ ct n) (mo ct) un n sf vs h K
   |none=>.fail 83
theorem qV {w0:World} {LP:eu} {C:av} {vs:List V} {h:List O} {K:V->T α} {Q:α->Prop} {ν:Nu} {nV nS:Nat} {args:List ak} {lh:List ao} {KA:ak->List ao->Prop} (hv:bg w0 ν.z ν vs args) (hh:HR w0 ν nV nS h lh) (hs:bu LP (Ci C vs h K) Q)
 (hK:∀ v a,vr w0 ν.z ν v a->bu LP (K v) Q->KA a lh):vP C w0 args lh KA:=by
 unfold Ci at hs
 split at hs
 ·exact hs.elim
 ·rename_i d p r hr
  simp only [bu]at hs
  obtain ⟨hb,hs4⟩:=w5 hs.2.2.2
  exact ⟨_,d,p,r,rf hh hb hv,hr,⟨hs.1,hs.2.1⟩,hs.2.2.1,hK r (cz r) ((zm hs.2.2.1 _).2 rfl) hs4⟩
theorem sF {w0:World} {LP:eu} {C:av} (hC:∀ ds d p r,C ds=some (d,p,r)->d.1=d.2->p->okN r) {vs:List V} {h:List O} {K:V->T α} {Q:α->Prop} {ν:Nu} {nV nS:Nat} {args:List ak} {lh:List ao} {KA:ak->List ao->Prop} (hv:bg w0 ν.z ν vs args) (hh:HR w0 ν nV nS h lh) (hs:bu LP (vW C vs h K) Q)
 (hK:∀ v ν' a lh',(∃ t,lh'=lh++t)->ν.sub ν'->HR w0 ν' nV nS h lh'->vr w0 ν'.z ν' v a->bu LP (K v) Q->KA a lh'):vN C w0 args lh KA:=by
 unfold vW at hs
 split at hs
 ·exact hs.elim
 ·rename_i d p r hr
  simp only [bu]at hs
  obtain ⟨hb,hs4⟩:=w5 hs.2.2
  refine ⟨_,d,p,r,rf hh hb hv,hr,⟨hs.1,hs.2.1⟩,hC _ _ _ _ hr hs.1 hs.2.1,fun x new hx=>?_⟩
  have hz:∀ k,k<lh.length->((List.range lh.length).map (fun k=>(ν.z[k]?).getD ao.dead)++new)[k]? = some ((ν.z[k]?).getD .dead):=fun k hk=>by
   rw [aaQ (by simpa using hk)];simp[hk]
  have hz2:∀ k,lh.length<=k->((List.range lh.length).map (fun k=>(ν.z[k]?).getD ao.dead)++new)[k]? = new[k-lh.length]? := fun k hk=>by
   rw [abv (by simpa using hk)];simp
  have hsub:ν.sub ⟨ν.m,(List.range lh.length).map (fun k=>(ν.z[k]?).getD ao.dead)++new⟩:=⟨fun _ _ h=>h,fun k az ty hk=>by
   have g:=hh.zl k az ty hk
   have hlt:=(List.getElem?_eq_some_iff.1 g).1
   show ((List.range lh.length).map (fun k=>(ν.z[k]?).getD ao.dead)++new)[k]? = _
   rw [hz k hlt,hk];rfl⟩
  refine hK r _ x _ ⟨new,rfl⟩ hsub ⟨fun k o hk=>?_,hh.inj,hh.dom,fun k x1 hk=>by rw[aft];exact ahs (hh.rng k x1 hk) (by omega),fun j az ty hj=>?_,fun k x1 hl hk=>?_⟩ ?_ hs4
  ·by_cases hd:o=.dead
   ·subst hd
    obtain ⟨g1,g2,g3⟩:=hh.blk k _ hk
    exact ⟨g1,g2,by rw[aaQ (List.getElem?_eq_some_iff.1 g3).1];exact g3⟩
   ·exact dw hsub hd (fun b az ty' g1 _=>by rw[aaQ (List.getElem?_eq_some_iff.1 g1).1];exact g1) (hh.blk k _ hk)
  ·by_cases hlt:j<lh.length
   ·rw [hz j hlt]at hj
    cases hg:ν.z[j]? with
    |none=>rw[hg]at hj;cases hj
    | some o =>
      rw [hg]at hj
      simp only [aqj,aaB]at hj
      subst hj
      rw [aaQ hlt];exact hh.zl j az ty hg
   ·rw[hz2 j (by omega)]at hj
    rw [abv (by omega)];exact hj
  ·have hlt:=hh.rng k x1 hk
   have:=hh.zn k x1 hl hk
   show isCells ((List.range lh.length).map (fun k=>(ν.z[k]?).getD ao.dead)++new)[x1.1]? = false
   rw [hz _ hlt]
   cases hg:ν.z[x1.1]? with
   |none=>rfl
   |some o=>rw[hg]at this;exact this
  ·refine ot (fun k x h=>by cases h) r x (kK (fun k az ty hk=>?_) r x hx)
   by_cases hlt:k<lh.length
   ·rw[aaQ (by simpa using hlt)]at hk
    simp [hlt]at hk
   ·rw[abv (by simp;omega)]at hk
    rw [hz2 k (by omega)]
    simpa using hk
mutual
theorem NX {w0:World} {lh:List ao} {ν:Nu}:∀ (v:V) (a:ak),mU v=true->vr w0 lh ν v a->vr w0 lh Nu.nil v a
 |.int ..,a,_,h=>by simp only[vr]at h ⊢;exact h
 |.bool _,a,_,h=>by simp only[vr]at h ⊢;exact h
 |.kb _,a,_,h=>by simp only[vr]at h ⊢;exact h
 |.str _,a,_,h=>by simp only[vr]at h ⊢;exact h
 |.sl ..,a,_,h=>by simp only[vr]at h ⊢;exact h
 |.sq ..,a,_,h=>by simp only[vr]at h ⊢;exact h
 |.pd _,a,_,h=>by simp only[vr]at h ⊢;exact h
 |.ns,a,_,h=>by simp only[vr]at h ⊢;exact h
 |.np,a,_,h=>by simp only[vr]at h ⊢;exact h
 |.any,a,_,h=>by simp only[vr]
 |.agg cs,a,hn,h=>by simp only[vr]at h ⊢;obtain⟨az,e,h⟩:=h;exact⟨az,e,o7 cs az (by simpa only[mU] using hn) h⟩
 |.tup cs,a,hn,h=>by simp only[vr]at h ⊢;obtain⟨az,e,h⟩:=h;exact⟨az,e,o7 cs az (by simpa only[mU] using hn) h⟩
 |.fn ..,a,hn,h=>by simp[mU]at hn
 |.pl ..,a,hn,h=>by simp[mU]at hn
 |.pe ..,a,hn,h=>by simp[mU]at hn
 |.ss ..,a,hn,h=>by simp[mU]at hn
 |.gs ..,a,hn,h=>by simp[mU]at hn
 |.gd ..,a,hn,h=>by simp[mU]at hn
 |.yl ..,a,hn,h=>by simp[mU]at hn
 |.go ..,a,hn,h=>by simp[mU]at hn
theorem o7 {w0:World} {lh:List ao} {ν:Nu}:∀ (vs:List V) (az:List ak),wB vs=true->bg w0 lh ν vs az->bg w0 lh Nu.nil vs az
 |[],az,_,h=>by simp only[bg]at h ⊢;exact h
 | v::vs,az,hn,h=>by
   simp only [wB,aaw]at hn
   simp only [bg]at h ⊢
   obtain ⟨x,xs,e,h1,h2⟩:=h
   exact ⟨x,xs,e,NX v x hn.1 h1,o7 vs xs hn.2 h2⟩
end
theorem rU {w0:World} {LP:eu} {C:av} (hC:∀ ds d p r,C ds=some (d,p,r)->d.1=d.2->p->∀ w0 lh args,bg w0 lh Nu.nil ds args->∃ x new,vr w0 (lh++new) Nu.nil r x) {vs:List V} {h:List O} {K:V->T α} {Q:α->Prop} {ν:Nu} {nV nS:Nat} {args:List ak} {lh:List ao} {KA:ak->List ao->Prop} (hv:bg w0 ν.z ν vs args) (hh:HR w0 ν nV nS h lh) (hs:bu LP (wE C vs h K) Q)
 (hK:∀ v ν' a lh',(∃ t,lh'=lh++t)->ν.sub ν'->HR w0 ν' nV nS h lh'->vr w0 ν'.z ν' v a->bu LP (K v) Q->KA a lh'):vZ C w0 args lh KA:=by
 unfold wE at hs
 split at hs
 ·exact hs.elim
 ·rename_i d p r hr
  simp only [bu]at hs
  obtain ⟨hs1,hs2,hs3,hs4⟩:=hs
  have hX:∀ k,k∈((List.range lh.length).filter fun k=>!isCells ν.z[k]?)↔k<lh.length/\isCells ν.z[k]? = false:=fun k=>by simp
  have hzl:uh ν.z (hide ((List.range lh.length).filter fun k=>!isCells ν.z[k]?) lh):=fun k az ty hk=>by
   rw [Go.Sx.hide_get,aaT (fun hm=>by have:=((hX k).1 hm).2;rw[hk]at this;simp[isCells]at this)]
   exact hh.zl k az ty hk
  have ha:bg w0 (hide ((List.range lh.length).filter fun k=>!isCells ν.z[k]?) lh) Nu.nil vs args:=j6 hzl vs args (o7 vs args hs3 hv)
  refine ⟨vs,d,p,r,_,ha,fun k hk=>?_,hr,⟨hs1,hs2⟩,hC _ _ _ _ hr hs1 hs2 _ _ _ ha,fun x new hx=>?_⟩
  ·rcases aqb k lh.length with hlt|hge
   ·left
    cases hi:isCells ν.z[k]? with
    |false=>exact(hk ((hX k).2 ⟨hlt,hi⟩)).elim
    | true =>
      cases hz:ν.z[k]? with
      |none=>rw[hz]at hi;cases hi
      | some o =>
        rw [hz]at hi
        cases o with
        |cells az ty=>rw[hh.zl k az ty hz];rfl
        |_=>cases hi
   ·exact .inr hge
  have hz:∀ k,k<lh.length->((List.range lh.length).map (fun k=>(ν.z[k]?).getD ao.dead)++new)[k]? = some ((ν.z[k]?).getD .dead):=fun k hk=>by
   rw [aaQ (by simpa using hk)];simp[hk]
  have hz2:∀ k,lh.length<=k->((List.range lh.length).map (fun k=>(ν.z[k]?).getD ao.dead)++new)[k]? = new[k-lh.length]? := fun k hk=>by
   rw [abv (by simpa using hk)];simp
  have hsub:ν.sub ⟨ν.m,(List.range lh.length).map (fun k=>(ν.z[k]?).getD ao.dead)++new⟩:=⟨fun _ _ h=>h,fun k az ty hk=>by
   have g:=hh.zl k az ty hk
   have hlt:=(List.getElem?_eq_some_iff.1 g).1
   show ((List.range lh.length).map (fun k=>(ν.z[k]?).getD ao.dead)++new)[k]? = _
   rw [hz k hlt,hk];rfl⟩
  refine hK r _ x _ ⟨new,rfl⟩ hsub ⟨fun k o hk=>?_,hh.inj,hh.dom,fun k x1 hk=>by rw[aft];exact ahs (hh.rng k x1 hk) (by omega),fun j az ty hj=>?_,fun k x1 hl hk=>?_⟩ ?_ hs4
  ·by_cases hd:o=.dead
   ·subst hd
    obtain ⟨g1,g2,g3⟩:=hh.blk k _ hk
    exact ⟨g1,g2,by rw[aaQ (List.getElem?_eq_some_iff.1 g3).1];exact g3⟩
   ·exact dw hsub hd (fun b az ty' g1 _=>by rw[aaQ (List.getElem?_eq_some_iff.1 g1).1];exact g1) (hh.blk k _ hk)
  ·by_cases hlt:j<lh.length
   ·rw [hz j hlt]at hj
    cases hg:ν.z[j]? with
    |none=>rw[hg]at hj;cases hj
    | some o =>
      rw [hg]at hj
      simp only [aqj,aaB]at hj
      subst hj
      rw [aaQ hlt];exact hh.zl j az ty hg
   ·rw[hz2 j (by omega)]at hj
    rw [abv (by omega)];exact hj
  ·have hlt:=hh.rng k x1 hk
   have:=hh.zn k x1 hl hk
   show isCells ((List.range lh.length).map (fun k=>(ν.z[k]?).getD ao.dead)++new)[x1.1]? = false
   rw [hz _ hlt]
   cases hg:ν.z[x1.1]? with
   |none=>rfl
   |some o=>rw[hg]at this;exact this
  ·refine ot (fun k x h=>by cases h) r x (kK (fun k az ty hk=>?_) r x hx)
   by_cases hlt:k<lh.length
   ·rw [aaQ (by rw[Go.Sx.hide_length];exact hlt),Go.Sx.hide_get]at hk
    split at hk
    ·cases hg:lh[k]? <;> rw[hg]at hk<;>cases hk
    ·rename_i hm
     rw [hz k hlt]
     cases hi:isCells ν.z[k]? with
     |false=>exact(hm ((hX k).2 ⟨hlt,hi⟩)).elim
     | true =>
       cases hg:ν.z[k]? with
       |none=>rw[hg]at hi;cases hi
       | some o =>
         rw [hg]at hi
         cases o with
         |cells as' ty'=>have:=hh.zl k as' ty' hg;rw[hk]at this;cases this;rfl
         |_=>cases hi
   ·rw[abv (by rw[Go.Sx.hide_length];omega),Go.Sx.hide_length]at hk
    rw [hz2 k (by omega)];exact hk
theorem Sr {ct:aZ} {lv:Nat} {f:FuncId} {C:av} (hC:jq ct f=some (.con C)):SV ct lv f=vP C:=by cases lv<;>simp only[SV,hC]
theorem YL {ct:aZ} {lv:Nat} {f:FuncId} {C:av} {h} (hC:jq ct f=some (.conN C h)):SV ct lv f=vN C:=by cases lv<;>simp only[SV,hC]
theorem YE {ct:aZ} {lv:Nat} {f:FuncId} {C:av} {h} (hC:jq ct f=some (.conZ C h)):SV ct lv f=vZ C:=by cases lv<;>simp only[SV,hC]
theorem o0 (w0:World) (ct:aZ) (LP:eu) (lv:Nat):vH w0 (SV ct lv) LP (mo (α:=α) ct):=by
 refine ⟨?_,?_⟩
 ·intro f vs h K Q ν nV nS args lh KA hv hh hs hK
  unfold mo at hs
  split at hs
  ·rename_i C hC
   rw [Sr hC]
   exact qV hv hh hs hK
  ·exact hs.elim
  ·exact hs.elim
  ·exact hs.elim
 ·intro f vs h K Q ν nV nS args lh KA hv hh hs hK
  unfold mo at hs
  unfold xL
  dsimp only at hs
  split at hs
  ·rename_i C hC
   rw [Sr hC]
   exact qV hv hh hs fun v a h1 h2=>⟨⟨[],by simp⟩,hK v h ν a lh (fun e=>by cases e) (Nu.sub_refl ν) hh h1 h2⟩
  ·rename_i C hC' hC
   rw [YL hC]
   exact sF hC' hv hh hs fun v ν' a lh' h0 h1 h2 h3 h4=>⟨h0,hK v h ν' a lh' (fun e=>by cases e) h1 h2 h3 h4⟩
  ·rename_i C hC' hC
   rw [YE hC]
   exact rU hC' hv hh hs fun v ν' a lh' h0 h1 h2 h3 h4=>⟨h0,hK v h ν' a lh' (fun e=>by cases e) h1 h2 h3 h4⟩
  ·exact hs.elim
def o9:aZ->Bool
 |[]=>true
 |(_,.con _)::l=>o9 l
 |(_,.conN ..)::l=>o9 l
 |(_,.conZ ..)::l=>o9 l
 |(_,.inl sf _)::l=>fj sf.ntmps sf.body&&o9 l
theorem zx:∀ {ct:aZ} {f:FuncId} {sf:aK} {un:kk},o9 ct=true->jq ct f=some (.inl sf un)->fj sf.ntmps sf.body=true
 |[],_,_,_,_,h=>by cases h
 | (k,c)::l,f,sf,un,hd,h=>by
   simp only [jq]at h
   cases hb:Nat.beq f k with
   | true =>
     rw [hb]at h;simp only[cond]at h;cases h
     simp only [o9,aaw]at hd;exact hd.1
   | false =>
     rw [hb]at h;simp only[cond]at h
     refine zx (ct:=l) ?_ h
     cases c with
     |con C=>exact hd
     |conN C h=>exact hd
     |conZ C h=>exact hd
     |inl sf' un'=>simp only[o9,aaw]at hd;exact hd.2
theorem oM (w0:World) (ct:aZ) (hd:o9 ct=true):∀ (lv:Nat),su w0 (SV ct lv) (cV w0 (SV ct)) false (mQ (α:=α) ct lv)
 | 0=>by
   intro f vs h K Q ν nV nS args lh KA hv hh hs hK
   simp only [mQ]at hs
   split at hs
   ·rename_i C hC
    have:SV ct 0 f=vP C:=by simp only[SV,hC]
    rw [this]
    exact qV hv hh hs fun v a hv hs=>hK v h ν a lh (fun e=>by cases e) (Nu.sub_refl ν) hh hv hs
   ·rename_i C hC0 hC
    have:SV ct 0 f=vN C:=by simp only[SV,hC]
    rw [this]
    exact sF hC0 hv hh hs fun v ν' a lh' _ g0 g1 g2 g3=>hK v h ν' a lh' (fun e=>by cases e) g0 g1 g2 g3
   ·rename_i C hC0 hC
    have:SV ct 0 f=vZ C:=by simp only[SV,hC]
    rw [this]
    exact rU hC0 hv hh hs fun v ν' a lh' _ g0 g1 g2 g3=>hK v h ν' a lh' (fun e=>by cases e) g0 g1 g2 g3
   ·exact hs.elim
 | n+1=>by
   intro f vs h K Q ν nV nS args lh KA hv hh hs hK
   simp only [mQ]at hs
   split at hs
   ·rename_i C hC
    have:SV ct (n+1) f=vP C:=by simp only[SV,hC]
    rw [this]
    exact qV hv hh hs fun v a hv hs=>hK v h ν a lh (fun e=>by cases e) (Nu.sub_refl ν) hh hv hs
   ·rename_i C hC0 hC
    have:SV ct (n+1) f=vN C:=by simp only[SV,hC]
    rw [this]
    exact sF hC0 hv hh hs fun v ν' a lh' _ g0 g1 g2 g3=>hK v h ν' a lh' (fun e=>by cases e) g0 g1 g2 g3
   ·rename_i C hC0 hC
    have:SV ct (n+1) f=vZ C:=by simp only[SV,hC]
    rw [this]
    exact rU hC0 hv hh hs fun v ν' a lh' _ g0 g1 g2 g3=>hK v h ν' a lh' (fun e=>by cases e) g0 g1 g2 g3
   ·rename_i sf un hC
    have:SV ct (n+1) f=yaS (SV ct n) sf:=by simp only[SV,hC]
    rw [this]
    exact qP (oM w0 ct hd n) (o0 w0 ct _ n) (zx hd hC) hv hh hs fun v h' ν' a lh' g0 g1 g2 g3=>hK v h' ν' a lh' (fun e=>by cases e) g0 (g1 nV nS) g2 g3
   ·exact hs.elim
end
inductive aO (P:Program) (eqs:List TypeId) (its:List gH):aZ->Prop
 |nil:aO P eqs its []
 |con {f:FuncId} {C:av} {ct:aZ} (h:(vP C).Ok P f) (hl:aO P eqs its ct):aO P eqs its ((f,.con C)::ct)
 |conN {f:FuncId} {C:av} {hC:∀ ds d p r,C ds=some (d,p,r)->d.1=d.2->p->okN r} {ct:aZ} (h:(vN C).Ok P f) (hl:aO P eqs its ct):aO P eqs its ((f,.conN C hC)::ct)
 |conZ {f:FuncId} {C:av} {hC:∀ ds d p r,C ds=some (d,p,r)->d.1=d.2->p->∀ w0 lh args,bg w0 lh Nu.nil ds args->∃ x new,vr w0 (lh++new) Nu.nil r x} {ct:aZ} (h:(vZ C).Ok P f) (hl:aO P eqs its ct):aO P eqs its ((f,.conZ C hC)::ct)
 |inl {f : FuncId} {fn : Func} {sf : aK} {un : kk} {ct : aZ} (hf : P.funcs[f]? = some fn) (hn : (fn.name == "runtime.NumGoroutine") = false) (hc : dW P eqs its fn = some sf) (hd : fj sf.ntmps sf.body = true) (hl : aO P eqs its ct) : aO P eqs its ((f, .inl sf un) :: ct)
theorem aO.look {P:Program} {eqs:List TypeId} {its:List gH} {ct:aZ} (h:aO P eqs its ct):∀ {f:FuncId} {x:Ent},jq ct f=some x->match x with
 |.con C=>(vP C).Ok P f
 |.conN C _=>(vN C).Ok P f
 |.conZ C _=>(vZ C).Ok P f
 |.inl sf _ => ∃ fn, P.funcs[f]? = some fn /\ (fn.name == "runtime.NumGoroutine") = false /\ dW P eqs its fn = some sf := by
 induction h with
 |nil=>intro f x h;cases h
 | @con k C ct h hl ih =>
   intro f x hx
   simp only [jq]at hx
   cases hb:Nat.beq f k with
   |true=>rw[hb]at hx;simp only[cond]at hx;cases hx;have:=aax hb;subst this;exact h
   |false=>rw[hb]at hx;simp only[cond]at hx;exact ih hx
 | @conN k C hC ct h hl ih =>
   intro f x hx
   simp only [jq]at hx
   cases hb:Nat.beq f k with
   |true=>rw[hb]at hx;simp only[cond]at hx;cases hx;have:=aax hb;subst this;exact h
   |false=>rw[hb]at hx;simp only[cond]at hx;exact ih hx
 | @conZ k C hC ct h hl ih =>
   intro f x hx
   simp only [jq]at hx
   cases hb:Nat.beq f k with
   |true=>rw[hb]at hx;simp only[cond]at hx;cases hx;have:=aax hb;subst this;exact h
   |false=>rw[hb]at hx;simp only[cond]at hx;exact ih hx
 | @inl k fn sf un ct hf hn hc hd hl ih =>
   intro f x hx
   simp only [jq]at hx
   cases hb:Nat.beq f k with
   |true=>rw[hb]at hx;simp only[cond]at hx;cases hx;have:=aax hb;subst this;exact⟨fn,hf,hn,hc⟩
   |false=>rw[hb]at hx;simp only[cond]at hx;exact ih hx
theorem aO.dst {P:Program} {eqs:List TypeId} {its:List gH} {ct:aZ} (h:aO P eqs its ct):o9 ct=true:=by
 induction h with
 |nil=>rfl
 |con h hl ih=>exact ih
 |conN h hl ih=>exact ih
 |conZ h hl ih=>exact ih
 |inl hf hn hc hd hl ih=>simp only[o9,hd,ih,aqB]
theorem aO.ok {P:Program} {eqs:List TypeId} {its:List gH} {ct:aZ} (h:aO P eqs its ct) (hE:∀ t∈eqs,cU P t) (hI:kG P eqs its):∀ (lv:Nat) (g:FuncId),(SV ct lv g).Ok P g
 | 0,g=>by
   simp only [SV]
   split
   ·rename_i C hC;exact h.look hC
   ·rename_i C hC0 hC;exact h.look hC
   ·rename_i C hC0 hC;exact h.look hC
   ·exact RL g
 | n+1,g=>by
   simp only [SV]
   split
   ·rename_i C hC;exact h.look hC
   ·rename_i C hC0 hC;exact h.look hC
   ·rename_i C hC0 hC;exact h.look hC
   ·rename_i sf un hC
    obtain ⟨fn,h1,h2,h3⟩:=h.look hC
    exact ZZ (h.ok hE hI n) hE hI h1 h2 h3
   ·exact RL g
def LV:Nat:=12
def run (ct:aZ) (un:kk) (sf:aK) (ds:List V):T V:=m6 (mQ ct LV) (mo ct) un LV sf ds [] fun v _=>.ret v
theorem aiR {α:Type} {P:Program} {eqs:List TypeId} {its:List gH} {ct:aZ} {f:FuncId} {fn:Func} {sf:aK} {un:kk} {C:av} {K0:V->T α} {Q0:V->α->Prop} (hK0:∀ w0 r v,bu (cV w0 (SV ct)) (K0 v) (Q0 r)->cz v=cz r) (hT:aO P eqs its ct) (hE:∀ t∈eqs,cU P t) (hI:kG P eqs its) (hf:P.funcs[f]? = some fn)
 (hn : (fn.name == "runtime.NumGoroutine") = false) (hc : dW P eqs its fn = some sf) (hd : fj sf.ntmps sf.body = true)
 (h:∀ w0 ds d p r,C ds=some (d,p,r)->d.1=d.2->p->plain (cz r)=true->bu (cV w0 (SV ct)) (m6 (mQ ct LV) (mo ct) un LV sf ds [] fun v _=>K0 v) (Q0 r)):(vP C).Ok P f:=by
 refine ⟨fun B m lh w args vs K hrel hargs hsp=>?_,fun _ _ _ _ _ hk ⟨ds,d,p,r,h1,h2,h3,h4,h5⟩=>⟨ds,d,p,r,h1,h2,h3,h4,hk _ _ h5⟩,fun _ _ _ _ ⟨_,_,_,_,_,_,_,_,h⟩=>h⟩
 obtain ⟨ds,d,p,r,h1,h2,⟨h30,h3⟩,h4,h5⟩:=hsp
 obtain ⟨args',g1,g2⟩:=jT hrel ds args vs h1 hargs
 have hs:=oR (Sp:=fun w0 args lh K=>lh=[]/\∃ ds d p r,bg w0 [] Nu.nil ds args/\C ds=some (d,p,r)/\(d.1=d.2/\p)/\plain (cz r)=true/\K (cz r) []) (hT.ok hE hI LV) hE hI hf hn hc (fun w0 args lh K hw ha ⟨e,ds,d,p,r,k1,k2,⟨k30,k3⟩,k4,k5⟩=>by
  subst e
  refine qP (oM w0 ct hT.dst LV) (o0 w0 ct _ LV) hd k1 (HR.none w0) (h w0 ds d p r k2 k30 k3 k4) fun v h' ν' a lh' _ q1 q2 q3=>?_
  have q3:=hK0 _ _ _ q3
  have:=(zm (by rw[q3];exact k4) a).1 q2
  rw [q3]at this
  subst this
  exact O2 (lh:=[]) (l:=lh') (RP k4) hw k5)
 obtain ⟨e1,e2⟩:=hs ⟨w,w,fun _=>False,[]⟩ (fun _=>none) [] w args' vs (fun r' _=>r'=cz r) (a7.start w) g1 ⟨rfl,ds,d,p,r,g2,h2,⟨h30,h3⟩,h4,rfl⟩
 refine ⟨e1,e2.mono fun e w' ⟨v,r',m1,lh1,he,hv,_,hr,hk⟩=>?_⟩
 subst hk
 exact ⟨v,_,m,lh,he,KX h4 hv,hG.refl _ _,hrel.back hr,h5⟩
def Ge (e:Nat) (ty:TypeId) (h:List O):V->V
 | .gs k n=>match fM h k with
   |some (.gl e' _ f ty')=>cond (Nat.beq e' e&&Nat.beq ty' ty) (.sl n f) .any
   |_=>.any
 |.ns=>.sl 0 fun _=>[]
 |_=>.any
def IA (h:List O):V->Bool
 | .gs k n=>match fM h k with
   |some (.gl _ n' _ _)=>decide (n<=n')
   |_=>true
 |_=>true
def Ll (h:List O):V->Bool
 |.tup (v::_)=>IA h v
 |v=>IA h v
def LH (e:Nat) (ty:TypeId) (h:List O):V->V
 |.tup (v::vs)=>.tup (Ge e ty h v::vs)
 |v=>Ge e ty h v
section
variable {w0:World} {ν:Nu} {nV nS:Nat} {h:List O} {lh:List ao}
theorem HT (hh:HR w0 ν nV nS h lh) {e:Nat} {ty:TypeId} {v:V} {a:ak} {n:Nat} {f:aL} (hv:vr w0 ν.z ν v a) (hs:∀ i,i<n->(cu (f i)).all bm=true) (hc:IA h v=true) (ht:cz (Ge e ty h v)=cz (.sl n f)):KY e ty 0 lh n f a:=by
 unfold Ge at ht
 split at ht
 ·rename_i k n1
  unfold IA at hc;dsimp only at hc
  rw [be]at ht hc
  split at ht
  ·rename_i e' n' g ty' hk
   cases hb:(Nat.beq e' e&&Nat.beq ty' ty) with
   |false=>rw[hb]at ht;simp[cz]at ht
   | true =>
     rw [hb]at ht
     simp only [aaw]at hb
     have e1:=aax hb.1
     have e2:=aax hb.2
     rw [hk]at hc
     have e3:=abg hc
     subst e1;subst e2
     obtain ⟨rfl,hel⟩:=GF ht
     simp only [vr]at hv
     rcases hv with ⟨g1,rfl,rfl⟩|⟨b,c,e2,g1,rfl,g3⟩
     ·exact .inl ⟨rfl,rfl⟩
     ·rcases hh.blk k _ hk with ⟨h1,h2⟩|⟨b',c',az,h1,h2,h3,h4,h5⟩
      ·rw[h1]at g1;cases g1
      ·rw[h1]at g1
       obtain ⟨rfl,rfl,rfl⟩:b'=b/\c'=c/\e'=e2:=by simpa using g1
       refine .inr ⟨b',c',az,acK _,h2,rfl,h3,g3,fun i hi=>?_⟩
       have:=(eG (by rw[hel i hi];exact hs i hi) _).1 (h5 i (by omega)).2
       rw [this,hel i hi]
  ·simp[cz]at ht
 ·simp only[vr]at hv
  obtain ⟨rfl,_⟩:=GF ht
  exact .inl ⟨rfl,hv⟩
 ·simp[cz]at ht
theorem W0 (hh:HR w0 ν nV nS h lh) {e:Nat} {ty:TypeId} {v r:V} {a:ak} {n:Nat} {f:aL} (hv:vr w0 ν.z ν v a) (hr:pL r=some (n,f)) (ho:Yo e r) (hc:Ll h v=true) (ht:cz (LH e ty h v)=cz r):∃ x,KY e ty 0 lh n f x/\a=pN x r:=by
 obtain ⟨n',f',hl,_,hel,hrs⟩:=ho
 rw [hr]at hl;cases hl
 have hs:=fun i hi=>(hel i hi).2
 unfold LH at ht
 rcases tl hr with rfl|⟨us,rfl⟩
 ·split at ht
  ·simp[cz]at ht
  ·rename_i hv0
   exact ⟨a,HT hh hv hs (by unfold Ll at hc;split at hc<;>first|exact(hv0 _ _ rfl).elim|exact hc) ht,rfl⟩
 ·split at ht
  ·rename_i u vs
   have ht1:cz (Ge e ty h u)=cz (.sl n f):=by simp only[cz,cu,ak.tup.injEq,abA]at ht ⊢;exact ht.1
   have ht2:cu vs=cu us:=by simp only[cz,cu,ak.tup.injEq,abA]at ht;exact ht.2
   simp only [vr]at hv
   obtain ⟨az,rfl,hv⟩:=hv
   simp only [bg]at hv
   obtain ⟨x,xs,rfl,h1,h2⟩:=hv
   refine ⟨x,HT hh h1 hs hc ht1,?_⟩
   simp only [pN]
   rw [(eG (by rw[ht2];exact hrs) _).1 h2,ht2]
  ·have:∀ u,cz (Ge e ty h u)≠.tup (cu (.sl n f::us)):=fun u=>by
    unfold Ge
    split
    ·split
     ·rename_i e' n' g ty' _
      cases (Nat.beq e' e&&Nat.beq ty' ty)<;>simp[cz]
     ·simp[cz]
    ·simp[cz]
    ·simp[cz]
   exact (this _ (by rw[ht];simp only[cz])).elim
end
theorem exL {e:Nat} {ty:TypeId} {r:V} {n:Nat} {f:aL} (hr:pL r=some (n,f)) (ho:Yo e r) (lh:List ao):∃ x new,KY e ty lh.length (lh++new) n f x:=by
 obtain ⟨n',f',hl,_,hel,_⟩:=ho
 rw [hr]at hl;cases hl
 obtain ⟨h1,h2⟩:=zZ (e:=e) (f:=f) (n:=n) fun i hi=>by rw[wb];exact(yah (hel i hi).1).1
 exact ⟨_,[.cells ((List.range n).flatMap fun i=>cu (f i)) ty],.inr ⟨lh.length,n,(List.range n).flatMap fun i=>cu (f i),aaS _,by simp,rfl,h1,aaS _,h2⟩⟩
theorem aiv {α:Type} {P:Program} {eqs:List TypeId} {its:List gH} {ct:aZ} {f:FuncId} {fn:Func} {sf:aK} {un:kk} {e:Nat} {ty:TypeId} {C:av} {K0:V->List O->T α} {Q0:V->α->Prop} (hK0:∀ w0 r v h,bu (cV w0 (SV ct)) (K0 v h) (Q0 r)->Ll h v=true/\cz (LH e ty h v)=cz r) (hT:aO P eqs its ct) (hE:∀ t∈eqs,cU P t) (hI:kG P eqs its) (hf:P.funcs[f]? = some fn)
 (hn : (fn.name == "runtime.NumGoroutine") = false) (hc : dW P eqs its fn = some sf) (hd : fj sf.ntmps sf.body = true)
 (h:∀ w0 ds d p r,C ds=some (d,p,r)->d.1=d.2->p->bu (cV w0 (SV ct)) (m6 (mQ ct LV) (mo ct) un LV sf ds [] K0) (Q0 r)):(vL e ty C).Ok P f:=by
 refine ⟨fun B m lh w args vs K hrel hargs hsp=>?_,fun _ _ _ _ _ hk ⟨ds,d,p,r,n,g,h1,h2,h3,h4,h5,h6⟩=>⟨ds,d,p,r,n,g,h1,h2,h3,h4,h5,fun x new hx=>hk _ _ (h6 x new hx)⟩,fun _ _ lh _ ⟨_,_,_,_,_,_,_,_,_,h4,h5,h6⟩=>let ⟨x,new,hx⟩:=exL (ty:=ty) h4 h5 lh;h6 x new hx⟩
 obtain ⟨ds,d,p,r,n,g,h1,h2,⟨h30,h3⟩,h4,h5,h6⟩:=hsp
 obtain ⟨args',g1,g2⟩:=jT hrel ds args vs h1 hargs
 have hs:=oR (Sp:=fun w0 args lh K=>lh=[]/\∃ ds d p r n g,bg w0 [] Nu.nil ds args/\C ds=some (d,p,r)/\(d.1=d.2/\p)/\pL r=some (n,g)/\Yo e r/\∀ x lh1,KY e ty 0 lh1 n g x->K (pN x r) lh1) (hT.ok hE hI LV) hE hI hf hn hc (fun w0 args lh K hw ha ⟨e,ds,d,p,r,n,g,k1,k2,⟨k30,k3⟩,k4,k5,k6⟩=>by
  subst e
  refine qP (oM w0 ct hT.dst LV) (o0 w0 ct _ LV) hd k1 (HR.none w0) (h w0 ds d p r k2 k30 k3) fun v h' ν' a lh' _ q1 q2 q3=>?_
  have q3:=hK0 _ _ _ _ q3
  obtain ⟨x,hx,rfl⟩:=W0 (q1 0 0) q2 k4 k5 q3.1 q3.2
  exact ⟨_,lh',.inl ⟨rfl,(⟨.inr rfl,trivial⟩:lH [_] [_])⟩,k6 x lh' hx⟩)
 obtain ⟨e1,e2⟩:=hs ⟨w,w,fun _=>False,[]⟩ (fun _=>none) [] w args' vs (fun r' lh1=>∃ x,KY e ty 0 lh1 n g x/\r'=pN x r) (a7.start w) g1 ⟨rfl,ds,d,p,r,n,g,g2,h2,⟨h30,h3⟩,h4,h5,fun x lh1 hx=>⟨x,hx,rfl⟩⟩
 refine ⟨e1,e2.mono fun ee w' ⟨v,r',m1,lh1,he,hv,_,hr,⟨x,hx,hk⟩⟩=>?_⟩
 subst hk
 obtain ⟨n',g',hl,hmax,hel,hrs⟩:=h5
 have hl':=hl
 rw [h4]at hl';cases hl'
 have hback:=hrel.back hr
 rcases hx with ⟨rfl,rfl⟩|⟨b,c,az,_,hbl,rfl,hal,hnc,hall⟩
 ·refine ⟨v,pN (.slice none 0 0) r,m,lh,he,zo h4 hrs (fun u hu=>?_) hv,hG.refl _ _,hback,?_⟩
  ·simp only[vrel]at hu ⊢;exact hu
  ·have:=h6 (.slice none 0 0) [] (.inl ⟨rfl,rfl⟩)
   rwa [apz]at this
 ·obtain ⟨b0,us,m1b,hus,hheap,hge,_⟩:=hr.loc b az ty hbl
  have hle:n*e<=az.length:=by rw[hal];exact abt e hnc
  have hlen:=cv hus
  have hnew:∀ k b',m k=some b'->b'≠b0:=fun k b' hk e0=>by
   have:=hrel.rng k b' hk;simp only at hge;omega
  have hsc:(az.take (n*e)).all bm=true:=rC fun i hi=>by rw[hall i hi];exact(hel i hi).2
  have hvs:ar (fun k=>if k=lh.length then some b0 else m k) (az.take (n*e)++List.replicate (us.toList.drop (n*e)).length .any) us.toList:=by
   have:=dF (iS (m':=fun k=>if k=lh.length then some b0 else m k) hsc (eJ (n*e) hus)) (wk (us.toList.drop (n*e)))
   rwa [aqd]at this
  obtain ⟨hH,hle'⟩:=LF hback (b:=b0) (ty:=ty) hheap hvs (ajf hrel.size hge) (ajf hrel.fsize hge) hnew
  refine ⟨v,pN (.slice (some (.l lh.length 0)) n c) r,_,_,he,zo h4 hrs (fun u hu=>?_) hv,⟨hle',fun k hk=>⟨?_,?_⟩⟩,hH,h6 _ _ (.inr ⟨lh.length,c,az.take (n*e)++List.replicate (us.toList.drop (n*e)).length .any,aaS _,by rw[abv (aaS _),Nat.sub_self];rfl,rfl,?_,hnc,fun i hi=>?_⟩)⟩
  ·simp only[vrel,dC]at hu ⊢
   obtain ⟨q,rfl,b',hb',rfl⟩:=hu
   rw [m1b]at hb';cases hb'
   exact ⟨_,rfl,b0,by simp,rfl⟩
  ·rw[aaQ (List.getElem?_eq_some_iff.1 hk).1];exact hk
  ·have:=(List.getElem?_eq_some_iff.1 hk).1
   simp only [aaT (apN this)]
  ·simp only[aft,arD,List.length_replicate,aph];omega
  ·rw[← hall i hi]
   refine AQ (N:=n*e) ?_ (by rw[← adm];exact abt e (by omega))
   rw [ajK (by simp;omega),alF,Nat.min_self]
inductive Ty where
 |int (k:IntKind)
 |bool
 |str
 |agg (ts:List Ty)
 |sl (ts:List Ty)
 |fn (f:FuncId) (xs ys:List Ty)
 |pd (ts:List Ty)
def iv:V->Int
 |.int _ n=>n
 |_=>0
def bv:V->Bool
 |.bool b=>b
 |.kb b=>b
 |_=>false
def sv:V->ByteArray
 |.str s=>s
 |_=>ByteArray.empty
def aN:V->Nat
 |.sl n _=>n
 |.sq n _ _=>n
 |_=>0
def Le:V->Nat
 |.sl n _=>n
 |.sq _ m _=>m
 |_=>0
def bO:V->Nat->List V
 |.sl _ f,i=>f i
 |.sq _ _ f,i=>f i
 |_,_=>[]
def da:V->List V
 |.agg cs=>cs
 |_=>[]
def J6:V->List V
 |.fn _ xs _=>xs
 |_=>[]
def JR:V->List V
 |.fn _ _ ys=>ys
 |_=>[]
def HJ:V->List V
 |.pd cs=>cs
 |_=>[]
def aE:List V->V
 |v::_=>v
 |[]=>.any
def ae:List V->List V
 |_::vs=>vs
 |[]=>[]
def bU:Ty->Bool
 |.agg _=>false
 |.fn ..=>false
 |.pd _=>false
 |_=>true
mutual
def cM:Ty->V->V
 |.int k,v=>.int k (iv v)
 |.bool,v=>.bool (bv v)
 |.str,v=>.str (sv v)
 |.agg ts,v=>.agg (al ts (da v))
 |.sl ts,v=>.sl (aN v) fun i=>al ts (bO v i)
 |.fn f xs ys,v=>.fn f (al xs (J6 v)) (al ys (JR v))
 |.pd ts,v=>.pd (al ts (HJ v))
def al:List Ty->List V->List V
 |[],_=>[]
 |t::ts,vs=>cM t (aE vs)::al ts (ae vs)
end
mutual
def cO:Ty->V->Prop
 |.int k,v=>v=.int k (iv v)
 |.bool,v=>v=.bool (bv v)∨v=.kb (bv v)
 |.str,v=>v=.str (sv v)
 |.agg ts,v=>v=.agg (da v)/\bp ts (da v)
 |.sl ts,v=>(v=.sl (aN v) (bO v)∨v=.sq (aN v) (Le v) (bO v))/\ts.all bU=true/\∀ i,i<Le v->bp ts (bO v i)
 |.fn f xs ys,v=>v=.fn f (J6 v) (JR v)/\bp xs (J6 v)/\bp ys (JR v)
 |.pd ts,v=>v=.pd (HJ v)/\ts.all bU=true/\bp ts (HJ v)
def bp:List Ty->List V->Prop
 |[],vs=>vs=[]
 |t::ts,vs=>vs=aE vs::ae vs/\cO t (aE vs)/\bp ts (ae vs)
end
theorem nR:∀ (ts:List Ty) (vs:List V),ts.all bU=true->(al ts vs).all V.fc=true
 |[],_,_=>by simp[al]
 | t::ts,vs,h=>by
   simp only [adT,aaw]at h
   simp only [al,adT,aaw]
   refine ⟨?_,nR ts _ h.2⟩
   cases t<;>first|rfl|(simp[bU]at h)|(simp only[cM];rfl)
theorem vu:∀ {ts:List Ty} {vs:List V},bp ts vs->vs.length=ts.length
 |[],vs,h=>by simp only[bp]at h;subst h;rfl
 |t::ts,vs,h=>by simp only[bp]at h;rw[h.1];simp[vu h.2.2]
section
variable {w0:World} {lh:List ao}
theorem sV:∀ (ts:List Ty) (vs:List V),(al ts vs).length=ts.length
 |[],_=>by simp[al]
 |t::ts,vs=>by simp[al,sV ts]
mutual
theorem XO:∀ (t:Ty) (v:V) (a:ak),cO t v->vr w0 lh Nu.nil v a->vr w0 lh Nu.nil (cM t v) a
 |.int k,v,a,h,hv=>by simp only[cO]at h;simp only[cM];rw[h]at hv;exact hv
 | .bool,v,a,h,hv=>by
   simp only [cO]at h;simp only[cM,vr]
   rcases h with h|h<;>(rw[h]at hv;simp only[vr]at hv;exact hv)
 |.str,v,a,h,hv=>by simp only[cO]at h;simp only[cM];rw[h]at hv;exact hv
 | .agg ts,v,a,h,hv=>by
   simp only [cO]at h
   rw [h.1]at hv
   simp only [cM,vr]at hv ⊢
   obtain ⟨az,h1,h2⟩:=hv
   exact ⟨az,h1,eR ts _ az h.2 h2⟩
 | .sl ts,v,a,h,hv=>by
   simp only [cO]at h
   rcases h.1 with h0|h0
   ·have hb:Le v=aN v:=by rw[h0];rfl
    rw [h0]at hv
    simp only [cM,vr]at hv ⊢
    obtain ⟨p,c,esz,h1,h2,h3,h4,h5⟩:=hv
    exact ⟨p,c,esz,h1,h2,h3,h4,fun i hi=>let ⟨q,az,g1,g2,g3,g4⟩:=h5 i hi;⟨q,az,g1,g2,eR ts _ az (h.2.2 i (by omega)) g3,nR ts _ h.2.1⟩⟩
   ·rw[h0]at hv
    simp only [cM,vr]at hv ⊢
    obtain ⟨p,c,esz,h1,⟨h2,h2'⟩,h3,h4,h5⟩:=hv
    exact ⟨p,c,esz,h1,h2,h3,h4,fun i hi=>let ⟨q,az,g1,g2,g3,g4⟩:=h5 i hi;⟨q,az,g1,g2,eR ts _ az (h.2.2 i (by omega)) g3,nR ts _ h.2.1⟩⟩
 | .fn f xs ys,v,a,h,hv=>by
   simp only [cO]at h
   rw [h.1]at hv
   simp only [cM,vr]at hv ⊢
   obtain ⟨us,vs,h1,h2,h3⟩:=hv
   exact ⟨us,vs,h1,eR xs _ us h.2.1 h2,eR ys _ vs h.2.2 h3⟩
 | .pd ts,v,a,h,hv=>by
   simp only [cO]at h
   rw [h.1]at hv
   simp only [cM,vr]at hv ⊢
   obtain ⟨p,az,h1,h2,h3,h4,h5⟩:=hv
   have hl:=vu h.2.2
   refine ⟨p,az,h1,h2,by rw[sV,← hl];exact h3,eR ts _ az h.2.2 h4,nR ts _ h.2.1⟩
theorem eR:∀ (ts:List Ty) (vs:List V) (az:List ak),bp ts vs->bg w0 lh Nu.nil vs az->bg w0 lh Nu.nil (al ts vs) az
 |[],vs,az,h,hv=>by simp only[bp]at h;subst h;simpa only[al] using hv
 | t::ts,vs,az,h,hv=>by
   simp only [bp]at h
   rw [h.1]at hv
   simp only [bg]at hv
   obtain ⟨x,xs,rfl,h1,h2⟩:=hv
   simp only [al,bg]
   exact ⟨x,xs,rfl,XO t _ x h.2.1 h1,eR ts _ xs h.2.2 h2⟩
end
end
mutual
def wD:Ty->Bool
 |.agg ts=>fF ts
 |.sl ts=>ts.all bU&&fF ts
 |.fn _ xs ys=>fF xs&&fF ys
 |.pd ts=>ts.all bU&&fF ts
 |_=>true
def fF:List Ty->Bool
 |[]=>true
 |t::ts=>wD t&&fF ts
end
def Lv:Nat->(Nat->List V->List V)->List V->List V
 |0,_,k=>k
 |j+1,g,k=>g j (Lv j g k)
mutual
def sQ:Ty->V->List V->List V
 |.agg ts,v,k=>.agg (da v)::lw ts (da v) k
 | .sl ts,v,k=>match v with
   |.sq _ m f=>Lv m (fun j k=>lw ts (f j) k) k
   |v=>cM (.sl ts) v::k
 |.fn f xs ys,v,k=>.fn f (J6 v) (JR v)::lw xs (J6 v) (lw ys (JR v) k)
 |.pd ts,v,k=>.pd (HJ v)::lw ts (HJ v) k
 |t,v,k=>cM t v::k
def lw:List Ty->List V->List V->List V
 |[],_,k=>.agg []::k
 |t::ts,vs,k=>.agg (aE vs::ae vs)::sQ t (aE vs) (lw ts (ae vs) k)
end
mutual
def sB:Ty->V->List V->List V
 |.agg ts,v,k=>v::lB ts (da v) k
 | .sl ts,v,k=>match v with
   |.sq _ m f=>Lv m (fun j k=>lB ts (f j) k) k
   |v=>v::k
 |.fn _ xs ys,v,k=>v::lB xs (J6 v) (lB ys (JR v) k)
 |.pd ts,v,k=>v::lB ts (HJ v) k
 |_,v,k=>v::k
def lB:List Ty->List V->List V->List V
 |[],vs,k=>.agg vs::k
 |t::ts,vs,k=>.agg vs::sB t (aE vs) (lB ts (ae vs) k)
end
theorem As {P:Nat->Prop} {g g':Nat->List V->List V} (hg:∀ j k k',g j k=g' j k'->P j/\k=k'):∀ (m:Nat) (k k':List V),Lv m g k=Lv m g' k'->(∀ j,j<m->P j)/\k=k'
 |0,k,k',h=>⟨fun j hj=>by omega,h⟩
 | m+1,k,k',h=>by
   simp only [Lv]at h
   obtain ⟨h1,h2⟩:=hg m _ _ h
   obtain ⟨h3,h4⟩:=As hg m k k' h2
   exact ⟨fun j hj=>by
    by_cases e:j=m
    ·subst e;exact h1
    ·exact h3 j (by omega),h4⟩
theorem AL:∀ (ts:List Ty) (vs:List V),fF ts=true->al ts vs=vs->bp ts vs:=by
 have key:∀ (ts:List Ty),fF ts=true->∀ vs,al ts vs=vs->bp ts vs:=fun ts ho vs h=>hasTys_of' ts vs ho h
 exact fun ts vs ho h=>key ts ho vs h
where
 hasTy_of':∀ (t:Ty) (v:V),wD t=true->cM t v=v->cO t v
 |.int k,v,_,h=>by simp only[cM]at h;simp only[cO];exact h.symm
 |.bool,v,_,h=>by simp only[cM]at h;simp only[cO];exact .inl h.symm
 |.str,v,_,h=>by simp only[cM]at h;simp only[cO];exact h.symm
 | .agg ts,v,ho,h=>by
   simp only [cM]at h;simp only[wD]at ho
   have h2:al ts (da v)=da v:=by have:=congrArg da h;simpa only[da] using this
   simp only [cO]
   exact ⟨by rw[h2]at h;exact h.symm,hasTys_of' ts _ ho h2⟩
 | .sl ts,v,ho,h=>by
   simp only [cM]at h;simp only[wD,aaw]at ho
   have h2:∀ i,al ts (bO v i)=bO v i:=fun i=>by
    have:=congrArg (fun u=>bO u i) h
    simpa only [bO] using this
   simp only [cO]
   refine ⟨.inl ?_,ho.1,fun i _=>hasTys_of' ts _ ho.2 (h2 i)⟩
   have h3:(fun i=>al ts (bO v i))=bO v:=funext h2
   rw [h3]at h;exact h.symm
 | .fn f xs ys,v,ho,h=>by
   simp only [cM]at h;simp only[wD,aaw]at ho
   have h2:al xs (J6 v)=J6 v:=by have:=congrArg J6 h;simpa only[J6] using this
   have h3:al ys (JR v)=JR v:=by have:=congrArg JR h;simpa only[JR] using this
   simp only [cO]
   exact ⟨by rw[h2,h3]at h;exact h.symm,hasTys_of' xs _ ho.1 h2,hasTys_of' ys _ ho.2 h3⟩
 | .pd ts,v,ho,h=>by
   simp only [cM]at h;simp only[wD,aaw]at ho
   have h2:al ts (HJ v)=HJ v:=by have:=congrArg HJ h;simpa only[HJ] using this
   simp only [cO]
   exact ⟨by rw[h2]at h;exact h.symm,ho.1,hasTys_of' ts _ ho.2 h2⟩
 hasTys_of':∀ (ts:List Ty) (vs:List V),fF ts=true->al ts vs=vs->bp ts vs
 |[],vs,_,h=>by simp only[al]at h;simp only[bp];exact h.symm
 | t::ts,vs,ho,h=>by
   simp only [al]at h;simp only[fF,aaw]at ho
   have h2:cM t (aE vs)=aE vs:=by have:=congrArg aE h;simpa only[aE] using this
   have h3:al ts (ae vs)=ae vs:=by have:=congrArg ae h;simpa only[ae] using this
   simp only [bp]
   exact ⟨by rw[h2,h3]at h;exact h.symm,hasTy_of' t _ ho.1 h2,hasTys_of' ts _ ho.2 h3⟩
def aa (ts:List Ty) (f:aL):Nat->List V:=fun i=>al ts (f i)
mutual
def Tk:Ty->V->V
 | .agg ts,v=>match v with
   |.agg cs=>.agg (j9 ts cs)
   |v=>v
 | .sl ts,v=>match v with
   |.sq n _ f=>.sl n (aa ts f)
   |v=>v
 | .fn _ xs ys,v=>match v with
   |.fn f us vs=>.fn f (j9 xs us) (j9 ys vs)
   |v=>v
 | .pd ts,v=>match v with
   |.pd cs=>.pd (j9 ts cs)
   |v=>v
 |_,v=>v
def j9:List Ty->List V->List V
 |[],_=>[]
 | t::ts,vs=>match vs with
   |v::vs=>Tk t v::j9 ts vs
   |[]=>[]
end
mutual
theorem aeH:∀ (t:Ty) (v:V) (k k':List V),sQ t v k=sB t v k'->Tk t v=cM t v/\k=k'
 | .int _,v,k,k',h=>by
   simp only [sQ,sB,abA]at h
   simp only [Tk];exact⟨h.1.symm,h.2⟩
 | .bool,v,k,k',h=>by
   simp only [sQ,sB,abA]at h
   simp only [Tk];exact⟨h.1.symm,h.2⟩
 | .str,v,k,k',h=>by
   simp only [sQ,sB,abA]at h
   simp only [Tk];exact⟨h.1.symm,h.2⟩
 | .agg ts,v,k,k',h=>by
   simp only [sQ,sB,abA]at h
   obtain ⟨h1,h2⟩:=fW ts _ k k' h.2
   obtain ⟨cs,rfl⟩:∃ cs,v=.agg cs:=⟨_,h.1.symm⟩
   simp only [da]at h1
   simp only [Tk,cM,da,h1];exact⟨trivial,h2⟩
 | .sl ts,v,k,k',h=>by
   by_cases hv:∃ n m f,v=.sq n m f
   ·obtain⟨n,m,f,rfl⟩:=hv
    simp only [sQ,sB]at h
    obtain ⟨_,h2⟩:=As (P:=fun _=>True) (fun j k k' hj=>⟨trivial,(fW ts (f j) k k' hj).2⟩) m k k' h
    exact ⟨rfl,h2⟩
   ·cases v<;>first|exact(hv ⟨_,_,_,rfl⟩).elim|(simp only[sQ,sB,abA]at h;simp only[Tk];exact⟨h.1.symm,h.2⟩)
 | .fn f xs ys,v,k,k',h=>by
   simp only [sQ,sB,abA]at h
   obtain ⟨h1,h2⟩:=fW xs _ _ _ h.2
   obtain ⟨h3,h4⟩:=fW ys _ _ _ h2
   obtain ⟨us,vs,rfl⟩:∃ us vs,v=.fn f us vs:=⟨_,_,h.1.symm⟩
   simp only [J6]at h1
   simp only [JR]at h3
   simp only [Tk,cM,J6,JR,h1,h3];exact⟨trivial,h4⟩
 | .pd ts,v,k,k',h=>by
   simp only [sQ,sB,abA]at h
   obtain ⟨h1,h2⟩:=fW ts _ k k' h.2
   obtain ⟨cs,rfl⟩:∃ cs,v=.pd cs:=⟨_,h.1.symm⟩
   simp only [HJ]at h1
   simp only [Tk,cM,HJ,h1];exact⟨trivial,h2⟩
theorem fW:∀ (ts:List Ty) (vs:List V) (k k':List V),lw ts vs k=lB ts vs k'->j9 ts vs=al ts vs/\k=k'
 | [],vs,k,k',h=>by
   simp only [lw,lB,abA,V.agg.injEq]at h
   simp only [j9,al];exact⟨trivial,h.2⟩
 | t :: ts,vs,k,k',h=>by
   simp only [lw,lB,abA,V.agg.injEq]at h
   obtain ⟨h1,h2⟩:=aeH t _ _ _ h.2
   obtain ⟨h3,h4⟩:=fW ts _ _ _ h2
   have h0:=h.1
   cases vs with
   |nil=>cases h0
   | cons v vs =>
     simp only [aE,ae]at h1 h3
     simp only [j9,al,aE,ae,h1,h3];exact⟨trivial,h4⟩
end
mutual
theorem alM:∀ (t:Ty) (v:V) (k k':List V),wD t=true->sQ t v k=sB t v k'->cO t v/\k=k'
 | .int _,v,k,k',_,h=>by
   simp only [sQ,sB,abA]at h
   simp only [cM]at h;simp only[cO];exact⟨h.1.symm,h.2⟩
 | .bool,v,k,k',_,h=>by
   simp only [sQ,sB,abA,cM]at h
   simp only [cO]
   exact ⟨.inl h.1.symm,h.2⟩
 | .str,v,k,k',_,h=>by
   simp only [sQ,sB,abA]at h
   simp only [cM]at h;simp only[cO];exact⟨h.1.symm,h.2⟩
 | .agg ts,v,k,k',ho,h=>by
   simp only [sQ,sB,abA]at h;simp only[wD]at ho
   obtain ⟨h1,h2⟩:=jb ts _ k k' ho h.2
   simp only [cO];exact⟨⟨h.1.symm,h1⟩,h2⟩
 | .sl ts,v,k,k',ho,h=>by
   have ho':=ho
   simp only [wD,aaw]at ho
   by_cases hv:∃ n m f,v=.sq n m f
   ·obtain⟨n,m,f,rfl⟩:=hv
    simp only [sQ,sB]at h
    obtain ⟨h1,h2⟩:=As (P:=fun j=>bp ts (f j)) (fun j k k' hj=>jb ts (f j) k k' ho.2 hj) m k k' h
    simp only [cO,aN,bO,Le]
    exact ⟨⟨.inr rfl,ho.1,h1⟩,h2⟩
   ·have h':cM (.sl ts) v=v/\k=k':=by
     cases v<;>first|exact(hv ⟨_,_,_,rfl⟩).elim|(simp only[sQ,sB,abA]at h;exact h)
    have:=AL [.sl ts] [v] (by simp only[fF,ho',Bool.and_true]) (by simp only[al,aE,ae,h'.1])
    simp only [bp,aE]at this
    exact ⟨this.2.1,h'.2⟩
 | .fn f xs ys,v,k,k',ho,h=>by
   simp only [sQ,sB,abA]at h;simp only[wD,aaw]at ho
   obtain ⟨h1,h2⟩:=jb xs _ _ _ ho.1 h.2
   obtain ⟨h3,h4⟩:=jb ys _ _ _ ho.2 h2
   simp only [cO];exact⟨⟨h.1.symm,h1,h3⟩,h4⟩
 | .pd ts,v,k,k',ho,h=>by
   simp only [sQ,sB,abA]at h;simp only[wD,aaw]at ho
   obtain ⟨h1,h2⟩:=jb ts _ k k' ho.2 h.2
   simp only [cO];exact⟨⟨h.1.symm,ho.1,h1⟩,h2⟩
theorem jb:∀ (ts:List Ty) (vs:List V) (k k':List V),fF ts=true->lw ts vs k=lB ts vs k'->bp ts vs/\k=k'
 | [],vs,k,k',_,h=>by
   simp only [lw,lB,abA,V.agg.injEq]at h
   simp only [bp];exact⟨h.1.symm,h.2⟩
 | t::ts,vs,k,k',ho,h=>by
   simp only [lw,lB,abA,V.agg.injEq]at h;simp only[fF,aaw]at ho
   obtain ⟨h1,h2⟩:=alM t _ _ _ ho.1 h.2
   obtain ⟨h3,h4⟩:=jb ts _ _ _ ho.2 h2
   simp only [bp];exact⟨⟨h.1.symm,h1,h3⟩,h4⟩
end
def bL (ts:List Ty) (pre:List V->Prop) (r:List V->V):av:=fun ds=>some ((lw ts ds [],lB ts ds []),pre (j9 ts ds),r (j9 ts ds))
theorem WH {α:Type} {P:Program} {eqs:List TypeId} {its:List gH} {ct:aZ} {f:FuncId} {fn:Func} {sf:aK} {un:kk} {ts:List Ty} {pre:List V->Prop} {r:List V->V} {K0:V->T α} {Q0:V->α->Prop} (hK0:∀ w0 r v,bu (cV w0 (SV ct)) (K0 v) (Q0 r)->cz v=cz r) (hT:aO P eqs its ct) (hE:∀ t∈eqs,cU P t) (hI:kG P eqs its) (hf:P.funcs[f]? = some fn)
 (hn : (fn.name == "runtime.NumGoroutine") = false) (hc : dW P eqs its fn = some sf) (hd : fj sf.ntmps sf.body = true) (ho : fF ts = true)
 (h:∀ w0 ds,pre (al ts ds)->bu (cV w0 (SV ct)) (m6 (mQ ct LV) (mo ct) un LV sf (al ts ds) [] fun v _=>K0 v) (Q0 (r (al ts ds)))):(vP (bL ts pre r)).Ok P f:=by
 refine ⟨fun B m lh w args vs K hrel hargs hsp=>?_,fun _ _ _ _ _ hk ⟨ds,d,p,r,h1,h2,h3,h4,h5⟩=>⟨ds,d,p,r,h1,h2,h3,h4,hk _ _ h5⟩,fun _ _ _ _ ⟨_,_,_,_,_,_,_,_,h⟩=>h⟩
 obtain ⟨ds,d,p,r',h1,h2,⟨h30,h3⟩,h4,h5⟩:=hsp
 simp only [bL,aaB,Prod.mk.injEq]at h2
 obtain ⟨rfl,rfl,rfl⟩:=h2
 have hty:=(jb ts ds [] [] ho h30).1
 rw [(fW ts ds [] [] h30).1]at h3 h4 h5
 have key2:=aiR (C:=fun ds'=>some ((ds',al ts ds),pre (al ts ds),r (al ts ds))) (P:=P) (f:=f) hK0 hT hE hI hf hn hc hd (fun w0 ds' d' p' r' e he hp _=>by
  simp only [aaB,Prod.mk.injEq]at e
  obtain ⟨rfl,rfl,rfl⟩:=e
  simp only at he
  subst he
  exact h w0 ds hp)
 exact key2.sound B m lh w args vs K hrel hargs ⟨al ts ds,_,_,_,eR ts ds args hty h1,rfl,⟨rfl,h3⟩,h4,h5⟩
theorem TD {α:Type} {P:Program} {eqs:List TypeId} {its:List gH} {ct:aZ} {f:FuncId} {fn:Func} {sf:aK} {un:kk} {e:Nat} {ty:TypeId} {ts:List Ty} {pre:List V->Prop} {r:List V->V} {K0:V->List O->T α} {Q0:V->α->Prop} (hK0:∀ w0 r v h,bu (cV w0 (SV ct)) (K0 v h) (Q0 r)->Ll h v=true/\cz (LH e ty h v)=cz r) (hT:aO P eqs its ct) (hE:∀ t∈eqs,cU P t) (hI:kG P eqs its) (hf:P.funcs[f]? = some fn)
 (hn : (fn.name == "runtime.NumGoroutine") = false) (hc : dW P eqs its fn = some sf) (hd : fj sf.ntmps sf.body = true) (ho : fF ts = true)
 (h:∀ w0 ds,pre (al ts ds)->bu (cV w0 (SV ct)) (m6 (mQ ct LV) (mo ct) un LV sf (al ts ds) [] K0) (Q0 (r (al ts ds)))):(vL e ty (bL ts pre r)).Ok P f:=by
 refine ⟨fun B m lh w args vs K hrel hargs hsp=>?_,fun _ _ _ _ _ hk ⟨ds,d,p,r,n,g,h1,h2,h3,h4,h5,h6⟩=>⟨ds,d,p,r,n,g,h1,h2,h3,h4,h5,fun x new hx=>hk _ _ (h6 x new hx)⟩,fun _ _ lh _ ⟨_,_,_,_,_,_,_,_,_,h4,h5,h6⟩=>let ⟨x,new,hx⟩:=exL (ty:=ty) h4 h5 lh;h6 x new hx⟩
 obtain ⟨ds,d,p,r',n,g,h1,h2,⟨h30,h3⟩,h4,h5,h6⟩:=hsp
 simp only [bL,aaB,Prod.mk.injEq]at h2
 obtain ⟨rfl,rfl,rfl⟩:=h2
 have hty:=(jb ts ds [] [] ho h30).1
 rw [(fW ts ds [] [] h30).1]at h3 h4 h5 h6
 have key2:=aiv (e:=e) (ty:=ty) (C:=fun ds'=>some ((ds',al ts ds),pre (al ts ds),r (al ts ds))) (P:=P) (f:=f) hK0 hT hE hI hf hn hc hd (fun w0 ds' d' p' r' e he hp=>by
  simp only [aaB,Prod.mk.injEq]at e
  obtain ⟨rfl,rfl,rfl⟩:=e
  simp only at he
  subst he
  exact h w0 ds hp)
 exact key2.sound B m lh w args vs K hrel hargs ⟨al ts ds,_,_,_,n,g,eR ts ds args hty h1,rfl,⟨rfl,h3⟩,h4,h5,h6⟩
abbrev ni:=List (Option (Option Nat))
def dB (ρ:ni) (k:Nat):Option (Option Nat):=match fM ρ k with
 |some x=>x
 |none=>none
mutual
def cw (ρ:ni):V->V->Prop
 |v,.any=>True∨v=.any
 |.int k a,.int k' b=>k=k'/\a=b
 |.bool a,.bool b=>a=b
 |.kb a,.bool b=>a=b
 |.kb a,.kb b=>a=b
 |.str a,.str b=>a=b
 |.agg xs,.agg ys=>eH ρ xs ys
 |.tup xs,.tup ys=>eH ρ xs ys
 |.fn f xs ys,.fn g us vs=>f=g/\eH ρ xs us/\eH ρ ys vs
 |.sl n f,.sl m g=>n=m/\f=g
 |.pd cs,.pd ds=>cs=ds
 |.pl k o,.pl k1 o1=>dB ρ k1=some (some k)/\o=o1
 |.pe k i j,.pe k1 i1 j1=>dB ρ k1=some (some k)/\i=i1/\j=j1
 |.ss k o n c,.ss k1 o1 n1 c1=>dB ρ k1=some (some k)/\o=o1/\n=n1/\c=c1
 |.gs k n,.gs k1 n1=>dB ρ k1=some (some k)/\n=n1
 |.ns,.gs k1 n1=>dB ρ k1=some none/\n1=0
 |.ns,.ns=>True
 |.np,.np=>True
 |.yl l,.yl l1=>l=l1
 |.go k o n,.go k1 o1 n1=>dB ρ k1=some (some k)/\o=o1/\n=n1
 |_,_=>False
def eH (ρ:ni):List V->List V->Prop
 |[],[]=>True
 |x::xs,y::ys=>cw ρ x y/\eH ρ xs ys
 |_,_=>False
end
def u3 (ρ:ni) (e:bD):bD->Prop
 |[]=>True
 |(s,v)::l=>cw ρ (iW e s) v/\u3 ρ e l
def Ey (ρ:ni) (h:List O) (k:Nat):O->Prop
 |.cells cs ty=>∃ j ds,dB ρ k=some (some j)/\fM h j=some (.cells ds ty)/\eH ρ ds cs
 |.gl e n f ty=>(dB ρ k=some none/\n=0)∨∃ j m g,dB ρ k=some (some j)/\fM h j=some (.gl e m g ty)/\n<=m/\∀ i,i<n->lX e (f i)=true/\eH ρ (g i) (f i)
 |.dead=>False
 |.hid=>True
def uV (ρ:ni) (h:List O):Nat->List O->Prop
 |_,[]=>True
 |k,o::l=>Ey ρ h k o/\uV ρ h (k+1) l
def q9 (x:Option (Option Nat)):ni->Bool
 |[]=>true
 | y::l=>(match x,y with
   |some (some a),some (some b)=>!Nat.beq a b
   |_,_=>true)&&q9 x l
def FZ:ni->Bool
 |[]=>true
 |x::l=>q9 x l&&FZ l
def RI (ρ:ni):Nat->Bool
 |0=>true
 | k+1=>(match dB ρ k with
   |some (some j)=>Nat.beq j k
   |_=>false)&&RI ρ k
def lV (ρ:ni) (ν:Nu):Nu:=⟨fun k=>match dB ρ k with
 |some (some j)=>ν j
 |some none=>some none
 |none=>none,ν.z⟩
section
variable {w0:World} {ν:Nu} {ρ:ni} {lh:List ao}
mutual
theorem JP:∀ (v v1:V) (a:ak),cw ρ v v1->vr w0 ν.z ν v a->vr w0 ν.z (lV ρ ν) v1 a
 | .int k n,v1,a,h,hv=>by
   cases v1<;>simp only[cw]at h
   case int=>obtain⟨rfl,rfl⟩:=h;simp only[vr]at hv ⊢;exact hv
   case any=>simp only[vr]
 | .bool b,v1,a,h,hv=>by
   cases v1<;>simp only[cw]at h
   case bool=>subst h;simp only[vr]at hv ⊢;exact hv
   case any=>simp only[vr]
 | .kb b,v1,a,h,hv=>by
   cases v1<;>simp only[cw]at h
   case bool=>subst h;simp only[vr]at hv ⊢;exact hv
   case kb=>subst h;simp only[vr]at hv ⊢;exact hv
   case any=>simp only[vr]
 | .str b,v1,a,h,hv=>by
   cases v1<;>simp only[cw]at h
   case str=>subst h;simp only[vr]at hv ⊢;exact hv
   case any=>simp only[vr]
 | .agg xs,v1,a,h,hv=>by
   cases v1<;>simp only[cw]at h
   case agg=>simp only[vr]at hv ⊢;obtain⟨az,h1,h2⟩:=hv;exact⟨az,h1,iV xs _ az h h2⟩
   case any=>simp only[vr]
 | .tup xs,v1,a,h,hv=>by
   cases v1<;>simp only[cw]at h
   case tup=>simp only[vr]at hv ⊢;obtain⟨az,h1,h2⟩:=hv;exact⟨az,h1,iV xs _ az h h2⟩
   case any=>simp only[vr]
 | .fn f xs ys,v1,a,h,hv=>by
   cases v1<;>simp only[cw]at h
   case fn=>obtain⟨rfl,g1,g2⟩:=h;simp only[vr]at hv ⊢;obtain⟨az,bs,h1,h2,h3⟩:=hv;exact⟨az,bs,h1,iV xs _ az g1 h2,iV ys _ bs g2 h3⟩
   case any=>simp only[vr]
 | .sl n f,v1,a,h,hv=>by
   cases v1<;>simp only[cw]at h
   case sl=>obtain⟨rfl,rfl⟩:=h;simp only[vr]at hv ⊢;exact hv
   case any=>simp only[vr]
 | .pd cs,v1,a,h,hv=>by
   cases v1<;>simp only[cw]at h
   case pd=>subst h;simp only[vr]at hv ⊢;exact hv
   case any=>simp only[vr]
 | .pl k o,v1,a,h,hv=>by
   cases v1<;>simp only[cw]at h
   case pl=>obtain⟨h1,rfl⟩:=h;simp only[vr]at hv ⊢;simp only[lV,h1];exact hv
   case any=>simp only[vr]
 | .pe k i j,v1,a,h,hv=>by
   cases v1<;>simp only[cw]at h
   case pe=>obtain⟨h1,rfl,rfl⟩:=h;simp only[vr]at hv ⊢;simp only[lV,h1];exact hv
   case any=>simp only[vr]
 | .ss k o n c,v1,a,h,hv=>by
   cases v1<;>simp only[cw]at h
   case ss=>obtain⟨h1,rfl,rfl,rfl⟩:=h;simp only[vr]at hv ⊢;simp only[lV,h1];exact hv
   case any=>simp only[vr]
 | .gs k n,v1,a,h,hv=>by
   cases v1<;>simp only[cw]at h
   case gs=>obtain⟨h1,rfl⟩:=h;simp only[vr]at hv ⊢;simp only[lV,h1];exact hv
   case any=>simp only[vr]
 | .ns,v1,a,h,hv=>by
   cases v1<;>simp only[cw]at h
   case gs=>obtain⟨h1,rfl⟩:=h;simp only[vr]at hv ⊢;simp only[lV,h1];exact .inl ⟨trivial,trivial,hv⟩
   case ns=>simp only[vr]at hv ⊢;exact hv
   case any=>simp only[vr]
 | .np,v1,a,h,hv=>by
   cases v1<;>simp only[cw]at h
   case np=>simp only[vr]at hv ⊢;exact hv
   case any=>simp only[vr]
 | .any,v1,a,h,hv=>by
   cases v1<;>simp only[cw]at h
   case any=>simp only[vr]
 | .gd b v,v1,a,h,hv=>by
   cases v1<;>simp only[cw]at h
   case any=>simp only[vr]
 | .yl l,v1,a,h,hv=>by
   cases v1<;>simp only[cw]at h
   case yl=>subst h;simp only[vr]at hv ⊢;exact hv
   case any=>simp only[vr]
 | .go k o n,v1,a,h,hv=>by
   cases v1<;>simp only[cw]at h
   case go=>obtain⟨h1,rfl,rfl⟩:=h;simp only[vr]at hv ⊢;simp only[lV,h1];exact hv
   case any=>simp only[vr]
 | .sq n m f,v1,a,h,hv=>by
   cases v1<;>simp only[cw]at h
   case any=>simp only[vr]
theorem iV:∀ (vs us:List V) (az:List ak),eH ρ vs us->bg w0 ν.z ν vs az->bg w0 ν.z (lV ρ ν) us az
 |[],[],az,_,hv=>by simp only[bg]at hv ⊢;exact hv
 | v::vs,u::us,az,h,hv=>by
   simp only [eH]at h
   simp only [bg]at hv ⊢
   obtain ⟨x,xs,h1,h2,h3⟩:=hv
   exact ⟨x,xs,h1,JP v u x h.1 h2,iV vs us xs h.2 h3⟩
 |[],_::_,_,h,_=>by simp only[eH]at h
 |_::_,[],_,h,_=>by simp only[eH]at h
end
theorem yi:∀ {e e1:bD} (s:Nat),u3 ρ e e1->iW e1 s=.any∨cw ρ (iW e s) (iW e1 s)
 |e,[],s,_=>.inl rfl
 | e,(d,v)::l,s,h=>by
   simp only [u3]at h
   rw [lD]
   by_cases hd:s=d
   ·subst hd;rw[aby rfl];exact .inr h.1
   ·rw[aaT hd];exact yi s h.2
theorem mC {h:List O}:∀ {l:List O} {k i:Nat} {o:O},uV ρ h k l->l[i]? = some o->Ey ρ h (k+i) o
 |[],_,_,_,_,hi=>by simp at hi
 |x::l,k,0,o,hh,hi=>by simp at hi;subst hi;exact hh.1
 | x::l,k,i+1,o,hh,hi=>by
   have:=mC (i:=i) hh.2 (by simpa using hi)
   rwa [show k+1+i=k+(i+1) by omega]at this
theorem pR:∀ {l:ni} {a i:Nat},q9 (some (some a)) l=true->fM l i=some (some (some a))->False
 |[],_,_,_,h=>by cases h
 | y::l,a,0,h,hi=>by
   simp only [fM,aaB]at hi;subst hi
   simp [q9]at h
 | y::l,a,i+1,h,hi=>by
   simp only [q9,aaw]at h
   exact pR h.2 hi
theorem HU:∀ {l:ni} {a i j:Nat},FZ l=true->fM l i=some (some (some a))->fM l j=some (some (some a))->i=j
 |[],_,_,_,_,h,_=>by cases h
 |x::l,a,0,0,_,_,_=>rfl
 | x::l,a,i+1,0,h,hi,hj=>by
   simp only [FZ,aaw]at h
   simp only [fM,aaB]at hj;subst hj
   exact (pR h.1 hi).elim
 | x::l,a,0,j+1,h,hi,hj=>by
   simp only [FZ,aaw]at h
   simp only [fM,aaB]at hi;subst hi
   exact (pR h.1 hj).elim
 | x::l,a,i+1,j+1,h,hi,hj=>by
   simp only [FZ,aaw]at h
   rw [HU h.2 hi hj]
theorem GK:∀ {n k:Nat},RI ρ n=true->k<n->dB ρ k=some (some k)
 | n+1,k,h,hk=>by
   simp only [RI,aaw]at h
   rcases Nat.lt_succ_iff_lt_or_eq.1 hk with hk|rfl
   ·exact GK h.2 hk
   ·have h1:=h.1
    split at h1
    ·rename_i j hj;rw[hj,aax h1]
    ·cases h1
theorem wK {k j:Nat} (h:dB ρ k=some (some j)):fM ρ k=some (some (some j)):=by
 unfold dB at h
 split at h
 ·rename_i x hx;rw[hx,h]
 ·cases h
theorem j7.ren (w0:World) {nb:Nat} {e e1:bD} {h h1:List O} (ρ:ni) (hl:Nat.beq (bI ρ) (bI h1)=true) (hi:FZ ρ=true) (hid:RI ρ nb=true) (he:u3 ρ e e1) (hh:uV ρ h 0 h1):j7 w0 nb e h e1 h1:=by
 intro N ν nV nS sl lh hs hr
 have hlen:ρ.length=h1.length:=by have:=aax hl;rwa [bG,bG]at this
 have hlive:∀ k,ba h1 k->∀ x,lV ρ ν k=some (some x)->∃ j,dB ρ k=some (some j)/\ba h j/\ν j=some (some x):=fun k hk x hx=>by
  have hx':=hx
  simp only [lV]at hx
  split at hx
  ·rename_i j hj
   refine ⟨j,hj,?_,hx⟩
   rcases ft hk with ⟨cs,ty,hc⟩|⟨e',n,f,ty,hc⟩
   ·obtain⟨j',ds,g1,g2,g3⟩:=mC (k:=0) (i:=k) hh hc
    rw [aeb,hj]at g1;cases g1
    exact dM (by rwa [be]at g2)
   ·rcases mC (k:=0) (i:=k) hh hc with ⟨g1,_⟩|⟨j',m,g,g1,g2,_⟩
    ·rw[aeb,hj]at g1;cases g1
    ·rw[aeb,hj]at g1;cases g1
     exact fY (by rwa [be]at g2)
  ·cases hx
  ·cases hx
 refine ⟨lV ρ ν,0,0,⟨fun k x hk hx=>by simp only[lV,GK hid hk];exact hx,lA _⟩,⟨hs.len,fun i=>?_⟩,⟨fun k o hk=>?_,fun k k' x x' hk hk' hx hx' hxx=>?_,fun k hk=>?_,fun k x hx=>?_,hr.zl,fun k x hk hx=>let ⟨j,_,g2,g3⟩:=hlive k hk x hx;hr.zn j x g2 g3⟩⟩
 ·rcases yi i he with h0|h0
  ·rw[h0];simp only[vr]
  ·exact JP _ _ _ h0 (hs.at' i)
 ·have hb:=mC (k:=0) (i:=k) hh hk
  rw [aeb]at hb
  cases o with
  | cells cs ty =>
    obtain ⟨j,ds,g1,g2,g3⟩:=hb
    rw [be]at g2
    obtain ⟨b,c,e',az,k1,k2,k3⟩:=hr.blk j _ g2
    exact ⟨b,c,e',az,by simp only[lV,g1];exact k1,k2,iV _ _ _ g3 k3⟩
  | gl e' n f ty =>
    rcases hb with ⟨g1,rfl⟩|⟨j,m,g,g1,g2,g3,g4⟩
    ·exact .inl ⟨by simp only[lV,g1],rfl⟩
    ·rw[be]at g2
     rcases hr.blk j _ g2 with ⟨k1,k2⟩|⟨b,c,az,k1,k2,k3,k4,k5⟩
     ·exact .inl ⟨by simp only[lV,g1];exact k1,by omega⟩
     ·exact .inr ⟨b,c,az,by simp only[lV,g1];exact k1,k2,k3,⟨by omega,by omega⟩,fun i hi=>⟨(g4 i hi).1,iV _ _ _ (g4 i hi).2 (k5 i (by omega)).2⟩⟩
  |dead=>exact hb.elim
  |hid=>trivial
 ·obtain⟨j,g1,g2,g3⟩:=hlive k hk x hx
  obtain ⟨j',g1',g2',g3'⟩:=hlive k' hk' x' hx'
  have:=hr.inj j j' x x' g2 g2' g3 g3' hxx
  subst this
  exact HU hi (wK g1) (wK g1')
 ·simp only[lV,dB,be]
  rw [abm (by omega)]
 ·simp only[lV]at hx
  split at hx
  ·exact hr.rng _ x hx
  ·cases hx
  ·cases hx
theorem j7.refl (w0:World) (nb:Nat) (e:bD) (h:List O):j7 w0 nb e h e h:=fun N ν nV nS sl lh hs hr=>⟨ν,nV,nS,NuN.refl _ _,hs,hr⟩
theorem j7.trans {w0:World} {nb:Nat} {e e1 e2:bD} {h h1 h2:List O} (a:j7 w0 nb e h e1 h1) (b:j7 w0 nb e1 h1 e2 h2):j7 w0 nb e h e2 h2:=fun N ν nV nS sl lh hs hr=>by
 obtain ⟨ν1,nV1,nS1,g0,g1,g2⟩:=a N ν nV nS sl lh hs hr
 obtain ⟨ν2,nV2,nS2,k0,k1,k2⟩:=b N ν1 nV1 nS1 sl lh g1 g2
 exact ⟨ν2,nV2,nS2,g0.trans k0,k1,k2⟩
end
def xU {α:Type}:T α->List Bool->T α
 |t,[]=>t
 |.br _ x y,p::ps=>cond p (xU x ps) (xU y ps)
 |.und x y,p::ps=>cond p (xU x ps) (xU y ps)
 |.asm _ x,ps=>xU x ps
 |.ob _ x,ps=>xU x ps
 |.obi _ _ x,ps=>xU x ps
 |.obp _ x,ps=>xU x ps
 |.obq _ _ x,ps=>xU x ps
 |t,_=>t
def yR {α:Type}:T α->T α
 |.ob _ x=>yR x
 |.obi _ _ x=>yR x
 |.obp _ x=>yR x
 |.obq _ _ x=>yR x
 |.asm _ x=>yR x
 |t=>t
def hT:T (Ex×bD×List O)->List O
 |.ret r=>r.2.2
 |_=>[]
def US {α:Type}:T α->Nat->T α
 |.all f=>f
 |_=>fun _=>.fail 0
def eZ {α:Type} (t:T α) (p:List Bool):T α:=yR (xU t p)
theorem alb {ct:aZ} {w0:World} (hd:o9 ct=true) {lv nb:Nat} {un:kk} {body:fS} {e:bD} {h:List O} {Post:Ex->bD->List O->Option Ex->Prop} (bi:Nat)
 (I:Type) (inv:I->bD×List O) (μ:I->Nat) (h0:∃ i,j7 w0 nb e h (inv i).1 (inv i).2)
 (round:∀ i,bu (cV w0 (SV ct)) (ti (mQ ct lv) (mo ct) un (lv,nb) bi body (inv i).1 (inv i).2 fun x e h=>.ret (x,e,h)) fun r=>match r.1 with
   |.normal=>∃ i',j7 w0 nb r.2.1 r.2.2 (inv i').1 (inv i').2/\μ i'<μ i
   |x=>Post x r.2.1 r.2.2 none):cV w0 (SV ct) (lv,nb) (.s body) e h none Post :=
 YM (fr:=(lv,nb)) (oM w0 ct hd lv) (o0 w0 ct _ lv) I inv μ h0 round
theorem agw {ct:aZ} {w0:World} (hd:o9 ct=true) {lv nb:Nat} {un:kk} {body:gW} {rd:RD} {e:bD} {h:List O} {g:Option Ex} {Post:Ex->bD->List O->Option Ex->Prop} (bi bi':Nat)
 (I:Type) (inv:I->bD×List O×Option Ex) (μ:I->Nat) (h0:∃ i,g=(inv i).2.2/\j7 w0 nb e h (inv i).1 (inv i).2.1)
 (round:∀ i,bu (cV w0 (SV ct)) (mA (mQ ct lv) (mo ct) un (lv,nb) rd (rdY (mQ ct lv) (mo ct) un lv bi' rd) bi body (inv i).1 (inv i).2.1 (inv i).2.2 fun x e h g=>.ret (x,e,h,g)) fun r=>match r.1 with
   |.normal=>∃ i',r.2.2.2=(inv i').2.2/\j7 w0 nb r.2.1 r.2.2.1 (inv i').1 (inv i').2.1/\μ i'<μ i
   |x=>Post x r.2.1 r.2.2.1 r.2.2.2):cV w0 (SV ct) (lv,nb) (.i body rd) e h g Post :=
 Ni (fr:=(lv,nb)) (oM w0 ct hd lv) (o0 w0 ct _ lv) I inv μ h0 round
def gt (P:Program) (rec:TypeId->Option (List Ty)):List Field->Nat->Option (List Ty×Nat)
 |[],off=>some ([],off)
 | f::l,off=>match rec f.type,gt P rec l (off+P.cellsOf f.type) with
   |some ts,some (us,n)=>if f.offset=off/\ts.length=P.cellsOf f.type then some (ts++us,n) else none
   |_,_=>none
def jD (P:Program):Nat->TypeId->Option (List Ty)
 |0,_=>none
 | fu+1,t=>match P.underlying t with
   |some .bool=>some [.bool]
   |some (.int k)=>some [.int k]
   |some .string=>some [.str]
   | some (.slice e)=>match jD P fu e with
     |some ts=>if ts.length=P.cellsOf e then some [.sl ts] else none
     |none=>none
   | some (.struct fs)=>match gt P (jD P fu) fs.toList 0 with
     |some (ts,n)=>if n=P.cellsOf t then some ts else none
     |none=>none
   | some (.array n e)=>match jD P fu e with
     |some ts=>if ts.length=P.cellsOf e/\P.cellsOf t=n*P.cellsOf e then some (List.replicate n ts).flatten else none
     |none=>none
   |_=>none
def rgI:IntKind->Int->Prop
 |.u8,n=>0<=n/\n<=255
 |_,_=>True
theorem Ta {k:IntKind} {n:Int} (h:(Lit.int k n).wf=true):rgI k n:=by
 have h1:(decide (k.min<=n)&&decide (n<=k.max))=true:=h
 rw [aaw,abN,abN]at h1
 cases k<;>first|trivial|exact⟨h1.1,h1.2⟩
mutual
def xX:Ty->V->Prop
 |.int k,v=>rgI k (iv v)
 |.str,v=>(sv v).size<=9223372036854775807
 |.agg ts,v=>gC ts (da v)
 |.sl ts,v=>∀ i,i<aN v->gC ts (bO v i)
 |_,_=>True
def gC:List Ty->List V->Prop
 |[],_=>True
 |t::ts,vs=>xX t (aE vs)/\gC ts (ae vs)
end
mutual
theorem KW:∀ (t:Ty) (v:V),xX t v->xX t (cM t v)
 |.int k,v,h=>by simp only[cM,xX,iv]at h ⊢;exact h
 |.bool,_,_=>trivial
 |.str,v,h=>by simp only[cM,xX,sv]at h ⊢;exact h
 |.agg ts,v,h=>by simp only[cM,xX,da]at h ⊢;exact iC ts _ h
 |.sl ts,v,h=>by simp only[cM,xX,aN,bO]at h ⊢;exact fun i hi=>iC ts _ (h i hi)
 |.fn ..,_,_=>trivial
 |.pd _,_,_=>trivial
theorem iC:∀ (ts:List Ty) (vs:List V),gC ts vs->gC ts (al ts vs)
 |[],_,_=>trivial
 |t::ts,vs,h=>by simp only[gC,al,aE,ae]at h ⊢;exact⟨KW t _ h.1,iC ts _ h.2⟩
end
section
variable {w:World}
theorem mh:∀ {ts us:List Ty} {vs xs:List V},bp ts vs->gC ts vs->gC us xs->gC (ts++us) (vs++xs)
 |[],_,_,_,h,_,k=>by simp only[bp]at h;subst h;simpa using k
 | t::ts,us,vs,xs,h,hz,k=>by
   simp only [bp]at h
   rw [h.1]
   simp only [gC]at hz
   simp only [api,gC,aE,ae]
   exact ⟨hz.1,mh h.2.2 hz.2 k⟩
theorem lk:∀ {ts us:List Ty} {vs xs:List V},bp ts vs->bp us xs->bp (ts++us) (vs++xs)
 |[],_,_,_,h,k=>by simp only[bp]at h;subst h;simpa using k
 | t::ts,us,vs,xs,h,k=>by
   simp only [bp]at h
   rw [h.1]
   simp only [api,bp,aE,ae]
   exact ⟨trivial,h.2.1,lk h.2.2 k⟩
theorem jG {w:World} {a:Addr}:∀ (n i:Nat) (cs:List Value),(List.range' i n).mapM (fun j=>w.cell? (a.add j))=some cs->fG w a i n=some (cs.map bz):=by
 intro n
 induction n with
 |zero=>intro i cs h;simp at h;subst h;rfl
 | succ n ih =>
   intro i cs h
   simp only [anv,apJ]at h
   cases hc:w.cell? (a.add i) with
   |none=>simp[hc]at h
   | some v =>
     cases hr:(List.range' (i+1) n).mapM (fun j=>w.cell? (a.add j)) with
     |none=>simp[hc,hr]at h
     | some l =>
       simp [hc,hr]at h
       subst h
       simp [fG,hc,ih (i+1) l hr]
theorem Uy {a:Addr} {n c esz:Nat} {ts:List Ty} (hn:n<=c) (hc:c<=maxLen) (hcell:ts.all bU=true)
 (h:∀ i,i<n->∃ cs:List Value,fG w (a.add (i*esz)) 0 esz=some (cs.map bz)/\∃ vs,bg w [] Nu.nil vs (cs.map bz)/\(bp ts vs/\gC ts vs)/\vs.all V.fc=true) :
 ∃ v,vr w [] Nu.nil v (.slice (some (.g a)) n c)/\(cO (.sl ts) v/\xX (.sl ts) v)/\v.fc=true:=by
 classical
 refine ⟨.sl n fun i=>if hi:i<n then(Classical.choose (Classical.choose_spec (h i hi)).2) else [],?_,?_,rfl⟩
 ·simp only[vr]
  refine ⟨some (.g a),c,esz,rfl,hn,by unfold maxLen at hc;omega,trivial,fun i hi=>?_⟩
  have h1:=Classical.choose_spec (h i hi)
  have h2:=Classical.choose_spec h1.2
  refine ⟨.g a,(Classical.choose (h i hi)).map bz,rfl,?_,?_,?_⟩
  ·simp only[gR.add,lds];exact h1.1
  ·simp only[hi,dite_true];exact h2.1
  ·simp only[hi,dite_true];exact h2.2.2
 ·simp only [cO,xX,aN,bO,Le]
  refine ⟨⟨.inl rfl,hcell,fun i hi=>?_⟩,fun i hi=>?_⟩
  ·simp only[hi,dite_true]
   exact (Classical.choose_spec (Classical.choose_spec (h i hi)).2).2.1.1
  ·simp only[hi,dite_true]
   exact (Classical.choose_spec (Classical.choose_spec (h i hi)).2).2.1.2
end
theorem rq:∀ {ts:List Ty} {vs:List V},bp ts vs->ts.all bU=true->vs.all V.fc=true
 |[],vs,h,_=>by simp only[bp]at h;subst h;rfl
 | t::ts,vs,h,ho=>by
   simp only [bp]at h
   simp only [adT,aaw]at ho
   rw [h.1]
   simp only [adT,aaw]
   refine ⟨?_,rq h.2.2 ho.2⟩
   have h1:=h.2.1
   cases t<;>simp only[cO]at h1
   case int=>rw[h1];rfl
   case bool=>rcases h1 with h1|h1<;>(rw[h1];rfl)
   case str=>rw[h1];rfl
   case sl=>rcases h1.1 with h0|h0<;>(rw[h0];rfl)
   all_goals simp[bU]at ho
section
variable {P:Program}
theorem mX {rec:TypeId->Option (List Ty)} (hr:∀ t ts,rec t=some ts->ts.all bU=true):∀ {fs:List Field} {off n:Nat} {ts:List Ty},gt P rec fs off=some (ts,n)->ts.all bU=true
 |[],off,n,ts,h=>by simp[gt]at h;rw[h.1];rfl
 | f::l,off,n,ts,h=>by
   simp only [gt]at h
   split at h
   ·rename_i us vs m h1 h2
    split at h
    ·cases h;rw[List.all_append,hr _ _ h1,mX hr h2];rfl
    ·cases h
   ·cases h
theorem iu:∀ {fu:Nat} {t:TypeId} {ts:List Ty},jD P fu t=some ts->ts.all bU=true
 |0,_,_,h=>by cases h
 | fu + 1,t,ts,h=>by
   simp only [jD]at h
   split at h
   ·cases h;rfl
   ·cases h;rfl
   ·cases h;rfl
   ·split at h
    ·split at h
     ·cases h;rfl
     ·cases h
    ·cases h
   ·split at h
    ·rename_i us n hf
     split at h
     ·cases h;exact mX (fun t ts=>iu (fu:=fu)) hf
     ·cases h
    ·cases h
   ·split at h
    ·rename_i us hu
     split at h
     ·cases h
      rw [anT];intro x hx
      obtain ⟨l,hl,hx⟩:=List.mem_flatten.1 hx
      rw [(List.mem_replicate.1 hl).2]at hx
      exact List.all_eq_true.1 (iu hu) x hx
     ·cases h
    ·cases h
   ·cases h
variable {H:Type} {enc:TypeId×Value->H} {w:World} {base:Nat} {spare:Nat->Bool} {held:Bool}
theorem tm {rec:TypeId->Option (List Ty)} {fuel:Nat} (hr:∀ t ts cs d ps,rec t=some ts->DataW.trod enc P w base spare held fuel t cs=some (d,ps)->∃ vs,bg w [] Nu.nil vs (cs.map bz)/\bp ts vs/\gC ts vs) (cs:List Value) :
 ∀ {fs:List Field} {off n:Nat} {ts:List Ty},gt P rec fs off=some (ts,n)->(∀ f∈fs,∃ x,DataW.trod enc P w base spare held fuel f.type ((cs.drop f.offset).take (P.cellsOf f.type))=some x)->cs.length=n ->
 ∃ vs,bg w [] Nu.nil vs ((cs.drop off).map bz)/\bp ts vs/\gC ts vs
 | [],off,n,ts,h,_,hl=>by
   simp [gt]at h
   obtain ⟨rfl,rfl⟩:=h
   exact ⟨[],by rw[List.drop_eq_nil_of_le (by omega)];simp[bg],by simp[bp],trivial⟩
 | f :: l,off,n,ts,h,hx,hl=>by
   simp only [gt]at h
   split at h
   ·rename_i us vs m h1 h2
    split at h
    ·rename_i hc
     cases h
     obtain ⟨rfl,hlen⟩:=hc
     obtain ⟨⟨d,ps⟩,ha⟩:=hx f ahE
     obtain ⟨v1,g1,g2,z1⟩:=hr _ _ _ _ _ h1 ha
     obtain ⟨v2,g3,g4,z2⟩:=tm hr cs h2 (fun g hg=>hx g (adx _ hg)) hl
     refine ⟨v1++v2,?_,lk g2 g4,mh g2 z1 z2⟩
     have e:cs.drop f.offset=(cs.drop f.offset).take (P.cellsOf f.type)++cs.drop (f.offset+P.cellsOf f.type):=by
      rw [← ajT];exact(aqd _ _).symm
     rw [e,List.map_append]
     exact ki g1 g3
    ·cases h
   ·cases h
theorem Gh {fuel k:Nat} {e:TypeId} {us:List Ty} (hr:∀ cs d ps,DataW.trod enc P w base spare held fuel e cs=some (d,ps)->∃ vs,bg w [] Nu.nil vs (cs.map bz)/\bp us vs/\gC us vs) (cs:List Value) :
 ∀ (n m:Nat),cs.length=(m+n)*k->(∀ i,m<=i->i<m+n->∃ x,DataW.trod enc P w base spare held fuel e ((cs.drop (i*k)).take k)=some x)->∃ vs,bg w [] Nu.nil vs ((cs.drop (m*k)).map bz)/\bp (List.replicate n us).flatten vs/\gC (List.replicate n us).flatten vs:=by
 intro n
 induction n with
 |zero=>intro m hl _;exact⟨[],by rw[List.drop_eq_nil_of_le (by simp at hl;omega)];simp[bg],by simp[bp],trivial⟩
 | succ n ih =>
   intro m hl h
   obtain ⟨x,hx⟩:=h m (aaS _) (by omega)
   obtain ⟨d,ps⟩:=x
   obtain ⟨v1,g1,g2,z1⟩:=hr _ _ _ hx
   obtain ⟨v2,g3,g4,z2⟩:=ih (m+1) (by rw[hl];congr 1;omega) (fun i h1 h2=>h i (by omega) (by omega))
   refine ⟨v1++v2,?_,by rw[ajX,apH];exact lk g2 g4,by rw[ajX,apH];exact mh g2 z1 z2⟩
   have e:cs.drop (m*k)=(cs.drop (m*k)).take k++cs.drop ((m+1)*k):=by
    rw [adm,← ajT];exact(aqd _ _).symm
   rw [e,List.map_append]
   exact ki g1 g3
theorem RY : ∀ (fuel fu:Nat) (t:TypeId) (ts:List Ty) (cs:List Value) (d:DataW H) (ps:List MemPlace),jD P fu t=some ts->DataW.trod enc P w base spare held fuel t cs=some (d,ps)->∃ vs,bg w [] Nu.nil vs (cs.map bz)/\bp ts vs/\gC ts vs:=by
 intro fuel
 induction fuel with
 |zero=>intro fu t ts cs d ps _ h;cases h
 | succ fuel ih =>
   intro fu t ts cs d ps ht h
   cases fu with
   |zero=>cases ht
   | succ fu =>
     have hok:=iu ht
     simp only [jD]at ht
     split at ht
     ·rename_i hu
      cases ht
      obtain ⟨b,rfl,_⟩:=DataW.trod_bool hu h
      exact ⟨[.bool b],by simp[bg,vr,bz],by simp[bp,cO,aE,ae,bv],trivial,trivial⟩
     ·rename_i k hu
      cases ht
      obtain ⟨n,rfl,_,hwf⟩:=DataW.trod_int hu h
      exact ⟨[.int k n],by simp[bg,vr,bz],by simp[bp,cO,aE,ae,iv],Ta hwf,trivial⟩
     ·rename_i hu
      cases ht
      obtain ⟨b,rfl,_,hb⟩:=DataW.trod_string hu h
      exact ⟨[.str b],by simp[bg,vr,bz],by simp[bp,cO,aE,ae,sv],(show b.size<=9223372036854775807 by unfold maxLen at hb;omega),trivial⟩
     ·rename_i e hu
      split at ht
      ·rename_i us hus
       split at ht
       ·rename_i hlen
        cases ht
        have hcell:=iu hus
        rcases DataW.trod_slice hu h with ⟨rfl,_⟩|⟨a,len,cap,elems,rest,n,hn,rfl,_,_,h3,h4,h5,h6,_⟩
        ·exact⟨[.sl 0 fun _=>[]],by simp only[ahC,apm,bz,bg,vr];exact⟨_,_,rfl,⟨none,0,0,rfl,aaS _,by omega,trivial,fun i hi=>by omega⟩,rfl⟩,by simp only[bp,cO,aE,ae,aN,Le];exact⟨trivial,⟨.inl rfl,hcell,fun i hi=>by omega⟩,trivial⟩,(fun i hi=>by simp[aN,aE]at hi),trivial⟩
        ·cases hn
         obtain ⟨v,g1,g2,_⟩:=Uy (w:=w) (a:=a) (n:=len) (c:=cap) (esz:=P.cellsOf e) (ts:=us) h3 h4 hcell (fun i hi=>by
          have h7:=h6 i hi
          rw [ach (by omega)]at h7
          cases hcs:w.cells? base (a.add (i*P.cellsOf e)) (P.cellsOf e) with
          |none=>rw[hcs]at h7;cases h7
          | some cs' =>
            rw [hcs]at h7
            obtain ⟨vs,g1,g2,z2⟩:=ih fu e us cs' elems[i].1 elems[i].2 hus h7
            unfold World.cells? at hcs
            split at hcs
            ·rw[aqs]at hcs
             exact ⟨cs',jG _ 0 cs' hcs,vs,g1,⟨g2,z2⟩,rq g2 hcell⟩
            ·cases hcs)
         exact ⟨[v],by simp only[ahC,apm,bz,bg];exact⟨_,_,rfl,g1,rfl⟩,by simp only[bp,aE,ae];exact⟨trivial,g2.1,trivial⟩,g2.2,trivial⟩
       ·cases ht
      ·cases ht
     ·rename_i fs hu
      split at ht
      ·rename_i us n hf
       split at ht
       ·rename_i hn
        cases ht
        obtain ⟨xs,m,hm,_,h3,h4,h5⟩:=DataW.trod_struct hu h
        cases hm
        have:=tm (off:=0) (fun t ts cs d ps=>ih fu t ts cs d ps) cs hf (fun f hf'=>by
         obtain ⟨i,hi,rfl⟩:=List.getElem_of_mem hf'
         simp at hi
         have h6:=h5 i fs[i] (by simp[hi])
         rw [ach (by omega)]at h6
         exact ⟨_,by simpa using h6⟩) (by rw[h3,hn])
        simpa using this
       ·cases ht
      ·cases ht
     ·rename_i n e hu
      split at ht
      ·rename_i us hus
       split at ht
       ·rename_i hc
        cases ht
        obtain ⟨xs,m,hm,_,h3,h4,h5⟩:=DataW.trod_array hu h
        cases hm
        have:=Gh (k:=P.cellsOf e) (fun cs d ps=>ih fu e us cs d ps hus) cs n 0 (by rw[h3,hc.2];simp) (fun i _ hi=>by
         have h6:=h5 i (by omega)
         rw [ach (by omega)]at h6
         exact ⟨_,h6⟩)
        simpa using this
       ·cases ht
      ·cases ht
     ·cases ht
end
end Go.Dx
namespace Go.Dx
open Go.Sx Go.RowKit
def pP:Value->ak
 |.agg cs=>.agg (cs.toList.map bz)
 |v=>bz v
theorem Fb (v:Value):vrel (fun _=>none) (pP v) v:=by
 unfold pP;split
 ·rename_i cs;simp only[vrel];exact⟨cs,rfl,bT _ _⟩
 ·exact bZ _ _
theorem tG:∀ vs:List Value,ar (fun _=>none) (vs.map pP) vs
 |[]=>by simp[ar]
 |v::vs=>by simp only[ahC,ar];exact⟨_,_,rfl,Fb v,tG vs⟩
def Nw (P:Program) (fu:Nat) (t:TypeId):Option Ty:=match P.underlying t with
 |some (.struct _)=>(jD P fu t).map .agg
 |some (.array _ _)=>(jD P fu t).map .agg
 |some (.int k)=>some (.int k)
 |some .bool=>some .bool
 |_=>none
def argTys (P:Program) (fu:Nat):List TypeId->Option (List Ty)
 |[]=>some []
 | t::ts=>match Nw P fu t,argTys P fu ts with
   |some x,some xs=>some (x::xs)
   |_,_=>none
section
variable {P:Program} {H:Type} {enc:TypeId×Value->H} {W:World} {base:Nat}
theorem aoG {fu:Nat} {t:TypeId} {ty:Ty} {v:Value} {d:DataW H} {ps:List MemPlace} {b:Nat} {spare:Nat->Bool} {held:Bool} (ht:Nw P fu t=some ty) (hv:Value.okWide P W .any base t v) (h:DataW.Trod enc P W b spare held t v d ps) :
 ∃ x,vr W [] Nu.nil x (pP v)/\cO ty x/\xX ty x:=by
 obtain ⟨fuel,h⟩:=h
 unfold Nw at ht
 unfold Value.okWide at hv
 split at ht
 ·rename_i fs hu
  rw [hu]at hv
  obtain ⟨cs,rfl,_,_⟩:=hv
  simp only [aaD]at ht
  obtain ⟨ts,hts,rfl⟩:=ht
  obtain ⟨vs,g1,g2,z2⟩:=RY fuel fu t ts _ d ps hts h
  exact ⟨.agg vs,by simp only[pP,vr];exact⟨_,rfl,g1⟩,by simp only[cO,da];exact⟨trivial,g2⟩,z2⟩
 ·rename_i n e hu
  rw [hu]at hv
  obtain ⟨cs,rfl,_,_⟩:=hv
  simp only [aaD]at ht
  obtain ⟨ts,hts,rfl⟩:=ht
  obtain ⟨vs,g1,g2,z2⟩:=RY fuel fu t ts _ d ps hts h
  exact ⟨.agg vs,by simp only[pP,vr];exact⟨_,rfl,g1⟩,by simp only[cO,da];exact⟨trivial,g2⟩,z2⟩
 ·rename_i k hu
  cases ht
  obtain ⟨n,hc,_,hwf⟩:=DataW.trod_int hu h
  have:v=.int k n:=by
   rw [hu]at hv
   unfold Cell.okWide at hv
   rw [hu]at hv
   cases v<;>simp_all [Value.cells,Cell.ok]
  subst this
  exact ⟨.int k n,by simp[pP,bz,vr],by simp[cO,iv],Ta hwf⟩
 ·rename_i hu
  cases ht
  obtain ⟨n,hc,_⟩:=DataW.trod_bool hu h
  have:v=.bool n:=by
   rw [hu]at hv
   unfold Cell.okWide at hv
   rw [hu]at hv
   cases v<;>simp_all [Value.cells,Cell.ok]
  subst this
  exact ⟨.bool n,by simp[pP,bz,vr],by simp[cO,bv],trivial⟩
 ·cases ht
theorem R3 {fu:Nat} {b:Nat} {spare:Nat->Bool} {held:Bool}:∀ {ts:List TypeId} {tys:List Ty} {vs:List Value} {ds:List (DataW H)} {ps:List MemPlace},argTys P fu ts=some tys->(∀ (j:Nat) t v,ts[j]? = some t->vs[j]? = some v->Value.okWide P W .any base t v)->DataW.TrodAll enc P W b spare held ts vs ds ps ->
 ∃ xs,bg W [] Nu.nil xs (vs.map pP)/\bp tys xs/\gC tys xs
 |[],tys,[],[],ps,ht,_,h=>by simp only[argTys,aaB]at ht;subst ht;exact⟨[],by simp[bg],by simp[bp],trivial⟩
 | t::ts,tys,v::vs,d::ds,ps,ht,hv,h=>by
   simp only [argTys]at ht
   split at ht
   ·rename_i x xs hx hxs
    cases ht
    obtain ⟨p,q,h1,h2,_⟩:=h
    obtain ⟨y,g1,g2,z1⟩:=aoG hx (hv 0 t v rfl rfl) h1
    obtain ⟨ys,g3,g4,z2⟩:=R3 hxs (fun j t v hj hvj=>hv (j+1) t v (by simpa using hj) (by simpa using hvj)) h2
    exact ⟨y::ys,by simp only[ahC,bg];exact⟨_,_,rfl,g1,g3⟩,by simp only[bp,aE,ae];exact⟨trivial,g2,g4⟩,z1,z2⟩
   ·cases ht
 |[],_,_::_,_,_,_,_,h=>by simp[DataW.TrodAll]at h
 |[],_,[],_::_,_,_,_,h=>by simp[DataW.TrodAll]at h
 |_::_,_,[],_,_,_,_,h=>by simp[DataW.TrodAll]at h
 |_::_,_,_::_,[],_,_,_,h=>by simp[DataW.TrodAll]at h
mutual
theorem yH:∀ (t:Ty) (v:V),cM t (cM t v)=cM t v
 |.int k,v=>by simp only[cM,iv]
 |.bool,v=>by simp only[cM,bv]
 |.str,v=>by simp only[cM,sv]
 |.agg ts,v=>by simp only[cM,da];rw[dP ts]
 |.sl ts,v=>by simp only[cM,aN,bO];congr 1;funext i;exact dP ts _
 |.fn f xs ys,v=>by simp only[cM,J6,JR];rw[dP xs,dP ys]
 |.pd ts,v=>by simp only[cM,HJ];rw[dP ts]
theorem dP:∀ (ts:List Ty) (vs:List V),al ts (al ts vs)=al ts vs
 |[],vs=>by simp only[al]
 |t::ts,vs=>by simp only[al,aE,ae];rw[yH t,dP ts]
end
mutual
theorem Qw:∀ (t:Ty) (v:V) (k:List V),sQ t (cM t v) k=sB t (cM t v) k
 |.int k,v,_=>by simp only[cM,sQ,sB,iv]
 |.bool,v,_=>by simp only[cM,sQ,sB,bv]
 |.str,v,_=>by simp only[cM,sQ,sB,sv]
 |.agg ts,v,k=>by simp only[cM,sQ,sB,da];rw[gq ts]
 | .sl ts,v,k=>by
   have:=yH (.sl ts) v
   simp only [cM]at this ⊢
   simp only [sQ,sB,cM,this]
 |.fn f xs ys,v,k=>by simp only[cM,sQ,sB,J6,JR];rw[gq ys,gq xs]
 |.pd ts,v,k=>by simp only[cM,sQ,sB,HJ];rw[gq ts]
theorem gq:∀ (ts:List Ty) (vs:List V) (k:List V),lw ts (al ts vs) k=lB ts (al ts vs) k
 |[],vs,k=>by simp only[al,lw,lB]
 |t::ts,vs,k=>by simp only[al,lw,lB,aE,ae];rw[gq ts,Qw t]
end
def lawC (tys:List Ty):av:=bL tys (gC tys) fun _=>.bool true
theorem law_calls {f:FuncId} {fu b:Nat} {spare:Nat->Bool} {held:Bool} {tys:List Ty} {ts:List TypeId} {args:Array Value} {ds:List (DataW H)} {ps:List MemPlace} (hOk:(vP (lawC tys)).Ok P f) (ht:argTys P fu ts=some tys)
 (hv:∀ (j:Nat) t v,ts[j]? = some t->args[j]? = some v->Value.okWide P W .any base t v) (hA:DataW.TrodAll enc P W b spare held ts args.toList ds ps) :
 Calls P f args W fun e W'=>e=.returned (.bool true)/\Below W.heap.size W W':=by
 obtain ⟨xs,g1,g2,z2⟩:=R3 (vs:=args.toList) ht (fun j t v hj hvj=>hv j t v hj (by simpa using hvj)) hA
 obtain ⟨_,hc⟩:=hOk.sound ⟨W,W,fun _=>False,[]⟩ (fun _=>none) [] W (args.toList.map pP) args.toList (fun r _=>r=.bool true) (a7.start W) (tG _)
  ⟨al tys xs,_,_,_,eR tys xs _ g2 g1,rfl,⟨gq tys xs [],by rw[(fW tys _ [] [] (gq tys xs [])).1];exact iC tys _ (iC tys xs z2)⟩,rfl,rfl⟩
 refine hc.mono fun e w' ⟨v,r,m',lh',he,hr,_,hh,hk⟩=>?_
 subst hk
 simp only [vrel]at hr
 subst hr
 exact ⟨he,hh.os,hh.tape,hh.output,hh.fsize,hh.old⟩
end
end Go.Dx
